/- Proved: the statement PastLast, as given (its conditions are those of the given row, and card where there is one; no others): the call ends, with true, and the input reads as it did. This file is one of its parts. -/
import Derived.WalkKit
import Derived.Deep.Quiet
import Derived.KernelRfl
import Derived.OrdersHeld
import Derived.Laws.StructEq
import Derived.ChangeKeysEq
import Derived.Laws.BytesString
import Derived.Laws.CopyRow
import Derived.Laws.Strings2
import Derived.Laws.Strings3
import Derived.Laws.Concat
import Derived.Laws.Externs
import Derived.Lib.Bytealg
import Derived.Maps.Keyed
import Derived.Carry
import Derived.DeepKeys4
import Derived.Test.YtlpggofilkfbnaaProg
import Derived.OpenShut
import Derived.ChangeArms
import Derived.DataReads
import Derived.WideShapes
import Derived.Below
import Derived.ChangeOld
import Derived.Test.YtlpggofilkfbnaaRows
import Derived.JoinedOf
import Derived.ProofKit
import Derived.ShutString
import Derived.SizedLaws
namespace Go.Proofs.Ytlpggofilkfbnaa.K
open Go
def lk : List (Nat × Value) → Nat → Option Value
  | [], _ => none
  | (k, v) :: l, i => match Nat.beq k i with
    | true => some v
    | false => lk l i
structure Fr (a : Act) (n : Nat) (L : List (Nat × Value)) : Prop where
  d : a.defers = []
  s : a.tmps.size = n
  g : ∀ i v, lk L i = some v → a.tmps[i]? = some v
def ov (L : List (Nat × Value)) : Operand → Option Value
  | .tmp t => lk L t
  | .const v => some v
  | .global g => some (.pointer (some ⟨g, 0, none⟩))
  | .func f => some (.func (.func f) #[] #[])
theorem Fr.ev {a : Act} {n : Nat} {L : List (Nat × Value)} (h : Fr a n L) {x : Operand} {v : Value} (hx : ov L x = some v) : a.eval x = v := by
  cases x with
  | tmp t =>
    have := h.g t v hx
    simp [Act.eval, Array.getD_eq_getD_getElem?, this]
  | const c => simpa [ov, Act.eval] using hx
  | global g => simpa [ov, Act.eval] using hx
  | func f => simpa [ov, Act.eval] using hx
theorem Fr.put {a : Act} {n : Nat} {L : List (Nat × Value)} (h : Fr a n L) {d : Nat} (hd : Nat.ble (d + 1) n = true) (v : Value) : Fr (a.put (some d) v) n ((d, v) :: L) := by
  have hdn : d < n := Nat.le_of_ble_eq_true hd
  refine ⟨h.d, by simp [Act.put, h.s], fun i u hi => ?_⟩
  simp only [lk] at hi
  simp only [Act.put, Array.getElem?_setIfInBounds]
  by_cases e : d = i
  · subst e
    have : Nat.beq d d = true := Nat.beq_refl d
    rw [this] at hi
    simp only [Option.some.injEq] at hi
    simp [h.s, hdn, hi]
  · have : Nat.beq d i = false := by
      cases hb : Nat.beq d i with
      | false => rfl
      | true => exact absurd (Nat.eq_of_beq_eq_true hb) e
    rw [this] at hi
    rw [if_neg e]
    exact h.g i u hi
def subL (L : List (Nat × Value)) : List (Nat × Value) → Prop
  | [] => True
  | (i, v) :: t => lk L i = some v ∧ subL L t
theorem Fr.sub {a : Act} {n : Nat} {L L' : List (Nat × Value)} (h : Fr a n L) (hs : subL L L') : Fr a n L' := by
  refine ⟨h.d, h.s, fun i v hi => h.g i v ?_⟩
  clear h
  induction L' with
  | nil => cases hi
  | cons p t ih =>
    obtain ⟨k, u⟩ := p
    obtain ⟨h1, h2⟩ := hs
    simp only [lk] at hi
    cases hb : Nat.beq k i with
    | true =>
      rw [hb] at hi
      have := Nat.eq_of_beq_eq_true hb
      subst this
      exact h1.trans (by simpa using hi)
    | false =>
      rw [hb] at hi
      exact ih h2 hi
def fr0 (k : Nat) : List Value → List (Nat × Value)
  | [] => []
  | v :: vs => (k, v) :: fr0 (k + 1) vs
theorem lk_fr0 (vs : List Value) : ∀ (k i : Nat) (v : Value), lk (fr0 k vs) i = some v → k ≤ i ∧ vs[i - k]? = some v := by
  induction vs with
  | nil => intro k i v h; cases h
  | cons u vs ih =>
    intro k i v h
    simp only [fr0, lk] at h
    cases hb : Nat.beq k i with
    | true =>
      rw [hb] at h
      have := Nat.eq_of_beq_eq_true hb
      subst this
      exact ⟨Nat.le_refl _, by simpa using h⟩
    | false =>
      rw [hb] at h
      obtain ⟨h1, h2⟩ := ih _ _ _ h
      refine ⟨by omega, ?_⟩
      have e : i - k = (i - (k + 1)) + 1 := by omega
      rw [e]
      simpa using h2
theorem Fr.start (args : Array Value) (n : Nat) (h : Nat.ble args.size n = true) : Fr { tmps := args ++ Array.replicate (n - args.size) undef, defers := [] } n (fr0 0 args.toList) := by
  have hn : args.size ≤ n := Nat.le_of_ble_eq_true h
  refine ⟨rfl, by simp; omega, fun i v hi => ?_⟩
  obtain ⟨_, h2⟩ := lk_fr0 _ _ _ _ hi
  simp only [Nat.sub_zero, Array.getElem?_toList] at h2
  have hlt : i < args.size := by
    rcases Nat.lt_or_ge i args.size with h' | h'
    · exact h'
    · rw [Array.getElem?_eq_none h'] at h2; cases h2
  rw [Array.getElem?_append_left hlt]
  exact h2
abbrev AW := Act → World → Prop
def PQ (N : AW) (E : List (Nat × AW)) (R : AW) : Exit → AW
  | .normal => N
  | .ret => R
  | .exit i => fun a w => ∃ M, E.lookup i = some M ∧ M a w
  | _ => fun _ _ => False
section
variable {P : Program} {N R : AW} {E : List (Nat × AW)} {a : Act} {w : World}
theorem w_seq {x y : Code} (h : ∀ N' : AW, (∀ a w, y.wp P (PQ N E R) a w → N' a w) → x.wp P (PQ N' E R) a w) : (Code.seq x y).wp P (PQ N E R) a w := by
  refine wp_seq (wp_mono (h _ fun _ _ h => h) fun e a w hq => ?_)
  cases e <;> exact hq
theorem w_cut {x y : Code} (M : AW) (h1 : x.wp P (PQ M E R) a w) (h2 : ∀ a w, M a w → y.wp P (PQ N E R) a w) : (Code.seq x y).wp P (PQ N E R) a w :=
  w_seq fun _ hN => wp_mono h1 fun e a w hq => by
    cases e
    case normal => exact hN _ _ (h2 _ _ hq)
    all_goals exact hq
theorem w_block {id : Nat} {c : Code} (h : c.wp P (PQ N ((id, N) :: E) R) a w) : (Code.block id c).wp P (PQ N E R) a w := by
  refine wp_block (wp_mono h fun e a w hq => ?_)
  cases e with
  | exit i =>
    obtain ⟨M, hM, hm⟩ := hq
    simp only [List.lookup] at hM
    simp only [Exit.inBlock]
    by_cases e : i = id
    · subst e
      simp only [beq_self_eq_true, Option.some.injEq] at hM
      subst hM
      rw [if_pos rfl]
      exact hm
    · rw [if_neg e]
      have : (i == id) = false := by simpa using e
      rw [this] at hM
      exact ⟨M, hM, hm⟩
  | _ => exact hq
theorem w_exit {i : Nat} {M : AW} (hM : E.lookup i = some M) (h : M a w) : (Code.exit i).wp P (PQ N E R) a w := wp_exit ⟨M, hM, h⟩
theorem w_skip (h : N a w) : Code.skip.wp P (PQ N E R) a w := wp_skip h
theorem w_ret (h : R a w) : Code.ret.wp P (PQ N E R) a w := wp_ret h
theorem w_cond {n : Nat} {L : List (Nat × Value)} {c : Operand} {x y : Code} {t : Bool} (hA : Fr a n L) (hc : ov L c = some (.bool t))
    (ht : t = true → x.wp P (PQ N E R) a w) (hf : t = false → y.wp P (PQ N E R) a w) : (Code.cond c x y).wp P (PQ N E R) a w :=
  wp_cond_split (hA.ev hc) ht hf
theorem w_cF {n : Nat} {L : List (Nat × Value)} {c : Operand} {x y : Code} {t : Bool} (hA : Fr a n L) (hc : ov L c = some (.bool t)) (ht : t = false) (h : y.wp P (PQ N E R) a w) : (Code.cond c x y).wp P (PQ N E R) a w := by
  subst ht; exact wp_cond_false (hA.ev hc) h
theorem w_loop {c : Code} (I : Nat → AW) (k : Nat) (h0 : I k a w)
    (round : ∀ k a w, I k a w → c.wp P (PQ (fun a' w' => ∃ m, m < k ∧ I m a' w') E R) a w) : (Code.loop c).wp P (PQ N E R) a w := by
  intro b kk cs
  have key : ∀ n a w, I n a w →
      ∃ e a' w', PQ N E R e a' w' ∧ Arrives P (lone (b.at a (.code c :: .inLoop c :: kk)) cs w) b kk cs e a' w' := by
    intro n
    induction n using Nat.strongRecOn with
    | _ n ih =>
      intro a w hI
      obtain ⟨e, a₁, w₁, hq, harr⟩ := round n a w hI b (.inLoop c :: kk) cs
      cases e with
      | normal =>
        obtain ⟨m, hlt, hI₁⟩ := hq
        obtain ⟨e₂, a₂, w₂, hq₂, harr₂⟩ := ih m hlt a₁ w₁ hI₁
        exact ⟨e₂, a₂, w₂, hq₂, .of_steps (Steps.trans harr (.one step_inLoop)) harr₂⟩
      | exit id => exact ⟨.exit id, a₁, w₁, hq, .pass (x := .inLoop c) rfl (fun _ _ => .inl (by simp)) harr⟩
      | ret => exact ⟨.ret, a₁, w₁, hq, .pass (x := .inLoop c) rfl (fun _ _ => .inl (by simp)) harr⟩
      | goto l => exact hq.elim
      | panic ch => exact hq.elim
      | outgrown => exact hq.elim
  obtain ⟨e, a', w', hq, harr⟩ := key k a w h0
  exact ⟨e, a', w', hq, .of_steps (.one step_loop) harr⟩
end
section
variable {P : Program} {N R : AW} {E : List (Nat × AW)} {Q : Exit → AW} {ops : Array Oper} {rest : List Oper} {a : Act} {w : World} {n : Nat} {L : List (Nat × Value)}
  {d : Nat} {op : Op} {ty : TypeId} {pos : String} {aft : Array Edge} {v : Value}
theorem w_reg {id : Nat} {l : List Oper} (h : wpList P l.toArray (PQ N E R) l a w) : (Code.region id l.toArray false).wp P (PQ N E R) a w := wp_region_lit h
theorem o_nil (h : N a w) : wpList P ops (PQ N E R) [] a w := h
theorem stp (hA : Fr a n L) (h : (execOp a.eval ⟨some d, op, ty, pos, aft, none⟩).run P w = .ok (.value v) w) (hd : Nat.ble (d + 1) n = true)
    (k : ∀ a, Fr a n ((d, v) :: L) → wpList P ops Q rest a w) : wpList P ops Q (⟨some d, op, ty, pos, aft, none⟩ :: rest) a w :=
  wpList_plain rfl fun K hK => by
    unfold Oper.wp
    rw [h]
    exact hK _ _ (k _ (hA.put hd v))
theorem unguard {dst : Option Nat} {g : Option (Nat × Bool)} (hw : Region.wanted ⟨dst, op, ty, pos, aft, g⟩ (yielded ops a.tmps) = true)
    (k : wpList P ops Q (⟨dst, op, ty, pos, aft, none⟩ :: rest) a w) : wpList P ops Q (⟨dst, op, ty, pos, aft, g⟩ :: rest) a w := by
  unfold wpList at k ⊢
  rw [if_pos hw]
  rw [if_pos (show Region.wanted ⟨dst, op, ty, pos, aft, none⟩ (yielded ops a.tmps) = true from rfl)] at k
  exact k
def vb : Value → Option Bool
  | .bool b => some b
  | _ => none
theorem yields (hA : Fr a n L) {j t : Nat} (hj : ((ops[j]?).bind (·.dst)) = some t) (ht : lk L t = some v) :
    yielded ops a.tmps j = vb v := by
  unfold yielded
  rw [hj]
  simp only [Option.bind_some, hA.g t v ht]
  cases v <;> rfl
theorem o_yes (hA : Fr a n L) {dst : Option Nat} {j t : Nat} {b β : Bool} (hj : ((ops[j]?).bind (·.dst)) = some t) (ht : lk L t = some (.bool β)) (hb : β = b)
    (k : wpList P ops Q (⟨dst, op, ty, pos, aft, none⟩ :: rest) a w) : wpList P ops Q (⟨dst, op, ty, pos, aft, some (j, b)⟩ :: rest) a w :=
  unguard (by have := yields (ops := ops) hA hj ht; simp [Region.wanted, this, vb, hb]) k
theorem o_no (hA : Fr a n L) {j t : Nat} {b : Bool} (hj : ((ops[j]?).bind (·.dst)) = some t) (ht : lk L t = some v) (hne : vb v ≠ some b)
    (hd : Nat.ble (d + 1) n = true) (k : ∀ a, Fr a n ((d, undef) :: L) → wpList P ops Q rest a w) : wpList P ops Q (⟨some d, op, ty, pos, aft, some (j, b)⟩ :: rest) a w := by
  have hy := yields (ops := ops) hA hj ht
  have hw : Region.wanted ⟨some d, op, ty, pos, aft, some (j, b)⟩ (yielded ops a.tmps) = false := by
    simp only [Region.wanted, hy]
    simpa using hne
  unfold wpList
  rw [if_neg (by rw [hw]; simp)]
  exact k _ (hA.put hd undef)
end
section
variable {P : Program} {w : World} {a : Act} {n : Nat} {L : List (Nat × Value)} {dst : Option Nat} {ty t t' : TypeId} {pos : String} {aft : Array Edge} {g : Option (Nat × Bool)} {x y c : Operand} {v u : Value} {k : IntKind} {i j : Int}
theorem r_mv (hA : Fr a n L) (hx : ov L x = some v) : (execOp a.eval ⟨dst, .move x, ty, pos, aft, g⟩).run P w = .ok (.value v) w := by
  simp [execOp, hA.ev hx]
theorem r_as (hA : Fr a n L) (hx : ov L x = some v) : (execOp a.eval ⟨dst, .assign x, ty, pos, aft, g⟩).run P w = .ok (.value v) w := by
  simp [execOp, hA.ev hx]
theorem r_pick_t {β : Bool} (hA : Fr a n L) (hc : ov L c = some (.bool β)) (hb : β = true) (hx : ov L x = some v) : (execOp a.eval ⟨dst, .pick c x y, ty, pos, aft, g⟩).run P w = .ok (.value v) w := by
  simp [execOp, hA.ev hc, hA.ev hx, asBool, hb]
theorem r_pick_f {β : Bool} (hA : Fr a n L) (hc : ov L c = some (.bool β)) (hb : β = false) (hy : ov L y = some v) : (execOp a.eval ⟨dst, .pick c x y, ty, pos, aft, g⟩).run P w = .ok (.value v) w := by
  simp [execOp, hA.ev hc, hA.ev hy, asBool, hb]
theorem r_add (hA : Fr a n L) (hx : ov L x = some (.int k i)) (hy : ov L y = some (.int k j)) : (execOp a.eval ⟨dst, .binOp .add t x y t', ty, pos, aft, g⟩).run P w = .ok (.value (.int k (k.wrap (i + j)))) w := by
  simp [execOp, hA.ev hx, hA.ev hy, binOp, eqGuard, Op.intArith]
theorem r_sub (hA : Fr a n L) (hx : ov L x = some (.int k i)) (hy : ov L y = some (.int k j)) : (execOp a.eval ⟨dst, .binOp .sub t x y t', ty, pos, aft, g⟩).run P w = .ok (.value (.int k (k.wrap (i - j)))) w := by
  simp [execOp, hA.ev hx, hA.ev hy, binOp, eqGuard, Op.intArith]
theorem r_quo (hA : Fr a n L) (hx : ov L x = some (.int k i)) (hy : ov L y = some (.int k j)) (h : j ≠ 0) : (execOp a.eval ⟨dst, .binOp .quo t x y t', ty, pos, aft, g⟩).run P w = .ok (.value (.int k (k.wrap (i.tdiv j)))) w := by
  simp [execOp, hA.ev hx, hA.ev hy, binOp, eqGuard, Op.intDiv, h]
theorem r_not {b : Bool} (hA : Fr a n L) (hx : ov L x = some (.bool b)) : (execOp a.eval ⟨dst, .unOp .not t x, ty, pos, aft, g⟩).run P w = .ok (.value (.bool (!b))) w := by
  simp [execOp, hA.ev hx, Op.unary]
def sR (k : IntKind) (i j : Int) : Int := i.fdiv (2 ^ min j.toNat k.bits)
theorem r_shr {k' : IntKind} (hA : Fr a n L) (hx : ov L x = some (.int k i)) (hy : ov L y = some (.int k' j)) (h : 0 ≤ j) : (execOp a.eval ⟨dst, .binOp .shr t x y t', ty, pos, aft, g⟩).run P w = .ok (.value (.int k (sR k i j))) w := by
  have h' : ¬ j < 0 := by omega
  simp [execOp, hA.ev hx, hA.ev hy, binOp, eqGuard, Op.shift, h', sR]
theorem r_lss (hA : Fr a n L) (hx : ov L x = some (.int k i)) (hy : ov L y = some (.int k j)) : (execOp a.eval ⟨dst, .binOp .lss t x y t', ty, pos, aft, g⟩).run P w = .ok (.value (.bool (decide (i < j)))) w := by
  simp [execOp, hA.ev hx, hA.ev hy, binOp, eqGuard, Op.intCmp]
theorem r_leq (hA : Fr a n L) (hx : ov L x = some (.int k i)) (hy : ov L y = some (.int k j)) : (execOp a.eval ⟨dst, .binOp .leq t x y t', ty, pos, aft, g⟩).run P w = .ok (.value (.bool (decide (i ≤ j)))) w := by
  simp [execOp, hA.ev hx, hA.ev hy, binOp, eqGuard, Op.intCmp]
theorem r_gtr (hA : Fr a n L) (hx : ov L x = some (.int k i)) (hy : ov L y = some (.int k j)) : (execOp a.eval ⟨dst, .binOp .gtr t x y t', ty, pos, aft, g⟩).run P w = .ok (.value (.bool (decide (j < i)))) w := by
  simp [execOp, hA.ev hx, hA.ev hy, binOp, eqGuard, Op.intCmp]
theorem r_geq (hA : Fr a n L) (hx : ov L x = some (.int k i)) (hy : ov L y = some (.int k j)) : (execOp a.eval ⟨dst, .binOp .geq t x y t', ty, pos, aft, g⟩).run P w = .ok (.value (.bool (decide (j ≤ i)))) w := by
  simp [execOp, hA.ev hx, hA.ev hy, binOp, eqGuard, Op.intCmp]
theorem r_eql (hA : Fr a n L) (hx : ov L x = some (.int k i)) (hy : ov L y = some (.int k j)) : (execOp a.eval ⟨dst, .binOp .eql t x y t', ty, pos, aft, g⟩).run P w = .ok (.value (.bool (decide (i = j)))) w := by
  have e : (i == j) = decide (i = j) := by rw [Bool.eq_iff_iff]; simp
  simp [execOp, hA.ev hx, hA.ev hy, binOp, eqGuard, Op.intCmp, e]
theorem r_neq (hA : Fr a n L) (hx : ov L x = some (.int k i)) (hy : ov L y = some (.int k j)) : (execOp a.eval ⟨dst, .binOp .neq t x y t', ty, pos, aft, g⟩).run P w = .ok (.value (.bool (decide (i ≠ j)))) w := by
  have e : (i != j) = decide (i ≠ j) := by rw [Bool.eq_iff_iff]; simp
  simp [execOp, hA.ev hx, hA.ev hy, binOp, eqGuard, Op.intCmp, e]
theorem r_conv {k' : IntKind} {d0 : TypeDesc} (h0 : P.underlying t = some d0) (h1 : P.underlying t' = some (.int k')) (hA : Fr a n L) (hx : ov L x = some (.int k i)) :
    (execOp a.eval ⟨dst, .convert t t' x, ty, pos, aft, g⟩).run P w = .ok (.value (.int k' (k'.wrap i))) w := by
  simp [execOp, hA.ev hx, convert, run_underlying h0, run_underlying h1, Conv.intToInt]
theorem r_len {e : TypeId} {A : Option Addr} {m cp : Nat} (hu : P.underlying t = some (.slice e)) (hA : Fr a n L) (hx : ov L x = some (.slice A m cp)) :
    (execOp a.eval ⟨dst, .call { callee := .builtin .len, args := #[x], argTypes := #[t] }, ty, pos, aft, g⟩).run P w = .ok (.value (.int .i64 m)) w := by
  simp [execOp, resolve, invoke, builtin, hA.ev hx, Builtin.len_, run_underlying hu, goInt]
theorem r_ixs {e : TypeId} {ei : TypeInfo} {b o m cp : Nat} (hu : P.underlying t = some (.slice e)) (hi : P.info? e = some ei) (hA : Fr a n L) (hx : ov L x = some (.slice (some ⟨b, o, none⟩) m cp)) (hy : ov L y = some (.int k i)) (h0 : 0 ≤ i) (h1 : i < (m : Int)) :
    (execOp a.eval ⟨dst, .indexAddr t x y, ty, pos, aft, g⟩).run P w = .ok (.value (.pointer (some ⟨b, o + i.toNat * ei.size, none⟩))) w := by
  have e' : (⟨b, o, none⟩ : Addr).add (i.toNat * ei.size) = ⟨b, o + i.toNat * ei.size, none⟩ := by
    unfold Addr.add
    split <;> simp_all
  simp [execOp, hA.ev hx, hA.ev hy, Instr.indexAt, asIntOf, run_underlying hu, sizeOf, typeInfo, hi, h0, h1, e']
end
end Go.Proofs.Ytlpggofilkfbnaa.K
namespace Go.Proofs.Ytlpggofilkfbnaa.K
open Go
abbrev Store := Nat → Option Obj
def Store.cell (μ : Store) (g i : Nat) : Option Value := match μ g with
  | some (.cells c _ _) => c[i]?
  | _ => none
def Store.le (μ ν : Store) : Prop := ∀ k o, μ k = some o → ν k = some o
theorem Store.le.refl (μ : Store) : μ.le μ := fun _ _ h => h
theorem Store.le.trans {μ ν ρ : Store} (h : μ.le ν) (h' : ν.le ρ) : μ.le ρ := fun k o e => h' k o (h k o e)
theorem Store.le.cell {μ ν : Store} (h : μ.le ν) {g i : Nat} {v : Value} (hc : μ.cell g i = some v) : ν.cell g i = some v := by
  unfold Store.cell at hc ⊢
  cases hm : μ g with
  | none => simp [hm] at hc
  | some o => rw [h _ _ hm]; simpa [hm] using hc
def Agr (μ : Store) (w : World) : Prop := ∀ k o, μ k = some o → w.heap[k]? = some o
theorem Agr.cell {μ : Store} {w : World} (h : Agr μ w) {g i : Nat} {v : Value} (hc : μ.cell g i = some v) : w.cell? ⟨g, i, none⟩ = some v := by
  unfold Store.cell at hc
  cases hm : μ g with
  | none => simp [hm] at hc
  | some o =>
    rw [hm] at hc
    cases o <;> simp at hc
    simp [World.cell?, h _ _ hm, hc]
def At (μ : Store) (g o : Nat) (cs : List Value) : Prop := ∀ j v, cs[j]? = some v → μ.cell g (o + j) = some v
theorem At.le {μ ν : Store} (h : μ.le ν) {g o : Nat} {cs : List Value} (ha : At μ g o cs) : At ν g o cs := fun j v e => h.cell (ha j v e)
theorem At.part {μ : Store} {g o : Nat} {A B C : List Value} (h : At μ g o (A ++ (B ++ C))) : At μ g (o + A.length) B := fun j v e => by
  have hj : j < B.length := by
    rcases Nat.lt_or_ge j B.length with h' | h'
    · exact h'
    · rw [List.getElem?_eq_none h'] at e; cases e
  have := h (A.length + j) v (by rw [List.getElem?_append_right (by omega), Nat.add_sub_cancel_left, List.getElem?_append_left hj]; exact e)
  rwa [← Nat.add_assoc] at this
structure It where
  foot : List Nat
  ok : World → Prop
  loc : ∀ w w' : World, (∀ g ∈ foot, w'.heap[g]? = w.heap[g]?) → ok w → ok w'
def cel (g : Nat) (chs : List (List Value)) (T : TypeId) : It where
  foot := [g]
  ok w := w.heap[g]? = some (.cells chs.flatten.toArray T (0, 0))
  loc w w' h hk := by rw [h g (by simp)]; exact hk
def row (e : TypeId) (size : Nat) (v : Value) (n : Nat) (xs : List Value) : It where
  foot := v.ownBlock.toList
  ok w := w.ownsRow 0 e size v n xs
  loc w w' h hk := by
    refine ⟨hk.1, ?_⟩
    rcases hk.2 with hn | ⟨g, cap, cur, rfl, hb, hg, r⟩
    · exact .inl hn
    · exact .inr ⟨g, cap, cur, rfl, hb, by rw [h g (by simp [Value.ownBlock])]; exact hg, r⟩
theorem sub_foot {l l' : List It} (h : l'.Sublist l) : (l'.flatMap (·.foot)).Sublist (l.flatMap (·.foot)) := by
  induction h with
  | slnil => exact List.Sublist.refl _
  | cons i _ ih => exact ih.trans (by rw [List.flatMap_cons]; exact List.sublist_append_right ..)
  | cons_cons i _ ih => rw [List.flatMap_cons, List.flatMap_cons]; exact (List.Sublist.refl _).append ih
structure Iv (W0 : World) (md : List Nat) (μ0 μ : Store) (its : List It) (w : World) : Prop where
  os : w.os = W0.os
  tape : w.tape = W0.tape
  out : w.output = W0.output
  size : W0.heap.size ≤ w.heap.size
  frame : ∀ k, k < W0.heap.size → k ∉ md → w.heap[k]? = W0.heap[k]?
  le : μ0.le μ
  agr : Agr μ w
  fresh : ∀ k o, μ k = some o → μ0 k = some o ∨ W0.heap.size ≤ k ∨ k ∈ md
  nodup : (its.flatMap (·.foot)).Nodup
  own : ∀ i ∈ its, i.ok w ∧ ∀ g ∈ i.foot, g < w.heap.size ∧ μ g = none ∧ (W0.heap.size ≤ g ∨ g ∈ md)
theorem Iv.start {μ : Store} {w : World} (h : Agr μ w) : Iv w [] μ μ [] w :=
  ⟨rfl, rfl, rfl, Nat.le_refl _, fun _ _ _ => rfl, Store.le.refl _, h, fun _ _ h => .inl h, by simp, by simp⟩
theorem Iv.start1 {μ : Store} {w : World} (h : Agr μ w) {i : It} (ho : i.ok w) (hn : i.foot.Nodup) (hg : ∀ g ∈ i.foot, g < w.heap.size ∧ μ g = none) : Iv w i.foot μ μ [i] w :=
  ⟨rfl, rfl, rfl, Nat.le_refl _, fun _ _ _ => rfl, Store.le.refl _, h, fun _ _ h => .inl h, by simpa using hn, fun j hj => by
    have : j = i := by simpa using hj
    subst this
    exact ⟨ho, fun g h => ⟨(hg g h).1, (hg g h).2, .inr h⟩⟩⟩
section
variable {W0 : World} {md : List Nat} {μ0 μ μ' : Store} {its its' : List It} {w w' : World}
theorem Iv.below (h : Iv W0 [] μ0 μ its w) : RowKit.Below W0.heap.size W0 w := ⟨h.os, h.tape, h.out, h.size, fun k hk => h.frame k hk (by simp)⟩
theorem Iv.drew (h : Iv W0 md μ0 μ its w) (n : Nat) : Iv W0 md μ0 μ its (w.drewN n) := by
  have e : (w.drewN n).heap = w.heap := rfl
  refine ⟨h.os, h.tape, h.out, h.size, h.frame, h.le, h.agr, h.fresh, h.nodup, fun i hi => ?_⟩
  obtain ⟨h1, h2⟩ := h.own i hi
  exact ⟨i.loc w _ (fun g _ => by rw [e]) h1, h2⟩
theorem Iv.drew1 (h : Iv W0 md μ0 μ its w) : Iv W0 md μ0 μ its { w with drawn := w.drawn + 1 } := by
  refine ⟨h.os, h.tape, h.out, h.size, h.frame, h.le, h.agr, h.fresh, h.nodup, fun i hi => ?_⟩
  obtain ⟨h1, h2⟩ := h.own i hi
  exact ⟨i.loc w _ (fun g _ => rfl) h1, h2⟩
theorem Iv.forget (h : Iv W0 md μ0 μ' its' w) (h0 : μ0.le μ) (h1 : μ.le μ') : Iv W0 md μ0 μ [] w :=
  ⟨h.os, h.tape, h.out, h.size, h.frame, h0, fun k o e => h.agr k o (h1 k o e), fun k o e => h.fresh k o (h1 k o e), by simp, by simp⟩
theorem Iv.forget0 (h : Iv W0 md μ0 μ' its' w) : Iv W0 md μ0 μ0 [] w := h.forget (Store.le.refl _) h.le
theorem Iv.drop (h : Iv W0 md μ0 μ its w) (hs : its'.Sublist its) : Iv W0 md μ0 μ its' w :=
  ⟨h.os, h.tape, h.out, h.size, h.frame, h.le, h.agr, h.fresh, h.nodup.sublist (sub_foot hs), fun i hi => h.own i (hs.subset hi)⟩
theorem Iv.less (h : Iv W0 md μ0 μ' its w) (h0 : μ0.le μ) (h1 : μ.le μ') : Iv W0 md μ0 μ its w :=
  ⟨h.os, h.tape, h.out, h.size, h.frame, h0, fun k o e => h.agr k o (h1 k o e), fun k o e => h.fresh k o (h1 k o e), h.nodup, fun i hi => ⟨(h.own i hi).1, fun g hg => by
    obtain ⟨a, b, c⟩ := (h.own i hi).2 g hg
    refine ⟨a, ?_, c⟩
    cases e : μ g with
    | none => rfl
    | some o => rw [h1 g o e] at b; cases b⟩⟩
theorem Iv.alloc (h : Iv W0 md μ0 μ its w) (o : Obj) (i : It) (hf : i.foot = [w.heap.size]) (ho : i.ok (w.alloc o)) : Iv W0 md μ0 μ (i :: its) (w.alloc o) := by
  have hb : ∀ k, k < w.heap.size → (w.alloc o).heap[k]? = w.heap[k]? := fun k hk => RowKit.Below.heap_alloc w o k hk
  have hsz : (w.alloc o).heap.size = w.heap.size + 1 := by show (w.heap.push o).size = _; simp
  refine ⟨h.os, h.tape, h.out, by rw [hsz]; have := h.size; omega, fun k hk hm => (hb k (Nat.lt_of_lt_of_le hk h.size)).trans (h.frame k hk hm), h.le, fun k o' e => ?_, h.fresh, ?_, ?_⟩
  · have := h.agr k o' e
    rw [hb k (Array.getElem?_eq_some_iff.1 this).1]
    exact this
  · simp only [List.flatMap_cons, hf, List.singleton_append, List.nodup_cons]
    refine ⟨fun hm => ?_, h.nodup⟩
    obtain ⟨j, hj, hg⟩ := List.mem_flatMap.1 hm
    have := ((h.own j hj).2 _ hg).1
    omega
  · intro j hj
    rcases List.mem_cons.1 hj with rfl | hj
    · refine ⟨ho, fun g hg => ?_⟩
      rw [hf] at hg
      have : g = w.heap.size := by simpa using hg
      subst this
      refine ⟨by rw [hsz]; omega, ?_, .inl h.size⟩
      cases e : μ w.heap.size with
      | none => rfl
      | some o' =>
        have := (Array.getElem?_eq_some_iff.1 (h.agr _ _ e)).1
        omega
    · obtain ⟨h1, h2⟩ := h.own j hj
      refine ⟨j.loc w _ (fun g hg => hb g (h2 g hg).1) h1, fun g hg => ?_⟩
      obtain ⟨a, b, c⟩ := h2 g hg
      exact ⟨by rw [hsz]; omega, b, c⟩
theorem Iv.upd (h : Iv W0 md μ0 μ its w) (j : Nat) (i i' : It) (hj : its[j]? = some i) (hos : w'.os = w.os) (htape : w'.tape = w.tape) (hout : w'.output = w.output) (hsz : w.heap.size ≤ w'.heap.size)
    (hb : ∀ k, k < w.heap.size → k ∉ i.foot → w'.heap[k]? = w.heap[k]?) (hf : ∀ g ∈ i'.foot, g ∈ i.foot ∨ w.heap.size ≤ g) (hfl : ∀ g ∈ i'.foot, g < w'.heap.size) (hn : i'.foot.Nodup) (ho : i'.ok w') : Iv W0 md μ0 μ (its.set j i') w' := by
  have hi : i ∈ its := List.mem_of_getElem? hj
  have hjl : j < its.length := (List.getElem?_eq_some_iff.1 hj).1
  have hsplit : its = its.take j ++ i :: its.drop (j + 1) := by
    have := (List.getElem?_eq_some_iff.1 hj).2
    rw [← this]
    simp
  have hset : its.set j i' = its.take j ++ i' :: its.drop (j + 1) := List.set_eq_take_append_cons_drop.trans (by rw [if_pos hjl])
  obtain ⟨hiok, hifoot⟩ := h.own i hi
  have hnd := h.nodup
  rw [hsplit, List.flatMap_append, List.flatMap_cons] at hnd
  have hdis : ∀ k ∈ its.take j ++ its.drop (j + 1), ∀ g ∈ k.foot, g ∉ i.foot := by
    intro k hk g hg hgi
    rw [List.nodup_append, List.nodup_append] at hnd
    obtain ⟨_, ⟨_, _, h2⟩, h3⟩ := hnd
    rcases List.mem_append.1 hk with hk | hk
    · exact h3 g (List.mem_flatMap.2 ⟨k, hk, hg⟩) g (List.mem_append_left _ hgi) rfl
    · exact h2 g hgi g (List.mem_flatMap.2 ⟨k, hk, hg⟩) rfl
  have hmem : ∀ k ∈ its.take j ++ its.drop (j + 1), k ∈ its := by
    intro k hk
    rw [hsplit]
    rcases List.mem_append.1 hk with hk | hk
    · exact List.mem_append_left _ hk
    · exact List.mem_append_right _ (List.mem_cons_of_mem _ hk)
  refine ⟨hos.trans h.os, htape.trans h.tape, hout.trans h.out, Nat.le_trans h.size hsz, fun k hk hm => ?_, h.le, fun k o e => ?_, h.fresh, ?_, ?_⟩
  · rw [hb k (Nat.lt_of_lt_of_le hk h.size) (fun hki => ?_)]
    · exact h.frame k hk hm
    · rcases (hifoot k hki).2.2 with h' | h'
      · omega
      · exact hm h'
  · have hk := h.agr k o e
    rw [hb k (Array.getElem?_eq_some_iff.1 hk).1 (fun hki => by have := (hifoot k hki).2.1; rw [e] at this; cases this)]
    exact hk
  · rw [hset, List.flatMap_append, List.flatMap_cons]
    rw [List.nodup_append, List.nodup_append] at hnd ⊢
    obtain ⟨n1, ⟨_, n2, d2⟩, d1⟩ := hnd
    have hnew : ∀ k ∈ its.take j ++ its.drop (j + 1), ∀ g ∈ k.foot, g ∉ i'.foot := by
      intro k hk g hg hg'
      rcases hf g hg' with h' | h'
      · exact hdis k hk g hg h'
      · have := ((h.own k (hmem k hk)).2 g hg).1; omega
    refine ⟨n1, ⟨hn, n2, fun g hg g' hg' e => ?_⟩, fun g hg g' hg' e => ?_⟩
    · subst e
      obtain ⟨k, hk, hgk⟩ := List.mem_flatMap.1 hg'
      exact hnew k (List.mem_append_right _ hk) g hgk hg
    · subst e
      obtain ⟨k, hk, hgk⟩ := List.mem_flatMap.1 hg
      rcases List.mem_append.1 hg' with hg' | hg'
      · exact hnew k (List.mem_append_left _ hk) g hgk hg'
      · exact d1 g hg g (List.mem_append_right _ hg') rfl
  · intro k hk
    rw [hset] at hk
    rcases List.mem_append.1 hk with hk' | hk'
    · obtain ⟨h1, h2⟩ := h.own k (hmem k (List.mem_append_left _ hk'))
      exact ⟨k.loc w _ (fun g hg => hb g (h2 g hg).1 (hdis k (List.mem_append_left _ hk') g hg)) h1, fun g hg => ⟨Nat.lt_of_lt_of_le (h2 g hg).1 hsz, (h2 g hg).2⟩⟩
    · rcases List.mem_cons.1 hk' with rfl | hk'
      · refine ⟨ho, fun g hg => ⟨hfl g hg, ?_⟩⟩
        rcases hf g hg with h' | h'
        · exact ⟨(hifoot g h').2.1, (hifoot g h').2.2⟩
        · refine ⟨?_, .inl (Nat.le_trans h.size h')⟩
          cases e : μ g with
          | none => rfl
          | some o =>
            have := (Array.getElem?_eq_some_iff.1 (h.agr g o e)).1
            omega
      · obtain ⟨h1, h2⟩ := h.own k (hmem k (List.mem_append_right _ hk'))
        exact ⟨k.loc w _ (fun g hg => hb g (h2 g hg).1 (hdis k (List.mem_append_right _ hk') g hg)) h1, fun g hg => ⟨Nat.lt_of_lt_of_le (h2 g hg).1 hsz, (h2 g hg).2⟩⟩
theorem Iv.call (h : Iv W0 md μ0 μ its w) (h' : Iv w [] μ μ' its' w') : Iv W0 md μ0 μ' (its' ++ its) w' := by
  refine ⟨h'.os.trans h.os, h'.tape.trans h.tape, h'.out.trans h.out, Nat.le_trans h.size h'.size, fun k hk hm => (h'.frame k (Nat.lt_of_lt_of_le hk h.size) (by simp)).trans (h.frame k hk hm), h.le.trans h'.le, h'.agr, fun k o e => ?_, ?_, ?_⟩
  · rcases h'.fresh k o e with e' | e' | e'
    · exact h.fresh k o e'
    · exact .inr (.inl (Nat.le_trans h.size e'))
    · simp at e'
  · rw [List.flatMap_append, List.nodup_append]
    refine ⟨h'.nodup, h.nodup, fun g hg g' hg' e => ?_⟩
    subst e
    obtain ⟨i, hi, hgi⟩ := List.mem_flatMap.1 hg
    obtain ⟨j, hj, hgj⟩ := List.mem_flatMap.1 hg'
    have h1 := ((h'.own i hi).2 g hgi).2.2
    have h2 := ((h.own j hj).2 g hgj).1
    simp at h1
    omega
  · intro i hi
    rcases List.mem_append.1 hi with hi | hi
    · refine ⟨(h'.own i hi).1, fun g hg => ?_⟩
      obtain ⟨a, b, c⟩ := (h'.own i hi).2 g hg
      refine ⟨a, b, ?_⟩
      simp at c
      exact .inl (Nat.le_trans h.size c)
    · obtain ⟨h1, h2⟩ := h.own i hi
      refine ⟨i.loc w _ (fun g hg => h'.frame g (h2 g hg).1 (by simp)) h1, fun g hg => ?_⟩
      obtain ⟨a, b, c⟩ := h2 g hg
      refine ⟨Nat.lt_of_lt_of_le a h'.size, ?_, c⟩
      cases e : μ' g with
      | none => rfl
      | some o =>
        rcases h'.fresh g o e with e' | e' | e'
        · rw [b] at e'; cases e'
        · omega
        · simp at e'
theorem Iv.call1 (h : Iv W0 md μ0 μ its w) (j : Nat) {i : It} (hj : its[j]? = some i) (h' : Iv w i.foot μ μ' its' w') : Iv W0 md μ0 μ' (its' ++ its.eraseIdx j) w' := by
  have hi : i ∈ its := List.mem_of_getElem? hj
  have hsplit : its = its.take j ++ i :: its.drop (j + 1) := by
    have := (List.getElem?_eq_some_iff.1 hj).2
    rw [← this]
    simp
  have her : its.eraseIdx j = its.take j ++ its.drop (j + 1) := List.eraseIdx_eq_take_drop_succ ..
  obtain ⟨hiok, hifoot⟩ := h.own i hi
  have hnd := h.nodup
  rw [hsplit, List.flatMap_append, List.flatMap_cons] at hnd
  have hdis : ∀ k ∈ its.eraseIdx j, ∀ g ∈ k.foot, g ∉ i.foot := by
    intro k hk g hg hgi
    rw [her] at hk
    rw [List.nodup_append, List.nodup_append] at hnd
    obtain ⟨_, ⟨_, _, h2⟩, h3⟩ := hnd
    rcases List.mem_append.1 hk with hk | hk
    · exact h3 g (List.mem_flatMap.2 ⟨k, hk, hg⟩) g (List.mem_append_left _ hgi) rfl
    · exact h2 g hgi g (List.mem_flatMap.2 ⟨k, hk, hg⟩) rfl
  have hmem : ∀ k ∈ its.eraseIdx j, k ∈ its := fun k hk => List.mem_of_mem_eraseIdx hk
  have hnd' : ((its.eraseIdx j).flatMap (·.foot)).Nodup := h.nodup.sublist (sub_foot (List.eraseIdx_sublist its j))
  refine ⟨h'.os.trans h.os, h'.tape.trans h.tape, h'.out.trans h.out, Nat.le_trans h.size h'.size, fun k hk hm => ?_, h.le.trans h'.le, h'.agr, fun k o e => ?_, ?_, ?_⟩
  · have hki : k ∉ i.foot := fun e => by
      rcases (hifoot k e).2.2 with h1 | h1
      · omega
      · exact hm h1
    exact (h'.frame k (Nat.lt_of_lt_of_le hk h.size) hki).trans (h.frame k hk hm)
  · rcases h'.fresh k o e with e' | e' | e'
    · exact h.fresh k o e'
    · exact .inr (.inl (Nat.le_trans h.size e'))
    · exact .inr (hifoot k e').2.2
  · rw [List.flatMap_append, List.nodup_append]
    refine ⟨h'.nodup, hnd', fun x hx x' hx' e => ?_⟩
    subst e
    obtain ⟨k, hk, hxk⟩ := List.mem_flatMap.1 hx
    obtain ⟨l, hl, hxl⟩ := List.mem_flatMap.1 hx'
    have h1 := ((h'.own k hk).2 x hxk).2.2
    have h2 := ((h.own l (hmem l hl)).2 x hxl).1
    rcases h1 with h1 | h1
    · omega
    · exact hdis l hl x hxl h1
  · intro k hk
    rcases List.mem_append.1 hk with hk | hk
    · refine ⟨(h'.own k hk).1, fun x hx => ?_⟩
      obtain ⟨a, b, c⟩ := (h'.own k hk).2 x hx
      refine ⟨a, b, ?_⟩
      rcases c with c | c
      · exact .inl (Nat.le_trans h.size c)
      · exact (hifoot x c).2.2
    · obtain ⟨h1, h2⟩ := h.own k (hmem k hk)
      refine ⟨k.loc w _ (fun x hx => h'.frame x (h2 x hx).1 (hdis k hk x hx)) h1, fun x hx => ?_⟩
      obtain ⟨a, b, c⟩ := h2 x hx
      refine ⟨Nat.lt_of_lt_of_le a h'.size, ?_, c⟩
      cases e : μ' x with
      | none => rfl
      | some o =>
        rcases h'.fresh x o e with e' | e' | e'
        · rw [b] at e'; cases e'
        · omega
        · exact absurd e' (hdis k hk x hx)
theorem Iv.item (h : Iv W0 md μ0 μ its w) {j : Nat} {i : It} (hj : its[j]? = some i) : i.ok w ∧ i.foot.Nodup ∧ ∀ g ∈ i.foot, g < w.heap.size ∧ μ g = none := by
  have hi := List.mem_of_getElem? hj
  refine ⟨(h.own i hi).1, ?_, fun g hg => ⟨((h.own i hi).2 g hg).1, ((h.own i hi).2 g hg).2.1⟩⟩
  have hnd := h.nodup
  have hsplit : its = its.take j ++ i :: its.drop (j + 1) := by
    have := (List.getElem?_eq_some_iff.1 hj).2
    rw [← this]
    simp
  rw [hsplit, List.flatMap_append, List.flatMap_cons, List.nodup_append, List.nodup_append] at hnd
  exact hnd.2.1.1
theorem Iv.freeze (h : Iv W0 md μ0 μ its w) (j : Nat) {i : It} {g : Nat} {o : Obj} (hj : its[j]? = some i) (hf : i.foot = [g]) (ho : w.heap[g]? = some o) :
    ∃ μ', μ.le μ' ∧ μ' g = some o ∧ Iv W0 md μ0 μ' (its.eraseIdx j) w := by
  have hi : i ∈ its := List.mem_of_getElem? hj
  obtain ⟨hiok, hifoot⟩ := h.own i hi
  have hgi := hifoot g (by rw [hf]; simp)
  have hsplit : its = its.take j ++ i :: its.drop (j + 1) := by
    have := (List.getElem?_eq_some_iff.1 hj).2
    rw [← this]
    simp
  have her : its.eraseIdx j = its.take j ++ its.drop (j + 1) := List.eraseIdx_eq_take_drop_succ ..
  have hnd := h.nodup
  rw [hsplit, List.flatMap_append, List.flatMap_cons, hf] at hnd
  have hdis : ∀ k ∈ its.eraseIdx j, g ∉ k.foot := by
    intro k hk hg
    rw [her] at hk
    rw [List.nodup_append, List.nodup_append] at hnd
    obtain ⟨_, ⟨_, _, h2⟩, h3⟩ := hnd
    rcases List.mem_append.1 hk with hk | hk
    · exact h3 g (List.mem_flatMap.2 ⟨k, hk, hg⟩) g (List.mem_append_left _ (by simp)) rfl
    · exact h2 g (by simp) g (List.mem_flatMap.2 ⟨k, hk, hg⟩) rfl
  have hle : μ.le (fun k => if k = g then some o else μ k) := fun k o' e => by
    by_cases hk : k = g
    · subst hk; rw [hgi.2.1] at e; cases e
    · simp [hk, e]
  refine ⟨fun k => if k = g then some o else μ k, hle, by simp, h.os, h.tape, h.out, h.size, h.frame, h.le.trans hle, fun k o' e => ?_, fun k o' e => ?_, h.nodup.sublist (sub_foot (List.eraseIdx_sublist its j)), fun k hk => ?_⟩
  · by_cases hk : k = g
    · subst hk
      simp only [if_pos] at e
      cases e
      exact ho
    · simp only [if_neg hk] at e
      exact h.agr k o' e
  · by_cases hk : k = g
    · subst hk; exact .inr hgi.2.2
    · simp only [if_neg hk] at e
      exact h.fresh k o' e
  · obtain ⟨h1, h2⟩ := h.own k (List.mem_of_mem_eraseIdx hk)
    refine ⟨h1, fun x hx => ?_⟩
    obtain ⟨a, b, c⟩ := h2 x hx
    refine ⟨a, ?_, c⟩
    have : x ≠ g := fun e => hdis k hk (e ▸ hx)
    simp [this, b]
theorem Iv.sel (h : Iv W0 md μ0 μ its w) (ix : List Nat) (hn : ix.Nodup) {its' : List It} (he : ix.filterMap (its[·]?) = its') : Iv W0 md μ0 μ its' w := by
  subst he
  have hp : ∀ (i j : Nat) (x y : It), its[i]? = some x → its[j]? = some y → i ≠ j → ∀ g ∈ x.foot, g ∉ y.foot := by
    intro i j x y hx hy hij g hg hg'
    have hw : ∀ (i j : Nat) (x y : It), i < j → its[i]? = some x → its[j]? = some y → g ∈ x.foot → g ∈ y.foot → False := by
      intro i j x y hlt hx hy hg hg'
      have hsplit : its = its.take j ++ its.drop j := by simp
      have hnd := h.nodup
      rw [hsplit, List.flatMap_append, List.nodup_append] at hnd
      refine hnd.2.2 g (List.mem_flatMap.2 ⟨x, ?_, hg⟩) g (List.mem_flatMap.2 ⟨y, ?_, hg'⟩) rfl
      · exact List.mem_of_getElem? (i := i) (by rw [List.getElem?_take, if_pos hlt]; exact hx)
      · exact List.mem_of_getElem? (i := 0) (by rw [List.getElem?_drop]; exact hy)
    rcases Nat.lt_or_gt_of_ne hij with h' | h'
    · exact hw i j x y h' hx hy hg hg'
    · exact hw j i y x h' hy hx hg' hg
  have hone : ∀ (i : Nat) (x : It), its[i]? = some x → x.foot.Nodup := by
    intro i x hx
    have hnd := h.nodup
    have hsplit : its = its.take i ++ x :: its.drop (i + 1) := by
      have := (List.getElem?_eq_some_iff.1 hx).2
      rw [← this]
      simp
    rw [hsplit, List.flatMap_append, List.flatMap_cons, List.nodup_append, List.nodup_append] at hnd
    exact hnd.2.1.1
  refine ⟨h.os, h.tape, h.out, h.size, h.frame, h.le, h.agr, h.fresh, ?_, fun i hi => ?_⟩
  · induction ix with
    | nil => simp
    | cons i ix ih =>
      rw [List.nodup_cons] at hn
      rw [List.filterMap_cons]
      cases hx : its[i]? with
      | none => exact ih hn.2
      | some x =>
        simp only [List.flatMap_cons, List.nodup_append]
        refine ⟨hone i x hx, ih hn.2, fun g hg g' hg' e => ?_⟩
        subst e
        obtain ⟨y, hy, hgy⟩ := List.mem_flatMap.1 hg'
        obtain ⟨j, hj, hjy⟩ := List.mem_filterMap.1 hy
        exact hp i j x y hx hjy (fun e => hn.1 (e ▸ hj)) g hg hgy
  · obtain ⟨j, _, hj⟩ := List.mem_filterMap.1 hi
    exact h.own i (List.mem_of_getElem? hj)
end
end Go.Proofs.Ytlpggofilkfbnaa.K
namespace Go.Proofs.Ytlpggofilkfbnaa.K
open Go
inductive Els {α : Type} (RE : α → List Value → Prop) (sz : Nat) : List α → List Value → Prop
  | nil : Els RE sz [] []
  | cons {x : α} {c cs : List Value} {xs : List α} : RE x c → c.length = sz → Els RE sz xs cs → Els RE sz (x :: xs) (c ++ cs)
section
variable {α : Type} {RE RE' : α → List Value → Prop} {sz : Nat} {xs ys : List α} {cs ds : List Value}
theorem Els.len (h : Els RE sz xs cs) : cs.length = xs.length * sz := by
  induction h with
  | nil => simp
  | cons _ h2 _ ih => simp [h2, ih, Nat.add_mul, Nat.add_comm]
theorem Els.mono (h : Els RE sz xs cs) (hm : ∀ x c, RE x c → RE' x c) : Els RE' sz xs cs := by
  induction h with
  | nil => exact .nil
  | cons h1 h2 _ ih => exact .cons (hm _ _ h1) h2 ih
theorem Els.app (h : Els RE sz xs cs) (k : Els RE sz ys ds) : Els RE sz (xs ++ ys) (cs ++ ds) := by
  induction h with
  | nil => exact k
  | cons h1 h2 _ ih => rw [List.append_assoc]; exact .cons h1 h2 ih
theorem Els.one {x : α} {c : List Value} (h1 : RE x c) (h2 : c.length = sz) : Els RE sz [x] c := by
  have := Els.cons h1 h2 (Els.nil (RE := RE) (sz := sz))
  rwa [List.append_nil] at this
theorem Els.at_ (h : Els RE sz xs cs) : ∀ {i : Nat} {x : α}, xs[i]? = some x → ∃ A c B, cs = A ++ (c ++ B) ∧ A.length = i * sz ∧ c.length = sz ∧ RE x c := by
  induction h with
  | nil => intro i x hx; simp at hx
  | @cons y c cs ys h1 h2 h3 ih =>
    intro i x hx
    cases i with
    | zero =>
      have : y = x := by simpa using hx
      subst this
      exact ⟨[], c, cs, rfl, by simp, h2, h1⟩
    | succ i =>
      obtain ⟨A, c', B, e, hA, hc, hr⟩ := ih (by simpa using hx)
      refine ⟨c ++ A, c', B, by rw [e, List.append_assoc], ?_, hc, hr⟩
      rw [List.length_append, h2, hA, Nat.add_mul, Nat.one_mul, Nat.add_comm]
theorem Els.take (h : Els RE sz xs cs) : ∀ m, Els RE sz (xs.take m) (cs.take (m * sz)) := by
  induction h with
  | nil => intro m; simp; exact .nil
  | @cons y c cs ys h1 h2 h3 ih =>
    intro m
    cases m with
    | zero => simp; exact .nil
    | succ m =>
      rw [List.take_succ_cons, Nat.succ_mul, Nat.add_comm, List.take_append, List.take_of_length_le (l := c) (by rw [h2]; exact Nat.le_add_right _ _), h2, Nat.add_sub_cancel_left]
      exact .cons h1 h2 (ih m)
theorem Els.drop (h : Els RE sz xs cs) : ∀ m, Els RE sz (xs.drop m) (cs.drop (m * sz)) := by
  induction h with
  | nil => intro m; simp; exact .nil
  | @cons y c cs ys h1 h2 h3 ih =>
    intro m
    cases m with
    | zero => simp; exact .cons h1 h2 h3
    | succ m =>
      rw [List.drop_succ_cons, Nat.succ_mul, Nat.add_comm, List.drop_append, List.drop_of_length_le (l := c) (by rw [h2]; exact Nat.le_add_right _ _), h2, Nat.add_sub_cancel_left, List.nil_append]
      exact ih m
end
def sb : Value → Nat
  | .slice (some a) _ _ => a.block
  | _ => 0
def so : Value → Nat
  | .slice (some a) _ _ => a.off
  | _ => 0
def SlV (μ : Store) (v : Value) (n : Nat) (cs : List Value) : Prop :=
  ∃ A cp, v = .slice A n cp ∧ n ≤ cp ∧ cp ≤ maxLen ∧ (n ≠ 0 → A = some ⟨sb v, so v, none⟩) ∧ (n ≠ 0 → At μ (sb v) (so v) cs)
def Slc {α : Type} (RE : α → List Value → Prop) (sz : Nat) (μ : Store) (v : Value) (xs : List α) : Prop :=
  ∃ cs, Els RE sz xs cs ∧ SlV μ v xs.length cs
theorem SlV.le {μ ν : Store} (h : μ.le ν) {v : Value} {n : Nat} {cs : List Value} (hs : SlV μ v n cs) : SlV ν v n cs := by
  obtain ⟨A, cp, h1, h2, h3, h4, h5⟩ := hs
  exact ⟨A, cp, h1, h2, h3, h4, fun hn => (h5 hn).le h⟩
def InR : IntKind → Int → Prop
  | .i8, n => -128 ≤ n ∧ n < 128
  | .i16, n => -32768 ≤ n ∧ n < 32768
  | .i32, n => -2147483648 ≤ n ∧ n < 2147483648
  | .i64, n => -9223372036854775808 ≤ n ∧ n < 9223372036854775808
  | .u8, n => 0 ≤ n ∧ n < 256
  | .u16, n => 0 ≤ n ∧ n < 65536
  | .u32, n => 0 ≤ n ∧ n < 4294967296
  | .u64, n => 0 ≤ n ∧ n < 18446744073709551616
def RI (k : IntKind) (x : Int) (c : List Value) : Prop := c = [[.int k x]].flatten ∧ InR k x
theorem wrap_in (k : IntKind) (x : Int) : InR k (k.wrap x) := by
  cases k <;> simp [InR, IntKind.wrap, IntKind.signed, IntKind.bits] <;> omega
theorem wrap_id {k : IntKind} {x : Int} (h : InR k x) : k.wrap x = x := by
  cases k <;> simp [InR, IntKind.wrap, IntKind.signed, IntKind.bits] at * <;> omega
theorem getD_some {α : Type} {xs : List α} {i : Int} (d : α) (h0 : 0 ≤ i) (h1 : i < (xs.length : Int)) : xs[i.toNat]? = some (xs.getD i.toNat d) := by
  have : i.toNat < xs.length := by omega
  simp [List.getD, this]
theorem slc_nil {α : Type} (RE : α → List Value → Prop) (sz : Nat) (μ : Store) : Slc RE sz μ (.slice none 0 0) [] :=
  ⟨[], .nil, none, 0, rfl, Nat.le_refl _, by simp [maxLen], fun h => absurd rfl h, fun h => absurd rfl h⟩
def isAggD : TypeDesc → Bool
  | .struct _ | .array _ _ => true
  | _ => false
section
variable {P : Program} {W0 : World} {md : List Nat} {μ0 μ : Store} {its : List It} {w : World} {a : Act} {n : Nat} {L : List (Nat × Value)} {dst : Option Nat} {ty t T : TypeId} {pos : String} {aft : Array Edge} {gd : Option (Nat × Bool)} {x y : Operand} {v : Value} {g o : Nat}
theorem add_eq (g o k : Nat) : (⟨g, o, none⟩ : Addr).add k = ⟨g, o + k, none⟩ := by
  unfold Addr.add
  split <;> simp_all
theorem Iv.cel_ok (hI : Iv W0 md μ0 μ its w) {j : Nat} {chs : List (List Value)} (hj : its[j]? = some (cel g chs T)) : w.heap[g]? = some (.cells chs.flatten.toArray T (0, 0)) :=
  (hI.own _ (List.mem_of_getElem? hj)).1
theorem run_loadVar_one {d : TypeDesc} (hu : P.underlying t = some d) (hd : isAggD d = false) (p : Addr) (h : w.cell? p = some v) : (loadVar t p).run P w = .ok v w := by
  have hagg : (isAgg t).run P w = .ok false w := by
    unfold isAgg
    rw [Sem.run_bind, run_underlying hu w]
    cases d <;> simp_all [isAggD]
  simp [loadVar, Sem.run_bind, hagg, run_load, h]
theorem At.cellq {cs : List Value} (hm : At μ g o cs) (hr : Agr μ w) {j : Nat} {u : Value} (hu : cs[j]? = some u) : w.cell? ((⟨g, o, none⟩ : Addr).add j) = some u := by
  rw [add_eq]
  exact hr.cell (hm j u hu)
theorem r_ldm1 {d : TypeDesc} {b : Nat} (A C : List (List Value)) (hu : P.underlying t = some d) (hd : isAggD d = false)
    (hr : Agr μ w) (hm : At μ g b (A ++ ([v] :: C)).flatten) (hA : Fr a n L) (hx : ov L x = some (.pointer (some ⟨g, o, none⟩))) (ho : b + A.flatten.length = o) :
    (execOp a.eval ⟨dst, .load t x, ty, pos, aft, gd⟩).run P w = .ok (.value v) w := by
  have this : w.cell? ⟨g, o, none⟩ = some v := by
    subst ho
    rw [List.flatten_append, List.flatten_cons] at hm
    have := hm.part.cellq hr (j := 0) (u := v) (by simp)
    simpa only [add_eq, Nat.add_zero] using this
  simp [execOp, hA.ev hx, Instr.loadAt, Instr.sureAddr, run_loadVar_one (P := P) hu hd _ this]
theorem SlV.form {m : Nat} {cs : List Value} (h : SlV μ v m cs) : ∃ A cp, v = .slice A m cp := let ⟨A, cp, e, _⟩ := h; ⟨A, cp, e⟩
theorem r_slen {m : Nat} {cs : List Value} {e : TypeId} (hu : P.underlying t = some (.slice e)) (hv : SlV μ v m cs) (hA : Fr a n L) (hx : ov L x = some v) :
    (execOp a.eval ⟨dst, .call { callee := .builtin .len, args := #[x], argTypes := #[t] }, ty, pos, aft, gd⟩).run P w = .ok (.value (.int .i64 m)) w := by
  obtain ⟨A, cp, rfl⟩ := hv.form
  exact r_len hu hA hx
theorem r_six {m s : Nat} {cs : List Value} {e : TypeId} {k : IntKind} {i : Int} (hu : P.underlying t = some (.slice e)) (hs : (P.info? e).map (·.size) = some s) (hv : SlV μ v m cs) (hA : Fr a n L) (hx : ov L x = some v) (hy : ov L y = some (.int k i)) (h0 : 0 ≤ i) (h1 : i < (m : Int)) :
    (execOp a.eval ⟨dst, .indexAddr t x y, ty, pos, aft, gd⟩).run P w = .ok (.value (.pointer (some ⟨sb v, so v + i.toNat * s, none⟩))) w := by
  obtain ⟨A, cp, e1, _, _, h4, _⟩ := hv
  have h4' := h4 (by omega)
  cases hq : P.info? e with
  | none => simp [hq] at hs
  | some ei =>
    have hs' : ei.size = s := by simpa [hq] using hs
    subst hs'
    rw [h4'] at e1
    exact r_ixs hu hq hA (hx.trans (congrArg some e1)) hy h0 h1
theorem Slc.elem {α : Type} {RE : α → List Value → Prop} {sz : Nat} {xs : List α} (h : Slc RE sz μ v xs) {i : Nat} {z : α} (hz : xs[i]? = some z) :
    ∃ c, RE z c ∧ c.length = sz ∧ At μ (sb v) (so v + i * sz) c := by
  obtain ⟨cs, hE, A, cp, _, _, _, _, h5⟩ := h
  obtain ⟨X, c, Y, e, hX, hc, hr⟩ := hE.at_ hz
  have hlt : i < xs.length := (List.getElem?_eq_some_iff.1 hz).1
  have h5' := h5 (by omega)
  rw [e] at h5'
  have := h5'.part
  rw [hX] at this
  exact ⟨c, hr, hc, this⟩
theorem Slc.elem1 {α : Type} {RE : α → List Value → Prop} {xs : List α} (h : Slc RE 1 μ v xs) {i : Nat} {z : α} (hz : xs[i]? = some z) :
    ∃ c, RE z c ∧ c.length = 1 ∧ At μ (sb v) (so v + i) c := by
  have := h.elem hz
  rwa [Nat.mul_one] at this
theorem Slc.sv {α : Type} {RE : α → List Value → Prop} {sz : Nat} {xs : List α} (h : Slc RE sz μ v xs) : ∃ cs, SlV μ v xs.length cs := let ⟨cs, _, h2⟩ := h; ⟨cs, h2⟩
theorem Slc.le {α : Type} {RE RE' : α → List Value → Prop} {sz : Nat} {xs : List α} {ν : Store} (h : Slc RE sz μ v xs) (hm : ∀ x c, RE x c → RE' x c) (hl : μ.le ν) : Slc RE' sz ν v xs :=
  let ⟨cs, h1, h2⟩ := h; ⟨cs, h1.mono hm, h2.le hl⟩
theorem r_six1 {m : Nat} {cs : List Value} {e : TypeId} {k : IntKind} {i : Int} (hu : P.underlying t = some (.slice e)) (hs : (P.info? e).map (·.size) = some 1) (hv : SlV μ v m cs) (hA : Fr a n L) (hx : ov L x = some v) (hy : ov L y = some (.int k i)) (h0 : 0 ≤ i) (h1 : i < (m : Int)) :
    (execOp a.eval ⟨dst, .indexAddr t x y, ty, pos, aft, gd⟩).run P w = .ok (.value (.pointer (some ⟨sb v, so v + i.toNat, none⟩))) w := by
  have := r_six (P := P) (w := w) (dst := dst) (ty := ty) (pos := pos) (aft := aft) (gd := gd) hu hs hv hA hx hy h0 h1
  rwa [Nat.mul_one] at this
end
section
variable {P : Program} {Q : Exit → AW} {ops : Array Oper} {rest : List Oper} {W0 : World} {md : List Nat} {μ0 μ : Store} {its : List It} {w : World} {a : Act} {n : Nat} {L : List (Nat × Value)} {d : Nat} {dst : Option Nat} {ty t T : TypeId} {pos : String} {aft : Array Edge} {x y : Operand} {v u : Value} {g o : Nat}
theorem wpl_val {op : Op} {w' : World} (h : (execOp a.eval ⟨dst, op, ty, pos, aft, none⟩).run P w = .ok (.value v) w') (k : wpList P ops Q rest (a.put dst v) w') : wpList P ops Q (⟨dst, op, ty, pos, aft, none⟩ :: rest) a w :=
  wpList_plain rfl fun K hK => by
    unfold Oper.wp
    rw [h]
    exact hK _ _ k
theorem wpl_skip {op : Op} {w' : World} (h : (execOp a.eval ⟨dst, op, ty, pos, aft, none⟩).run P w = .ok .skip w') (k : wpList P ops Q rest (a.put dst undef) w') : wpList P ops Q (⟨dst, op, ty, pos, aft, none⟩ :: rest) a w :=
  wpList_plain rfl fun K hK => by
    unfold Oper.wp
    rw [h]
    exact hK _ _ k
theorem Iv.setRow (hI : Iv W0 md μ0 μ its w) {j : Nat} {chs chs' : List (List Value)} (hj : its[j]? = some (cel g chs T)) : Iv W0 md μ0 μ (its.set j (cel g chs' T)) (w.setRow g chs'.flatten.toArray) := by
  have hg := hI.cel_ok hj
  have hlt : g < w.heap.size := (Array.getElem?_eq_some_iff.1 hg).1
  refine hI.upd j _ (cel g chs' T) hj rfl rfl rfl (by simp) (fun k _ hk => setRow_other w g k _ (by simpa [cel] using hk)) (fun g' hg' => .inl hg') (fun g' hg' => ?_) (by simp [cel]) (setRow_heap w g _ _ T _ hg)
  have : g' = g := by simpa [cel] using hg'
  subst this
  simpa using hlt
def CalleeF (P : Program) (f : FuncId) : Prop := ∃ fn, P.funcs[f]? = some fn ∧ (fn.name == "runtime.NumGoroutine") = false ∧ fn.body.isNone = false
def ovs (L : List (Nat × Value)) : List Operand → Option (List Value)
  | [] => some []
  | x :: xs => match ov L x, ovs L xs with
    | some v, some vs => some (v :: vs)
    | _, _ => none
theorem Fr.evs (h : Fr a n L) : ∀ {xs : List Operand} {vs : List Value}, ovs L xs = some vs → xs.map a.eval = vs
  | [], vs, e => by simpa [ovs] using e
  | x :: xs, vs, e => by
    simp only [ovs] at e
    cases h1 : ov L x with
    | none => simp [h1] at e
    | some v =>
      cases h2 : ovs L xs with
      | none => simp [h1, h2] at e
      | some us =>
        simp [h1, h2] at e
        subst e
        simp [h.ev h1, h.evs h2]
theorem run_call {f : FuncId} {xs : List Operand} {vs : List Value} {ats : Array TypeId} {gd : Option (Nat × Bool)} (hf : CalleeF P f) (hA : Fr a n L) (hv : ovs L xs = some vs) :
    (execOp a.eval ⟨dst, .call { callee := .value (.func f), args := xs.toArray, argTypes := ats }, ty, pos, aft, gd⟩).run P w = .ok (.enter f vs.toArray) w := by
  obtain ⟨fn, h1, h2, h3⟩ := hf
  have h4 := hA.evs hv
  show (callFunc f (#[] ++ xs.toArray.map a.eval ++ #[])).run P w = _
  have h2' : fn.name ≠ "runtime.NumGoroutine" := by simpa using h2
  have h3' : fn.body ≠ none := fun e => by rw [e] at h3; cases h3
  simp [callFunc, h1, h2', h3', h4, program, Sem.run]
theorem o_call {f : FuncId} {xs : List Operand} {vs : List Value} {ats : Array TypeId} (Z : Value → World → Prop) (hf : CalleeF P f) (hA : Fr a n L) (hv : ovs L xs = some vs) (hc : Calls P f vs.toArray w fun e w' => ∃ v, e = .returned v ∧ Z v w')
    (hd : Nat.ble (d + 1) n = true) (k : ∀ v a w', Z v w' → Fr a n ((d, v) :: L) → wpList P ops Q rest a w') :
    wpList P ops Q (⟨some d, .call { callee := .value (.func f), args := xs.toArray, argTypes := ats }, ty, pos, aft, none⟩ :: rest) a w :=
  wpList_plain rfl fun K hK => by
    unfold Oper.wp
    rw [run_call hf hA hv]
    exact hc.mono fun e w' ⟨v, he, hz⟩ => by subst he; exact hK _ _ (k v _ _ hz (hA.put hd v))
theorem o_callp {f : FuncId} {xs : List Operand} {vs : List Value} {ats : Array TypeId} {Z : Prop} (hf : CalleeF P f) (hA : Fr a n L) (hv : ovs L xs = some vs) (hI : Iv W0 md μ0 μ its w) (hc : Calls P f vs.toArray w fun e w' => ∃ v, e = .returned v ∧ v = u ∧ Z ∧ Iv w [] μ μ [] w')
    (hd : Nat.ble (d + 1) n = true) (k : ∀ a w', Z → Iv W0 md μ0 μ its w' → Fr a n ((d, u) :: L) → wpList P ops Q rest a w') :
    wpList P ops Q (⟨some d, .call { callee := .value (.func f), args := xs.toArray, argTypes := ats }, ty, pos, aft, none⟩ :: rest) a w :=
  o_call (fun v w' => v = u ∧ Z ∧ Iv w [] μ μ [] w') hf hA hv hc hd fun v a w' ⟨e, hz, h'⟩ hA => by subst e; exact k a w' hz (hI.call h') hA
end
section
variable {P : Program} {a : Act} {w : World} {n : Nat} {L : List (Nat × Value)} {v : Value} {fn : Func} {Post : Ending → World → Prop}
def RetP (P : Program) (fn : Func) (Post : Ending → World → Prop) : AW := fun a w => a.defers = [] ∧ ∃ v, (results fn a.tmps).run P w = .ok v w ∧ Post (.returned v) w
theorem enter {f : FuncId} {c : Code} {args : List Value} {m : Nat} (hf : P.funcs[f]? = some fn) (hb : fn.body = some c) (hm : fn.ntmps = m) (hn : Nat.ble args.length m = true)
    (h : ∀ a, Fr a m (fr0 0 args) → c.wp P (PQ (RetP P fn Post) [] (RetP P fn Post)) a w) : Calls P f args.toArray w Post := by
  refine calls_of_wp hf hb (wp_mono (h _ ?_) fun e a w hq => ?_)
  · subst hm
    have := Fr.start args.toArray fn.ntmps (by simpa using hn)
    simpa using this
  · cases e with
    | normal => exact hq
    | ret => exact hq
    | exit i => obtain ⟨M, hM, _⟩ := hq; simp at hM
    | _ => exact hq.elim
theorem ret1 {t : Nat} (hA : Fr a n L) (hr : fn.results = #[.tmp t]) (hv : lk L t = some v) (h : Post (.returned v) w) : RetP P fn Post a w := by
  refine ⟨hA.d, v, ?_, h⟩
  have := hA.g t v hv
  rw [results_tmp hr]
  simp [this]
theorem ret0 (hA : Fr a n L) (hr : fn.results = #[]) (h : Post (.returned (.tuple #[])) w) : RetP P fn Post a w :=
  ⟨hA.d, _, results_none hr _ _ _, h⟩
end
end Go.Proofs.Ytlpggofilkfbnaa.K
namespace Go.Proofs.Ytlpggofilkfbnaa.K
open Go
section
variable {P : Program} {ops : Array Oper} {rest : List Oper} {W0 : World} {md : List Nat} {μ0 μ : Store} {its : List It} {w : World} {a : Act} {n : Nat} {L : List (Nat × Value)} {d : Nat} {ty : TypeId} {pos : String} {aft : Array Edge} {v : Value} {op : Op}
  {C : World → Prop} {Q : Act → Prop} {N R : AW} {E : List (Nat × AW)}
theorem qtp (hA : Fr a n L) (h : ∀ w, C w → (execOp a.eval ⟨some d, op, ty, pos, aft, none⟩).run P w = .ok (.value v) w) (hd : Nat.ble (d + 1) n = true)
    (k : ∀ a, Fr a n ((d, v) :: L) → wpQuiet P ops C Q rest a) : wpQuiet P ops C Q (⟨some d, op, ty, pos, aft, none⟩ :: rest) a :=
  wpQuiet_step fun K hK => by
    rw [if_pos (show Region.wanted ⟨some d, op, ty, pos, aft, none⟩ (yielded ops a.tmps) = true from rfl)]
    refine ⟨v, fun w hw => ?_, hK _ (k _ (hA.put hd v))⟩
    unfold Oper.quietAt
    rw [h w hw]
    exact ⟨rfl, rfl⟩
theorem qcall {f : FuncId} {xs : List Operand} {vs : List Value} {ats : Array TypeId} (hf : CalleeF P f) (hA : Fr a n L) (hv : ovs L xs = some vs) (hc : ∀ w, C w → Calls P f vs.toArray w fun e w' => e = .returned v ∧ C w') (hd : Nat.ble (d + 1) n = true)
    (k : ∀ a, Fr a n ((d, v) :: L) → wpQuiet P ops C Q rest a) : wpQuiet P ops C Q (⟨some d, .call { callee := .value (.func f), args := xs.toArray, argTypes := ats }, ty, pos, aft, none⟩ :: rest) a :=
  wpQuiet_step fun K hK => by
    rw [if_pos (show Region.wanted ⟨some d, .call { callee := .value (.func f), args := xs.toArray, argTypes := ats }, ty, pos, aft, none⟩ (yielded ops a.tmps) = true from rfl)]
    refine ⟨v, fun w hw => ?_, hK _ (k _ (hA.put hd v))⟩
    unfold Oper.quietAt
    rw [run_call hf hA hv]
    exact ⟨rfl, hc w hw⟩
theorem qun {dst : Option Nat} {g : Option (Nat × Bool)} (hw : Region.wanted ⟨dst, op, ty, pos, aft, g⟩ (yielded ops a.tmps) = true)
    (k : wpQuiet P ops C Q (⟨dst, op, ty, pos, aft, none⟩ :: rest) a) : wpQuiet P ops C Q (⟨dst, op, ty, pos, aft, g⟩ :: rest) a := by
  unfold wpQuiet at k ⊢
  rw [if_pos hw]
  rw [if_pos (show Region.wanted ⟨dst, op, ty, pos, aft, none⟩ (yielded ops a.tmps) = true from rfl)] at k
  exact k
theorem q_yes (hA : Fr a n L) {dst : Option Nat} {j t : Nat} {b β : Bool} (hj : ((ops[j]?).bind (·.dst)) = some t) (ht : lk L t = some (.bool β)) (hb : β = b)
    (k : wpQuiet P ops C Q (⟨dst, op, ty, pos, aft, none⟩ :: rest) a) : wpQuiet P ops C Q (⟨dst, op, ty, pos, aft, some (j, b)⟩ :: rest) a :=
  qun (by have := yields (ops := ops) hA hj ht; simp [Region.wanted, this, vb, hb]) k
theorem q_no (hA : Fr a n L) {j t : Nat} {b : Bool} (hj : ((ops[j]?).bind (·.dst)) = some t) (ht : lk L t = some v) (hne : vb v ≠ some b)
    (hd : Nat.ble (d + 1) n = true) (k : ∀ a, Fr a n ((d, undef) :: L) → wpQuiet P ops C Q rest a) : wpQuiet P ops C Q (⟨some d, op, ty, pos, aft, some (j, b)⟩ :: rest) a := by
  have hy := yields (ops := ops) hA hj ht
  have hw : Region.wanted ⟨some d, op, ty, pos, aft, some (j, b)⟩ (yielded ops a.tmps) = false := by
    simp only [Region.wanted, hy]
    simpa using hne
  unfold wpQuiet
  rw [if_neg (by rw [hw]; simp)]
  exact k _ (hA.put hd undef)
theorem q_nil (h : Q a) : wpQuiet P ops C Q [] a := h
theorem plq {f : FuncId} {vs : List Value} {u : Value} {Z : Prop} {w : World} (hc : Calls P f vs.toArray w fun e w' => ∃ v, e = .returned v ∧ v = u ∧ Z ∧ Iv w [] μ μ [] w') (hI : Iv W0 md μ0 μ its w) :
    Calls P f vs.toArray w fun e w' => e = .returned u ∧ Iv W0 md μ0 μ its w' :=
  hc.mono fun e w' ⟨v, he, hv, _, h'⟩ => ⟨by rw [he, hv], hI.call h'⟩
theorem w_draw {id : Nat} {l : List Oper} (hm : P.follows .mixedOrders = true) (hB : Region.lexB .any l.toArray = true) (hI : Iv W0 md μ0 μ its w)
    (h : wpQuiet P l.toArray (fun w => Iv W0 md μ0 μ its w) (fun a => ∀ w, Iv W0 md μ0 μ its w → N a w) l a) : (Code.region id l.toArray true).wp P (PQ N E R) a w :=
  wp_region_quiet (C := fun w => Iv W0 md μ0 μ its w) hm hB hI.drew1 h
end
theorem bind_some {α β : Type} {o : Option α} {f : α → Option β} {r : β} (h : o.bind f = some r) : ∃ x, o = some x ∧ f x = some r := by
  cases o with
  | none => cases h
  | some x => exact ⟨x, rfl, h⟩
theorem guard_some {α : Type} {c : Prop} [Decidable c] {o : Option α} {r : α} (h : (if c then o else none) = some r) : c ∧ o = some r := by
  by_cases hc : c
  · rw [if_pos hc] at h; exact ⟨hc, h⟩
  · rw [if_neg hc] at h; cases h
theorem bT {α β : Type} {c : Prop} [Decidable c] {A B : Option α} {K : α → Option β} {r : β} (h : (if c then A else B).bind K = some r) (hc : c) : A.bind K = some r := by rwa [if_pos hc] at h
theorem bF {α β : Type} {c : Prop} [Decidable c] {A B : Option α} {K : α → Option β} {r : β} (h : (if c then A else B).bind K = some r) (hc : ¬ c) : B.bind K = some r := by rwa [if_neg hc] at h
theorem bG {α β : Type} {c : Prop} [Decidable c] {A : Option α} {K : α → Option β} {r : β} (h : (if c then A else none).bind K = some r) : c ∧ A.bind K = some r := by
  by_cases hc : c
  · rw [if_pos hc] at h; exact ⟨hc, h⟩
  · rw [if_neg hc] at h; cases h
theorem bB {α β γ : Type} {o : Option α} {f : α → Option β} {K : β → Option γ} {r : γ} (h : (o.bind f).bind K = some r) : ∃ x, o = some x ∧ (f x).bind K = some r := by
  cases o with
  | none => cases h
  | some x => exact ⟨x, rfl, h⟩
theorem bS {α β : Type} {v : α} {K : α → Option β} {r : β} (h : (some v).bind K = some r) : K v = some r := h
theorem bI {α : Type} {o : Option α} {r : α} (h : o = some r) : o.bind some = some r := by rw [h]; rfl
theorem nT {b : Bool} (h : (!b) = true) : b = false := by cases b <;> first | rfl | cases h
theorem nF {b : Bool} (h : (!b) = false) : b = true := by cases b <;> first | rfl | cases h
theorem ft {b : Bool} (h : b = false) : ¬ b = true := by rw [h]; exact Bool.false_ne_true
def loopN {σ ρ : Type} (step : σ → Option (σ ⊕ ρ)) : Nat → σ → Option ρ
  | 0, _ => none
  | n + 1, s => match step s with
    | none => none
    | some (.inl s') => loopN step n s'
    | some (.inr r) => some r
open Classical in
noncomputable def loopO {σ ρ : Type} (step : σ → Option (σ ⊕ ρ)) (s : σ) : Option ρ :=
  if h : ∃ n r, loopN step n s = some r then some (h.choose_spec.choose) else none
section
variable {σ ρ : Type} {step : σ → Option (σ ⊕ ρ)} {s : σ} {r : ρ}
theorem loopN_mono {n : Nat} : ∀ {s : σ}, loopN step n s = some r → ∀ m, n ≤ m → loopN step m s = some r := by
  induction n with
  | zero => intro s h; cases h
  | succ n ih =>
    intro s h m hm
    obtain ⟨m, rfl⟩ : ∃ k, m = k + 1 := ⟨m - 1, by omega⟩
    simp only [loopN] at h ⊢
    cases hs : step s with
    | none => rw [hs] at h; cases h
    | some x =>
      rw [hs] at h
      cases x with
      | inl s' => exact ih h m (by omega)
      | inr r' => exact h
theorem loopN_one {n m : Nat} {r' : ρ} (h : loopN step n s = some r) (h' : loopN step m s = some r') : r = r' := by
  have h1 := loopN_mono h (max n m) (Nat.le_max_left _ _)
  have h2 := loopN_mono h' (max n m) (Nat.le_max_right _ _)
  rw [h1] at h2
  exact Option.some.inj h2
theorem loopO_of {n : Nat} (h : loopN step n s = some r) : loopO step s = some r := by
  unfold loopO
  have hx : ∃ n r, loopN step n s = some r := ⟨n, r, h⟩
  rw [dif_pos hx]
  exact congrArg some (loopN_one hx.choose_spec.choose_spec h)
theorem loopO_some (h : loopO step s = some r) : ∃ n, loopN step n s = some r := by
  unfold loopO at h
  split at h
  · rename_i hx
    have := Option.some.inj h
    subst this
    exact ⟨_, hx.choose_spec.choose_spec⟩
  · cases h
theorem loopO_eq : loopO step s = match step s with
    | none => none
    | some (.inl s') => loopO step s'
    | some (.inr r) => some r := by
  cases hs : step s with
  | none =>
    simp only
    cases h : loopO step s with
    | none => rfl
    | some r =>
      obtain ⟨n, hn⟩ := loopO_some h
      cases n with
      | zero => cases hn
      | succ n => simp only [loopN, hs] at hn; cases hn
  | some x =>
    cases x with
    | inr r => exact loopO_of (n := 1) (by simp [loopN, hs])
    | inl s' =>
      simp only
      cases h' : loopO step s' with
      | some r =>
        obtain ⟨n, hn⟩ := loopO_some h'
        exact loopO_of (n := n + 1) (by simpa [loopN, hs] using hn)
      | none =>
        cases h : loopO step s with
        | none => rfl
        | some r =>
          obtain ⟨n, hn⟩ := loopO_some h
          cases n with
          | zero => cases hn
          | succ n =>
            simp only [loopN, hs] at hn
            rw [loopO_of hn] at h'
            cases h'
theorem loopO_inl {s' : σ} (h : step s = some (.inl s')) : loopO step s = loopO step s' := by rw [loopO_eq, h]
theorem loopO_inr (h : step s = some (.inr r)) : loopO step s = some r := by rw [loopO_eq, h]
theorem loopN_bind {n : Nat} (h : loopN step n s = some r) : ∃ m, n = m + 1 ∧ (step s).bind (fun x => Sum.elim (loopN step m) some x) = some r := by
  cases n with
  | zero => cases h
  | succ n =>
    refine ⟨n, rfl, ?_⟩
    simp only [loopN] at h
    cases hs : step s with
    | none => rw [hs] at h; cases h
    | some x =>
      rw [hs] at h
      cases x with
      | inl s' => exact h
      | inr r' => exact h
end
end Go.Proofs.Ytlpggofilkfbnaa.K
namespace Go.Proofs.Ytlpggofilkfbnaa.K
open Go
set_option linter.unusedVariables false
set_option linter.unusedSimpArgs false
section
variable {P : Program} {W0 : World} {md : List Nat} {μ0 μ : Store} {its : List It} {w : World} {a : Act} {n : Nat} {L : List (Nat × Value)} {dst : Option Nat} {ty t T e : TypeId} {pos : String} {aft : Array Edge} {gd : Option (Nat × Bool)} {x y : Operand} {v : Value} {g o sz m : Nat} {cs : List Value}
theorem Iv.row_ok (hI : Iv W0 md μ0 μ its w) {j : Nat} (hj : its[j]? = some (row e sz v m cs)) : w.ownsRow 0 e sz v m cs := (hI.own _ (List.mem_of_getElem? hj)).1
theorem own_form (h : w.ownsRow 0 e sz v m cs) : ∃ A cp, v = .slice A m cp ∧ m ≤ cp ∧ cp ≤ maxLen ∧ (m ≠ 0 → A = some ⟨sb v, so v, none⟩ ∧ so v = 0) := by
  rcases h.2 with ⟨rfl, rfl⟩ | ⟨g, cap, cur, rfl, _, _, h1, h2, _⟩
  · exact ⟨none, 0, rfl, Nat.le_refl _, by simp [maxLen], fun h => absurd rfl h⟩
  · exact ⟨_, _, rfl, h1, h2, fun _ => ⟨rfl, rfl⟩⟩
theorem own_cells (h : w.ownsRow 0 e sz v m cs) {j : Nat} {u : Value} (hu : cs[j]? = some u) : w.cell? ⟨sb v, so v + j, none⟩ = some u := by
  rcases h.2 with ⟨rfl, rfl⟩ | ⟨g, cap, cur, rfl, _, _⟩
  · have := h.1
    simp only [Nat.zero_mul] at this
    rw [List.eq_nil_of_length_eq_zero this] at hu
    simp at hu
  · have := h.cells (g := g) rfl j u hu
    rw [add_eq] at this
    exact this
theorem r_rlen {j : Nat} {xs : Nat} (hu : P.underlying t = some (.slice e)) (hI : Iv W0 md μ0 μ its w) (hj : its[j]? = some (row T sz v m cs)) (hA : Fr a n L) (hx : ov L x = some v) :
    (execOp a.eval ⟨dst, .call { callee := .builtin .len, args := #[x], argTypes := #[t] }, ty, pos, aft, gd⟩).run P w = .ok (.value (.int .i64 m)) w := by
  obtain ⟨A, cp, e1, _⟩ := own_form (hI.row_ok hj)
  exact r_len hu hA (hx.trans (congrArg some e1))
theorem r_rix {j : Nat} {k : IntKind} {i : Int} (hu : P.underlying t = some (.slice e)) (hs : (P.info? e).map (·.size) = some sz) (hI : Iv W0 md μ0 μ its w) (hj : its[j]? = some (row T sz v m cs)) (hA : Fr a n L) (hx : ov L x = some v) (hy : ov L y = some (.int k i)) (h0 : 0 ≤ i) (h1 : i < (m : Int)) :
    (execOp a.eval ⟨dst, .indexAddr t x y, ty, pos, aft, gd⟩).run P w = .ok (.value (.pointer (some ⟨sb v, so v + i.toNat * sz, none⟩))) w := by
  obtain ⟨A, cp, e1, _, _, h4⟩ := own_form (hI.row_ok hj)
  have h4' := (h4 (by omega)).1
  cases hq : P.info? e with
  | none => simp [hq] at hs
  | some ei =>
    have hs' : ei.size = sz := by simpa [hq] using hs
    subst hs'
    rw [h4'] at e1
    exact r_ixs hu hq hA (hx.trans (congrArg some e1)) hy h0 h1
theorem r_rld1 {d : TypeDesc} {j q : Nat} {u : Value} (hu : P.underlying t = some d) (hd : isAggD d = false) (hI : Iv W0 md μ0 μ its w) (hj : its[j]? = some (row T sz v m cs)) (hc : cs[q]? = some u) (hA : Fr a n L) (hx : ov L x = some (.pointer (some ⟨sb v, o, none⟩))) (ho : so v + q = o) :
    (execOp a.eval ⟨dst, .load t x, ty, pos, aft, gd⟩).run P w = .ok (.value u) w := by
  subst ho
  have := own_cells (hI.row_ok hj) hc
  simp [execOp, hA.ev hx, Instr.loadAt, Instr.sureAddr, run_loadVar_one (P := P) hu hd _ this]
end
theorem els_int {k : IntKind} {xs : List Int} (h : ∀ x ∈ xs, InR k x) : Els (RI k) 1 xs (xs.map (.int k)) := by
  induction xs with
  | nil => exact .nil
  | cons x xs ih => exact .cons (c := [.int k x]) ⟨rfl, h x (by simp)⟩ rfl (ih fun y hy => h y (by simp [hy]))
theorem els_int_cs {k : IntKind} {xs : List Int} {cs : List Value} (h : Els (RI k) 1 xs cs) : cs = xs.map (.int k) ∧ ∀ x ∈ xs, InR k x := by
  induction h with
  | nil => exact ⟨rfl, by simp⟩
  | cons h1 _ _ ih =>
    obtain ⟨rfl, hr⟩ := h1
    obtain ⟨rfl, h2⟩ := ih
    refine ⟨rfl, fun x hx => ?_⟩
    rcases List.mem_cons.1 hx with rfl | hx
    · exact hr
    · exact h2 x hx
theorem getD_in {k : IntKind} {xs : List Int} (h : ∀ x ∈ xs, InR k x) (i : Nat) : InR k (xs.getD i 0) := by
  rcases Nat.lt_or_ge i xs.length with h' | h'
  · have e : xs.getD i 0 = xs[i] := by simp [List.getD, h']
    rw [e]
    exact h _ (List.getElem_mem h')
  · have e : xs.getD i 0 = 0 := by simp [List.getD, List.getElem?_eq_none h']
    rw [e]
    cases k <;> simp [InR]
theorem Els.ones {α : Type} {RE : α → List Value → Prop} {sz : Nat} {xs : List α} {cs : List Value} (h : Els RE sz xs cs) (h1 : ∀ x c, RE x c → ∀ u ∈ c, u.oneCell' = true) : ∀ u ∈ cs, u.oneCell' = true := by
  induction h with
  | nil => simp
  | cons hr _ _ ih =>
    intro u hu
    rcases List.mem_append.1 hu with hu | hu
    · exact h1 _ _ hr u hu
    · exact ih u hu
theorem one_RI (k : IntKind) : ∀ x c, RI k x c → ∀ u ∈ c, u.oneCell' = true := by
  rintro x c ⟨rfl, _⟩ u hu
  simp at hu
  subst hu
  rfl
theorem one_sl {μ : Store} {v : Value} {n : Nat} {cs : List Value} (h : SlV μ v n cs) : v.oneCell' = true := by
  obtain ⟨A, cp, rfl, _⟩ := h
  rfl
theorem els_get {k : IntKind} {xs : List Int} {cs : List Value} (h : Els (RI k) 1 xs cs) {i : Int} (h0 : 0 ≤ i) (h1 : i < (xs.length : Int)) : cs[i.toNat * 1]? = some (.int k (xs.getD i.toNat 0)) := by
  obtain ⟨rfl, _⟩ := els_int_cs h
  have : i.toNat < xs.length := by omega
  simp [List.getD, this]
theorem sR_in {k : IntKind} {x : Int} (hs : k.signed = false) (h : InR k x) (y : Int) : InR k (sR k x y) := by
  unfold sR
  generalize min y.toNat k.bits = n
  have hp : (0 : Int) < 2 ^ n := Int.pow_pos (by decide)
  have e : x.fdiv (2 ^ n) = x / 2 ^ n := Int.fdiv_eq_ediv_of_nonneg x (Int.le_of_lt hp)
  rw [e]
  have h1 : 0 ≤ x → 0 ≤ x / 2 ^ n := fun h => Int.ediv_nonneg h (Int.le_of_lt hp)
  have h2 : 0 ≤ x → x / 2 ^ n ≤ x := fun h => Int.ediv_le_self _ h
  cases k <;> first | (simp [IntKind.signed] at hs; done) | (simp only [InR] at *; omega)
theorem Iv.row_in {W0 : World} {md : List Nat} {μ0 μ : Store} {its : List It} {w : World} (hI : Iv W0 md μ0 μ its w) {j e sz m : Nat} {v : Value} {cs : List Value} (hj : its[j]? = some (row e sz v m cs)) : InR .i64 (m : Int) := by
  obtain ⟨A, cp, _, h1, h2, _⟩ := own_form (hI.row_ok hj)
  simp only [maxLen] at h2
  exact ⟨by omega, by omega⟩
theorem eqIn_nil {P : Program} {w : World} {t e : TypeId} (d : Nat) (A : Option Addr) (m cp : Nat) (hu : P.underlying t = some (.slice e)) : (Op.equalIn (d + 1) t (.slice A m cp) (.slice none 0 0)).run P w = .ok A.isNone w := by
  cases A <;> simp [Op.equalIn, run_underlying hu]
def inb : IntKind → Int → Bool
  | .i8, n => decide (-128 ≤ n) && decide (n < 128)
  | .i16, n => decide (-32768 ≤ n) && decide (n < 32768)
  | .i32, n => decide (-2147483648 ≤ n) && decide (n < 2147483648)
  | .i64, n => decide (-9223372036854775808 ≤ n) && decide (n < 9223372036854775808)
  | .u8, n => decide (0 ≤ n) && decide (n < 256)
  | .u16, n => decide (0 ≤ n) && decide (n < 65536)
  | .u32, n => decide (0 ≤ n) && decide (n < 4294967296)
  | .u64, n => decide (0 ≤ n) && decide (n < 18446744073709551616)
theorem in_lit (k : IntKind) (x : Int) (h : inb k x = true) : InR k x := by
  cases k <;> simpa [inb, InR] using h
theorem r_eqnil {P : Program} {w : World} {a : Act} {n : Nat} {L : List (Nat × Value)} {dst : Option Nat} {ty t t' e : TypeId} {pos : String} {aft : Array Edge} {g : Option (Nat × Bool)} {x y : Operand} {A : Option Addr} {m cp : Nat} (hu : P.underlying t = some (.slice e)) (hA : Fr a n L) (hx : ov L x = some (.slice A m cp)) (hy : ov L y = some (.slice none 0 0)) :
    (execOp a.eval ⟨dst, .binOp .eql t x y t', ty, pos, aft, g⟩).run P w = .ok (.value (.bool A.isNone)) w := by
  have h := eqIn_nil (P := P) (w := w) 9999 A m cp hu
  have hb : (binOp .eql t (.slice A m cp) (.slice none 0 0)).run P w = .ok (.bool A.isNone) w := by
    simp only [binOp, Op.equal, Op.maxDepth]
    rw [Sem.run_bind, h]
    rfl
  simp [execOp, hA.ev hx, hA.ev hy, eqGuard, hb]
section
variable {P : Program} {Q : Exit → AW} {ops : Array Oper} {rest : List Oper} {W0 : World} {md : List Nat} {μ0 μ : Store} {its : List It} {w : World} {a : Act} {n : Nat} {L : List (Nat × Value)} {d : Nat} {dst : Option Nat} {ty t T e : TypeId} {pos : String} {aft : Array Edge} {x y : Operand} {v u vx : Value} {g o sz m mx by_ : Nat} {cs news : List Value}
theorem run_app {i : TypeInfo} {z : Value} (ht : P.underlying t = some (.slice e)) (hi : P.info? e = some i) (hz : i.zero = some z) (hsize : i.size = sz) (hzs : z.cells.size = sz) (hby : i.bytes = by_)
    (hown : w.ownsRow 0 e sz v m cs) {ad : Addr} {c : Nat} (hl : news.length = mx * sz) (hnews : ∀ j u, news[j]? = some u → w.cell? (ad.add j) = some u) (h1 : ∀ u ∈ news, u.oneCell' = true)
    (h63 : m + mx ≤ maxLen) (hb : (m + mx) * by_ ≤ 140737488355328) :
    ∃ v' w', (Builtin.append_ #[t, t] ty #[v, .slice (some ad) mx c]).run P w = .ok v' w' ∧ w'.ownsRow 0 e sz v' (m + mx) (cs ++ news) ∧ w.grownBy w' v.ownBlock ∧ (∀ k, v'.ownBlock = some k → v.ownBlock = some k ∨ w.heap.size ≤ k) ∧ (∀ k, v'.ownBlock = some k → k < w'.heap.size) := by
  subst hsize
  subst hby
  have hsmall : m + mx ≤ 9223372036854775807 := by simp only [maxLen] at h63; omega
  have hlen : (cs ++ news).length = (m + mx) * i.size := by rw [List.length_append, hown.1, hl, Nat.add_mul]
  have grown : ∀ (old : Nat), old < m + mx → ∀ (row : Option Nat),
      (w.drew.alloc (.cells (cs.toArray ++ news.toArray ++ Builtin.zeroCells z.cells (grownCap w (m + mx) old e - (m + mx))) e)).ownsRow 0 e i.size
        (.slice (some ⟨w.heap.size, 0, none⟩) (m + mx) (grownCap w (m + mx) old e)) (m + mx) (cs ++ news) ∧
      w.grownBy (w.drew.alloc (.cells (cs.toArray ++ news.toArray ++ Builtin.zeroCells z.cells (grownCap w (m + mx) old e - (m + mx))) e)) row := by
    intro old ho row
    have hge := grownCap_ge w (m + mx) old e
    have hcm : grownCap w (m + mx) old e ≤ maxLen := grownCap_le_maxLen w (m + mx) old e h63
    refine ⟨⟨hlen, .inr ⟨w.heap.size, _, _, rfl, Nat.zero_le _, heap_alloc_new w.drew _, hge, hcm, ?_, ?_⟩⟩, ⟨rfl, rfl, rfl, by simp, fun k hk _ => RowKit.Below.heap_alloc w.drew _ k hk⟩⟩
    · simp only [Array.size_append, List.size_toArray, size_zeroCells, hzs, hown.1, hl, ← Nat.add_mul]
      congr 1
      omega
    · simp only [Array.toList_append, List.append_assoc]
      rw [← List.append_assoc, ← hlen]
      exact List.take_left
  have hnewsz : ∀ (o : Obj), (w.drew.alloc o).heap.size = w.heap.size + 1 := fun o => by show (w.heap.push o).size = _; simp
  rcases hown.2 with ⟨rfl, rfl⟩ | ⟨g, cap, cur, rfl, hbg, hg, hnc, hcm, hcs, htake⟩
  · have hx : cs = [] := List.eq_nil_of_length_eq_zero (by simpa using hown.1)
    subst hx
    by_cases hm : mx = 0
    · subst hm
      have hn : news = [] := List.eq_nil_of_length_eq_zero (by simpa using hl)
      subst hn
      refine ⟨.slice none 0 0, w, ?_, World.ownsRow_nil w 0 e i.size, ⟨rfl, rfl, rfl, Nat.le_refl _, fun _ _ _ => rfl⟩, fun k hk => by simp [Value.ownBlock] at hk, fun k hk => by simp [Value.ownBlock] at hk⟩
      simp [Builtin.append_, run_underlying ht, sizeOf, typeInfo, hi, Builtin.lenOf, Builtin.firstCells, loadCells, loadCellsFrom]
    · have hr := run_append_nil (P := P) w t ty e i z ht hi hz ad mx c news hl hnews (by omega) (by omega) (by have hb' := hb; simp only [Nat.zero_add] at hb'; omega)
      have hgr := grown 0 (by omega) (Value.ownBlock (.slice none 0 0))
      simp only [Nat.zero_add, List.nil_append, Array.empty_append] at hgr ⊢
      exact ⟨_, _, hr, hgr.1, hgr.2, fun k hk => .inr (by simp [Value.ownBlock] at hk; omega), fun k hk => by rw [hnewsz]; simp [Value.ownBlock] at hk; omega⟩
  · have hglt : g < w.heap.size := (Array.getElem?_eq_some_iff.1 hg).1
    by_cases hroom : m + mx ≤ cap
    · have hfit : m * i.size + news.length ≤ cur.size := by rw [hl, hcs, ← Nat.add_mul]; exact Nat.mul_le_mul_right _ hroom
      have hr := run_append_room (P := P) w t ty e i ht hi g m cap cur hg ad mx c news hl hnews h1 hroom hfit
      refine ⟨_, _, hr, ⟨hlen, .inr ⟨g, cap, _, rfl, hbg, setRow_heap w g cur _ e _ hg, hroom, hcm, ?_, ?_⟩⟩, ⟨rfl, rfl, rfl, by simp, fun k _ hk => setRow_other w g k _ (fun e => hk (by simp [Value.ownBlock, e]))⟩, fun k hk => .inl hk, fun k hk => ?_⟩
      · simp only [List.size_toArray, List.length_append, List.length_take, List.length_drop, Array.length_toList]
        omega
      · rw [htake, ← hlen]
        exact List.take_left
      · simp [Value.ownBlock] at hk
        subst hk
        simpa using hglt
    · have holds : ∀ j u, cs[j]? = some u → w.cell? ((⟨g, 0, none⟩ : Addr).add j) = some u := hown.cells (g := g) rfl
      have hr := run_append_grow (P := P) w t ty e i z ht hi hz ⟨g, 0, none⟩ m cap cs hown.1 holds ad mx c news hl hnews (by omega) (by omega) (growslice_fits (by omega) hb)
      have hgr := grown cap (by omega) (Value.ownBlock (.slice (some ⟨g, 0, none⟩) m cap))
      exact ⟨_, _, hr, hgr.1, hgr.2, fun k hk => .inr (by simp [Value.ownBlock] at hk; omega), fun k hk => by rw [hnewsz]; simp [Value.ownBlock] at hk; omega⟩
def TyE (P : Program) (e : TypeId) (sz by_ : Nat) : Prop := ∃ i z, P.info? e = some i ∧ i.zero = some z ∧ i.size = sz ∧ z.cells.size = sz ∧ i.bytes = by_
theorem TyE.of (h1 : (P.info? e).map (·.size) = some sz) (h2 : (P.info? e).map (·.bytes) = some by_) (h3 : ∃ z, (P.info? e).map (·.zero) = some (some z) ∧ z.cells.size = sz) : TyE P e sz by_ := by
  obtain ⟨z, h3, h4⟩ := h3
  cases hq : P.info? e with
  | none => simp [hq] at h1
  | some i => exact ⟨i, z, hq, by simpa [hq] using h3, by simpa [hq] using h1, h4, by simpa [hq] using h2⟩
theorem run_app0 {i : TypeInfo} (ht : P.underlying t = some (.slice e)) (hi : P.info? e = some i) (hown : w.ownsRow 0 e sz v m cs) (c : Nat) :
    (Builtin.append_ #[t, t] ty #[v, .slice none 0 c]).run P w = .ok v w := by
  rcases hown.2 with ⟨rfl, rfl⟩ | ⟨g, cap, cur, rfl, hbg, hg, hnc, hcm, hcs, htake⟩
  · simp [Builtin.append_, run_underlying ht, sizeOf, typeInfo, hi, Builtin.lenOf, Builtin.firstCells]
  · simp [Builtin.append_, run_underlying ht, sizeOf, typeInfo, hi, Builtin.lenOf, Builtin.firstCells, hnc, storeCells]
theorem o_app {j : Nat} (hte : TyE P e sz by_) (ht : P.underlying t = some (.slice e)) (hI : Iv W0 md μ0 μ its w) (hj : its[j]? = some (row e sz v m cs)) (hA : Fr a n L) (hx : ov L x = some v) (hy : ov L y = some vx)
    (hf : ∃ A cp, vx = .slice A mx cp ∧ (mx ≠ 0 → ∃ ad, A = some ad ∧ ∀ j u, news[j]? = some u → w.cell? (ad.add j) = some u)) (hl : news.length = mx * sz) (h1 : ∀ u ∈ news, u.oneCell' = true)
    (h63 : m + mx ≤ maxLen) (hb : (m + mx) * by_ ≤ 140737488355328) (hd : Nat.ble (d + 1) n = true)
    (k : ∀ v' a w, Fr a n ((d, v') :: L) → Iv W0 md μ0 μ (its.set j (row e sz v' (m + mx) (cs ++ news))) w → wpList P ops Q rest a w) :
    wpList P ops Q (⟨some d, .call { callee := .builtin .append, args := #[x, y], argTypes := #[t, t] }, ty, pos, aft, none⟩ :: rest) a w := by
  obtain ⟨i, z, hi, hz, hsize, hzs, hby⟩ := hte
  obtain ⟨A, cp, rfl, hA2⟩ := hf
  have hown := hI.row_ok hj
  have main : ∃ v' w', (Builtin.append_ #[t, t] ty #[v, .slice A mx cp]).run P w = .ok v' w' ∧ w'.ownsRow 0 e sz v' (m + mx) (cs ++ news) ∧ w.grownBy w' v.ownBlock ∧ (∀ k, v'.ownBlock = some k → v.ownBlock = some k ∨ w.heap.size ≤ k) ∧ (∀ k, v'.ownBlock = some k → k < w'.heap.size) := by
    cases A with
    | some ad =>
      by_cases h0 : mx = 0
      · subst h0
        have hn : news = [] := List.eq_nil_of_length_eq_zero (by simpa using hl)
        subst hn
        exact run_app ht hi hz hsize hzs hby hown (by simp) (fun j u hu => by simp at hu) (by simp) h63 hb
      · obtain ⟨ad', e1, h2⟩ := hA2 h0
        cases e1
        exact run_app ht hi hz hsize hzs hby hown hl h2 h1 h63 hb
    | none =>
      have h0 : mx = 0 := by
        rcases Nat.eq_zero_or_pos mx with h | h
        · exact h
        · obtain ⟨ad, e1, _⟩ := hA2 (by omega); cases e1
      subst h0
      have hn : news = [] := List.eq_nil_of_length_eq_zero (by simpa using hl)
      subst hn
      refine ⟨v, w, run_app0 ht hi hown cp, by simpa using hown, ⟨rfl, rfl, rfl, Nat.le_refl _, fun _ _ _ => rfl⟩, fun k hk => .inl hk, fun k hk => ?_⟩
      exact ((hI.own _ (List.mem_of_getElem? hj)).2 k (by simp [row, hk])).1
  obtain ⟨v', w', hr, ho', hg, hb1, hb2⟩ := main
  refine wpl_val (v := v') (w' := w') ?_ (k v' _ w' (hA.put hd v') (hI.upd j _ (row e sz v' (m + mx) (cs ++ news)) hj hg.os hg.tape hg.output hg.size (fun k hk hn => hg.block k hk (fun e => hn (by simp [row, ← e]))) (fun g hg' => ?_) (fun g hg' => ?_) ?_ ho'))
  · simp only [execOp, resolve, invoke, builtin, Sem.run_bind, Sem.run_pure, Result.andThen_ok, List.map_toArray, List.map_cons, List.map_nil, hA.ev hx, hA.ev hy, hr]
  · have : v'.ownBlock = some g := by simpa [row] using hg'
    rcases hb1 g this with h' | h'
    · exact .inl (by simp [row, h'])
    · exact .inr h'
  · exact hb2 g (by simpa [row] using hg')
  · cases h : v'.ownBlock <;> simp [row, h]
theorem o_appL {α : Type} {xs ys : List α} {j : Nat} (hte : TyE P e sz by_) (ht : P.underlying t = some (.slice e)) (hI : Iv W0 md μ0 μ its w) (hj : its[j]? = some (row e sz v xs.length cs)) (hA : Fr a n L) (hx : ov L x = some v) (hy : ov L y = some vx)
    (hf : ∃ A cp, vx = .slice A ys.length cp ∧ (ys.length ≠ 0 → ∃ ad, A = some ad ∧ ∀ j u, news[j]? = some u → w.cell? (ad.add j) = some u)) (hl : news.length = ys.length * sz) (h1 : ∀ u ∈ news, u.oneCell' = true)
    (h63 : xs.length + ys.length ≤ maxLen) (hb : (xs.length + ys.length) * by_ ≤ 140737488355328) (hd : Nat.ble (d + 1) n = true)
    (k : ∀ v' a w, Fr a n ((d, v') :: L) → Iv W0 md μ0 μ (its.set j (row e sz v' (xs ++ ys).length (cs ++ news))) w → wpList P ops Q rest a w) :
    wpList P ops Q (⟨some d, .call { callee := .builtin .append, args := #[x, y], argTypes := #[t, t] }, ty, pos, aft, none⟩ :: rest) a w :=
  o_app hte ht hI hj hA hx hy hf hl h1 h63 hb hd fun v' a w hA hI => k v' a w hA (by rw [List.length_append]; exact hI)
theorem src_sl (hr : Agr μ w) (h : SlV μ vx mx news) (hl : news.length = mx * sz) : ∃ A cp, vx = .slice A mx cp ∧ (mx ≠ 0 → ∃ ad, A = some ad ∧ ∀ j u, news[j]? = some u → w.cell? (ad.add j) = some u) := by
  obtain ⟨A, cp, e1, _, _, h4, h5⟩ := h
  exact ⟨A, cp, e1, fun h0 => ⟨_, h4 h0, fun j u hu => (h5 h0).cellq hr hu⟩⟩
theorem src_row {j : Nat} (hI : Iv W0 md μ0 μ its w) (hj : its[j]? = some (row T sz vx mx news)) : ∃ A cp, vx = .slice A mx cp ∧ (mx ≠ 0 → ∃ ad, A = some ad ∧ ∀ j u, news[j]? = some u → w.cell? (ad.add j) = some u) := by
  have hown := hI.row_ok hj
  obtain ⟨A, cp, e1, _, _, h4⟩ := own_form hown
  refine ⟨A, cp, e1, fun h0 => ⟨_, (h4 h0).1, fun j u hu => ?_⟩⟩
  rw [add_eq]
  exact own_cells hown hu
theorem Iv.nilRow (hI : Iv W0 md μ0 μ its w) (e sz : Nat) : Iv W0 md μ0 μ (row e sz (.slice none 0 0) 0 [] :: its) w := by
  refine ⟨hI.os, hI.tape, hI.out, hI.size, hI.frame, hI.le, hI.agr, hI.fresh, by simpa [row, Value.ownBlock] using hI.nodup, fun i hi => ?_⟩
  rcases List.mem_cons.1 hi with rfl | hi
  · exact ⟨World.ownsRow_nil w 0 e sz, fun g hg => by simp [row, Value.ownBlock] at hg⟩
  · exact hI.own i hi
theorem Iv.freezeRow (hI : Iv W0 md μ0 μ its w) (j : Nat) (hj : its[j]? = some (row e sz v m cs)) : ∃ μ', μ.le μ' ∧ SlV μ' v m cs ∧ Iv W0 md μ0 μ' (its.eraseIdx j) w := by
  have hown := hI.row_ok hj
  rcases hown.2 with ⟨rfl, rfl⟩ | ⟨g, cap, cur, rfl, hbg, hg, hnc, hcm, hcs, htake⟩
  · exact ⟨μ, Store.le.refl _, ⟨none, 0, rfl, Nat.le_refl _, by simp [maxLen], fun h => absurd rfl h, fun h => absurd rfl h⟩, hI.drop (List.eraseIdx_sublist its j)⟩
  · obtain ⟨μ', h1, h2, h3⟩ := hI.freeze j hj (g := g) (by simp [row, Value.ownBlock]) hg
    refine ⟨μ', h1, ⟨_, _, rfl, hnc, hcm, fun _ => rfl, fun _ i u hu => ?_⟩, h3⟩
    simp only [sb, so, Nat.zero_add, Store.cell, h2]
    rw [← htake, List.getElem?_take] at hu
    split at hu
    · simpa using hu
    · cases hu
end
section
variable {P : Program} {W0 : World} {md : List Nat} {μ0 μ : Store} {its : List It} {a : Act} {n : Nat} {L : List (Nat × Value)} {dst : Option Nat} {ty t T e : TypeId} {pos : String} {aft : Array Edge} {gd : Option (Nat × Bool)} {x lo hi : Operand} {v : Value} {g o sz m : Nat} {cs : List Value}
def loOf (L : List (Nat × Value)) : Option Operand → Option Int
  | none => some 0
  | some x => match ov L x with
    | some (.int _ i) => some i
    | _ => none
def hiOf (L : List (Nat × Value)) (m : Nat) : Option Operand → Option Int
  | none => some m
  | some x => match ov L x with
    | some (.int _ i) => some i
    | _ => none
theorem loOf_some {L : List (Nat × Value)} {x : Operand} {i : Int} (h : loOf L (some x) = some i) : ∃ k, ov L x = some (.int k i) := by
  simp only [loOf] at h
  cases hv : ov L x with
  | none => rw [hv] at h; cases h
  | some v => rw [hv] at h; cases v <;> simp at h; exact ⟨_, by rw [h]⟩
theorem hiOf_some {L : List (Nat × Value)} {m : Nat} {x : Operand} {i : Int} (h : hiOf L m (some x) = some i) : ∃ k, ov L x = some (.int k i) := by
  simp only [hiOf] at h
  cases hv : ov L x with
  | none => rw [hv] at h; cases h
  | some v => rw [hv] at h; cases v <;> simp at h; exact ⟨_, by rw [h]⟩
theorem run_bounds (b : Bool) {L : List (Nat × Value)} {m cp : Nat} {l h : Option Operand} {i j : Int} (hA : Fr a n L) (hl : loOf L l = some i) (hh : hiOf L m h = some j) (h0 : 0 ≤ i) (h1 : i ≤ j) (h2 : j ≤ (cp : Int)) (w : World) :
    (Instr.sliceBounds b m cp (l.map a.eval) (h.map a.eval) none).run P w = .ok (i.toNat, j.toNat, cp) w := by
  have ej : ((j.toNat : Nat) : Int) = j := Int.toNat_of_nonneg (by omega)
  cases l with
  | none =>
    have : i = 0 := by simpa [loOf] using hl.symm
    subst this
    cases h with
    | none =>
      have : j = m := by simpa [hiOf] using hh.symm
      subst this
      simp [Instr.sliceBounds]
    | some y =>
      obtain ⟨k, hk⟩ := hiOf_some hh
      simp [Instr.sliceBounds, hA.ev hk, run_sliceBound, (by omega : 0 ≤ j), h2]
  | some x =>
    obtain ⟨k', hk'⟩ := loOf_some hl
    cases h with
    | none =>
      have : j = m := by simpa [hiOf] using hh.symm
      subst this
      simp [Instr.sliceBounds, hA.ev hk', run_sliceBound, h0, h1]
    | some y =>
      obtain ⟨k, hk⟩ := hiOf_some hh
      simp [Instr.sliceBounds, hA.ev hk, hA.ev hk', run_sliceBound, (by omega : 0 ≤ j), h2, h0, ej, h1]
theorem r_sl {α : Type} {RE : α → List Value → Prop} {xs : List α} {l h : Option Operand} {i j : Int} (ht : P.underlying t = some (.slice e)) (hs : (P.info? e).map (·.size) = some sz) (hv : Slc RE sz μ v xs) (hA : Fr a n L) (hx : ov L x = some v)
    (hl : loOf L l = some i) (hh : hiOf L xs.length h = some j) (h0 : 0 ≤ i) (h1 : i ≤ j) (h2 : j ≤ (xs.length : Int)) :
    ∃ v', Slc RE sz μ v' ((xs.take j.toNat).drop i.toNat) ∧ ∀ (dst : Option Nat) (ty : TypeId) (pos : String) (aft : Array Edge) (gd : Option (Nat × Bool)) (w : World), (execOp a.eval ⟨dst, .slice t x l h none, ty, pos, aft, gd⟩).run P w = .ok (.value v') w := by
  obtain ⟨cs, hE, A, cp, e1, h3, h4, h5, h6⟩ := hv
  have hlen := hE.len
  have el : ((xs.take j.toNat).drop i.toNat).length = j.toNat - i.toNat := by simp; omega
  have hE' := (hE.take j.toNat).drop i.toNat
  refine ⟨.slice (if cp = i.toNat then A else A.map (·.add (i.toNat * sz))) (j.toNat - i.toNat) (cp - i.toNat), ⟨_, hE', ?_⟩, fun dst ty pos aft gd w => ?_⟩
  · rw [el]
    refine ⟨_, _, rfl, by omega, by omega, fun hn => ?_, fun hn => ?_⟩
    · have hA' := h5 (by omega)
      rw [if_neg (by omega)]
      simp [hA', sb, so, add_eq]
    · have hA' := h5 (by omega)
      have h6' := h6 (by omega)
      have e2 : cs = cs.take (i.toNat * sz) ++ ((cs.take (j.toNat * sz)).drop (i.toNat * sz) ++ cs.drop (j.toNat * sz)) := by
        have e3 : cs.take (i.toNat * sz) = (cs.take (j.toNat * sz)).take (i.toNat * sz) := by
          rw [List.take_take, Nat.min_eq_left (Nat.mul_le_mul_right _ (by omega))]
        rw [← List.append_assoc, e3, List.take_append_drop, List.take_append_drop]
      rw [e2] at h6'
      have h7 := h6'.part
      have e4 : (cs.take (i.toNat * sz)).length = i.toNat * sz := by
        rw [List.length_take, hlen, Nat.min_eq_left (Nat.mul_le_mul_right _ (by omega))]
      rw [e4] at h7
      rw [if_neg (by omega)]
      simp only [hA', Option.map_some, add_eq, sb, so]
      exact h7
  · cases hq : P.info? e with
    | none => simp [hq] at hs
    | some ei =>
      have hs' : ei.size = sz := by simpa [hq] using hs
      subst hs'
      have hb := run_bounds (P := P) true hA hl (m := xs.length) (cp := cp) hh h0 h1 (by omega) w
      have e3 : a.eval x = .slice A xs.length cp := (hA.ev hx).trans e1
      simp [execOp, Instr.sliceAt, e3, run_underlying ht, Instr.slice, hb, sizeOf, typeInfo, hq]
end
theorem els_set {k : IntKind} {xs : List Int} {cs : List Value} (h : Els (RI k) 1 xs cs) (i : Nat) {x : Int} (hx : InR k x) : Els (RI k) 1 (xs.set i x) (cs.set i (.int k x)) := by
  obtain ⟨rfl, h2⟩ := els_int_cs h
  have := els_int (k := k) (xs := xs.set i x) fun y hy => by
    rcases List.mem_or_eq_of_mem_set hy with h' | h'
    · exact h2 y h'
    · exact h' ▸ hx
  rwa [List.map_set] at this
section
variable {P : Program} {Q : Exit → AW} {ops : Array Oper} {rest : List Oper} {W0 : World} {md : List Nat} {μ0 μ : Store} {its : List It} {w : World} {a : Act} {n : Nat} {L : List (Nat × Value)} {d : Nat} {ty t T e : TypeId} {pos : String} {aft : Array Edge} {x y : Operand} {v u : Value} {g o sz by_ : Nat} {cs : List Value}
theorem o_rst {j q : Nat} {k : IntKind} {z : Int} {xs : List Int} (hs : (P.info? t).map (·.size) = some 1) (hI : Iv W0 md μ0 μ its w) (hj : its[j]? = some (row T 1 v xs.length cs)) (hA : Fr a n L) (hx : ov L x = some (.pointer (some ⟨sb v, o, none⟩))) (hy : ov L y = some (.int k z)) (ho : so v + q = o) (hq : q = q) (hlt : q < xs.length)
    (kk : ∀ w, Iv W0 md μ0 μ (its.set j (row T 1 v (xs.set q z).length (cs.set q (.int k z)))) w → wpList P ops Q rest a w) : wpList P ops Q (⟨none, .store t x y, ty, pos, aft, none⟩ :: rest) a w := by
  have hown := hI.row_ok hj
  have hlen := hown.1
  rcases hown.2 with ⟨rfl, h0⟩ | ⟨g, cap, cur, rfl, hb, hg, hnc, hcm, hcs, htake⟩
  · omega
  · have ho' : q = o := by simpa [so] using ho
    subst ho'
    have hcell : w.cell? ⟨g, q, none⟩ = some cur[q]! := by
      have hq' : q < cur.size := by omega
      simp [World.cell?, hg, hq']
    have hfro : w.frozen? ⟨g, q, none⟩ = false := by simp [World.frozen?, hg]
    have hglt : g < w.heap.size := (Array.getElem?_eq_some_iff.1 hg).1
    have hst : (storeVar t ⟨g, q, none⟩ (.int k z)).run P w = .ok () (w.setRow g (cur.setIfInBounds q (.int k z))) := by
      cases hq : P.info? t with
      | none => simp [hq] at hs
      | some ti =>
        have hz' : ti.size = 1 := by simpa [hq] using hs
        have h1 := run_store P w ⟨g, q, none⟩ (.int k z) .plain rfl
        rw [hcell] at h1
        simp only [hfro, Bool.false_eq_true, if_false, setCell_eq_setRow w g q cur T (0, 0) _ hg] at h1
        simp [storeVar, Value.cells, sizeOf, typeInfo, hq, hz', storeCells, add_eq, h1]
    refine wpl_skip (w' := w.setRow g (cur.setIfInBounds q (.int k z))) ?_ (kk _ (hI.upd j _ _ hj rfl rfl rfl (by simp) (fun i _ hi => setRow_other w g i _ (by simpa [row, Value.ownBlock] using hi)) (fun g' hg' => .inl (by simpa [row, Value.ownBlock] using hg')) (fun g' hg' => ?_) (by simp [row, Value.ownBlock]) ?_))
    · simp [execOp, hA.ev hx, hA.ev hy, Instr.storeAt, Instr.sureAddr, sb, hst]
    · have : g' = g := by simpa [row, Value.ownBlock] using hg'
      subst this
      simpa using hglt
    · refine ⟨by simp [hlen], .inr ⟨g, cap, _, by simp, hb, setRow_heap w g cur _ T _ hg, by simpa using hnc, hcm, by simpa using hcs, ?_⟩⟩
      simp only [List.length_set, Array.toList_setIfInBounds]
      rw [List.take_set, htake]
theorem els_rep {α : Type} {RE : α → List Value → Prop} {z0 : α} {c0 : List Value} (h : RE z0 c0) (hl : c0.length = sz) (m : Nat) : Els RE sz (List.replicate m z0) (List.replicate m c0).flatten := by
  induction m with
  | zero => exact .nil
  | succ m ih => rw [List.replicate_succ, List.replicate_succ, List.flatten_cons]; exact .cons h hl ih
theorem made_rep {z : Array Value} {c0 : List Value} (hz : z = c0.toArray) (h0 : 0 < c0.length) (m : Nat) : (madeCells z (m * c0.length)).toList = (List.replicate m c0).flatten := by
  subst hz
  induction m with
  | zero => simp [madeCells]
  | succ m ih =>
    rw [List.replicate_succ', List.flatten_append, ← ih]
    apply List.ext_getElem?
    intro i
    simp only [madeCells, Array.toList_map, Array.toList_range, List.flatten_cons, List.flatten_nil, List.append_nil, List.size_toArray]
    rcases Nat.lt_or_ge i (m * c0.length) with h | h
    · rw [List.getElem?_append_left (by simpa using h)]
      have h2 : i < (m + 1) * c0.length := Nat.lt_of_lt_of_le h (Nat.mul_le_mul_right _ (by omega))
      simp [h, h2]
    · rw [List.getElem?_append_right (by simpa using h)]
      simp only [List.length_map, List.length_range]
      rcases Nat.lt_or_ge i ((m + 1) * c0.length) with h2 | h2
      · have h3 : i - m * c0.length < c0.length := by rw [Nat.succ_mul] at h2; omega
        have h4 : i % c0.length = i - m * c0.length := by
          have : i = (i - m * c0.length) + c0.length * m := by rw [Nat.mul_comm c0.length m]; omega
          conv => lhs; rw [this, Nat.add_mul_mod_self_left, Nat.mod_eq_of_lt h3]
        simp [h2, h4, h3]
      · rw [List.getElem?_eq_none (by simpa using h2), List.getElem?_eq_none (by rw [Nat.succ_mul] at h2; omega)]
theorem o_make {α : Type} {RE : α → List Value → Prop} {z0 : α} {c0 : List Value} {kl kc : IntKind} {l c : Int} (hre : RE z0 c0) (hte : TyE P e sz by_) (hc0 : c0.length = sz) (hz : ∃ z, (P.info? e).map (·.zero) = some (some z) ∧ z.cells = c0.toArray) (hu : P.underlying t = some (.slice e)) (hI : Iv W0 md μ0 μ its w) (hA : Fr a n L) (hx : ov L x = some (.int kl l)) (hy : ov L y = some (.int kc c))
    (hb : 0 ≤ l ∧ l ≤ c ∧ c * (by_ : Int) ≤ 140737488355328 ∧ c ≤ (maxLen : Int)) (hd : Nat.ble (d + 1) n = true)
    (k : ∀ g cs a w, Els RE sz (List.replicate l.toNat z0) cs → Fr a n ((d, .slice (some ⟨g, 0, none⟩) l.toNat c.toNat) :: L) → Iv W0 md μ0 μ (row e sz (.slice (some ⟨g, 0, none⟩) l.toNat c.toNat) (List.replicate l.toNat z0).length cs :: its) w → wpList P ops Q rest a w) :
    wpList P ops Q (⟨some d, .makeSlice t x y, ty, pos, aft, none⟩ :: rest) a w := by
  obtain ⟨z, hz1, hz2⟩ := hz
  obtain ⟨i, z', hi, hz3, hsz, hz4, hby⟩ := hte
  have hzz : i.zero = some z := by simpa [hi] using hz1
  obtain ⟨b1, b2, b3, b4⟩ := hb
  simp only [maxLen] at b4
  have hr := run_make (P := P) w t e i z hu hi hzz kl kc l c b1 b2 (by rw [hby, Int.mul_comm]; omega) (by omega)
  have hr' : (execOp a.eval ⟨some d, .makeSlice t x y, ty, pos, aft, none⟩).run P w = .ok (.value (.slice (some ⟨w.heap.size, 0, none⟩) l.toNat c.toNat)) (w.alloc (.cells (madeCells z.cells (c.toNat * i.size)) e)) := by
    simp [execOp, hA.ev hx, hA.ev hy, hr]
  have hpos : 0 < c0.length ∨ c0.length = 0 := by omega
  refine wpl_val hr' (k _ (List.replicate l.toNat c0).flatten _ _ (els_rep hre hc0 _) (hA.put hd _) (hI.alloc _ _ (by simp [row, Value.ownBlock]) ?_))
  have hlc : l.toNat ≤ c.toNat := by omega
  have e1 : i.size = c0.length := by rw [hsz, hc0]
  refine ⟨by simp [hc0], .inr ⟨w.heap.size, c.toNat, _, by simp, Nat.zero_le _, heap_alloc_new w _, by simpa using hlc, by simp only [maxLen]; omega, by simp [size_madeCells, hsz], ?_⟩⟩
  rcases hpos with h0 | h0
  · rw [e1, made_rep hz2 h0, ← hc0]
    have e2 : (List.replicate c.toNat c0).flatten = (List.replicate l.toNat c0).flatten ++ (List.replicate (c.toNat - l.toNat) c0).flatten := by
      rw [← List.flatten_append, List.replicate_append_replicate]
      congr 2
      omega
    rw [e2, List.take_left' (by simp)]
  · have : c0 = [] := List.eq_nil_of_length_eq_zero h0
    subst this
    simp at hc0
    simp [← hc0, madeCells]
end
def RowOK (μ : Store) (w : World) (e sz : Nat) (v : Value) (n : Nat) (cs : List Value) : Prop := (row e sz v n cs).ok w ∧ (row e sz v n cs).foot.Nodup ∧ ∀ g ∈ (row e sz v n cs).foot, g < w.heap.size ∧ μ g = none
theorem RowOK.start {μ : Store} {w : World} {e sz : Nat} {v : Value} {n : Nat} {cs : List Value} (h : RowOK μ w e sz v n cs) (hμ : Agr μ w) : Iv w (row e sz v n cs).foot μ μ [row e sz v n cs] w := Iv.start1 hμ h.1 h.2.1 h.2.2
section
variable {P : Program} {Q : Exit → AW} {ops : Array Oper} {rest : List Oper} {W0 : World} {md : List Nat} {μ0 μ : Store} {its : List It} {w : World} {a : Act} {n : Nat} {L : List (Nat × Value)} {d : Nat} {dst : Option Nat} {ty t T e : TypeId} {pos : String} {aft : Array Edge} {gd : Option (Nat × Bool)} {sz by_ : Nat}
def pvs (L : List (Nat × Value)) : List (Nat × Operand) → Option (List (Nat × Value))
  | [] => some []
  | (i, x) :: xs => match ov L x, pvs L xs with
    | some v, some vs => some ((i, v) :: vs)
    | _, _ => none
theorem Fr.pvs (h : Fr a n L) : ∀ {xs : List (Nat × Operand)} {vs : List (Nat × Value)}, pvs L xs = some vs → xs.map (fun (i, x) => (i, a.eval x)) = vs
  | [], vs, e => by simpa [K.pvs] using e
  | (i, x) :: xs, vs, e => by
    simp only [K.pvs] at e
    cases h1 : ov L x with
    | none => simp [h1] at e
    | some v =>
      cases h2 : K.pvs L xs with
      | none => simp [h1, h2] at e
      | some us =>
        simp [h1, h2] at e
        subst e
        simp [h.ev h1, h.pvs h2]
theorem o_bsl {mm : Nat} {parts : List (Nat × Operand)} {pv : List (Nat × Value)} (cs : List Value) {z0 : Array Value} (hte : TyE P e sz by_) (hz : ∃ z, (P.info? e).map (·.zero) = some (some z) ∧ z.cells = z0) (hu : P.underlying t = some (.slice e)) (hI : Iv W0 md μ0 μ its w) (hA : Fr a n L) (hp : pvs L parts = some pv)
    (hpos : Nat.ble 1 sz = true) (hbig : Nat.ble (mm * sz) 16777216 = true) (hlen : cs.length = mm * sz)
    (hf : Instr.fill (fun i => some (i * sz, sz)) ((Array.range (mm * sz)).map ((if mm * sz = 0 then #[] else z0)[· % (if mm * sz = 0 then #[] else z0).size]!)) pv = some cs.toArray) (hd : Nat.ble (d + 1) n = true)
    (k : ∀ g a w, Fr a n ((d, .slice (some ⟨g, 0, none⟩) mm mm) :: L) → Iv W0 md μ0 μ (row e sz (.slice (some ⟨g, 0, none⟩) mm mm) mm cs :: its) w → wpList P ops Q rest a w) :
    wpList P ops Q (⟨some d, .buildSlice t mm parts.toArray, ty, pos, aft, none⟩ :: rest) a w := by
  obtain ⟨z, hz, rfl⟩ := hz
  obtain ⟨i, z', hi, hz1, hsz, hz2, hby⟩ := hte
  subst hsz
  have hzz : i.zero = some z := by simpa [hi] using hz
  have hp' := hA.pvs hp
  have hbig : ¬ mm * i.size > 16777216 := by have := Nat.le_of_ble_eq_true hbig; omega
  have hmm : mm ≤ maxLen := by
    have h0 : 0 < i.size := Nat.le_of_ble_eq_true hpos
    have : mm ≤ mm * i.size := Nat.le_mul_of_pos_right _ h0
    simp only [maxLen]
    omega
  have hr : (execOp a.eval ⟨some d, .buildSlice t mm parts.toArray, ty, pos, aft, none⟩).run P w = .ok (.value (.slice (some ⟨w.heap.size, 0, none⟩) mm mm)) (w.alloc (.cells cs.toArray e)) := by
    by_cases h0 : mm = 0
    · subst h0
      have hcs : cs = [] := List.eq_nil_of_length_eq_zero (by simpa using hlen)
      subst hcs
      simp [Array.range_zero'] at hf
      simp [execOp, Instr.buildSlice, typeInfo, program, hp', Sem.run, run_underlying hu, sizeOf, hi, hf, newRow, Array.range_zero']
    · have h1 : mm * i.size ≠ 0 := Nat.mul_ne_zero h0 (by have := Nat.le_of_ble_eq_true hpos; omega)
      simp only [h1, if_false] at hf
      have h2 : i.size ≠ 0 := by have := Nat.le_of_ble_eq_true hpos; omega
      simp [execOp, Instr.buildSlice, zeroValue, typeInfo, program, hp', Sem.run, run_underlying hu, sizeOf, hi, hzz, h1, hbig, hf, newRow]
  refine wpl_val hr (k _ _ _ (hA.put hd _) (hI.alloc _ _ (by simp [row, Value.ownBlock]) ?_))
  refine ⟨hlen, .inr ⟨w.heap.size, mm, _, rfl, Nat.zero_le _, heap_alloc_new w _, Nat.le_refl _, hmm, by simpa using hlen, ?_⟩⟩
  simp [← hlen]
def iMax (a b : Int) : Int := if a < b then b else a
theorem r_max {x y : Operand} {ts : Array TypeId} {k : IntKind} {i j : Int} (hA : Fr a n L) (hx : ov L x = some (.int k i)) (hy : ov L y = some (.int k j)) :
    (execOp a.eval ⟨dst, .call { callee := .builtin .max, args := #[x, y], argTypes := ts }, ty, pos, aft, gd⟩).run P w = .ok (.value (.int k (iMax i j))) w := by
  simp [execOp, resolve, invoke, builtin, hA.ev hx, hA.ev hy, Builtin.max_, Builtin.max2, iMax]
end
end Go.Proofs.Ytlpggofilkfbnaa.K
namespace Go.Proofs.Ytlpggofilkfbnaa.K
open Go
section
variable {P : Program} {ops : Array Oper} {Q : Exit → Act → World → Prop} {I I' : World → Prop} {T : List Nat} {l : Array Bool}
def waitsL (ops : Array Oper) : Nat → Nat → Nat → Bool
  | 0, _, _ => false
  | f + 1, t, i => match ops[t]? with
    | some o => o.after.any fun e => Region.binds .any e && (e.on == i || waitsL ops f e.on i)
    | none => false
def Shut (ops : Array Oper) (l : Array Bool) : Prop :=
  ∀ (j : Nat) (oj : Oper), ops[j]? = some oj → l.getD j false = true → ∀ e ∈ oj.after, Region.binds .any e = true → l.getD e.on false = true
def shutB (ops : Array Oper) (l : Array Bool) : Bool :=
  (List.range ops.size).all fun j => !l.getD j false || match ops[j]? with
    | some oj => oj.after.all fun e => !Region.binds .any e || l.getD e.on false
    | none => true
theorem shut_of (h : shutB ops l = true) : Shut ops l := by
  intro j oj hj hl e he hb
  have hlt : j < ops.size := (Array.getElem?_eq_some_iff.1 hj).1
  have h1 := List.all_eq_true.1 h j (List.mem_range.2 hlt)
  rw [hl, hj] at h1
  simp only [Bool.not_true, Bool.false_or] at h1
  have h2 := Array.all_eq_true'.1 h1 e he
  rw [hb] at h2
  simpa using h2
theorem waitsL_not {i : Nat} (hs : Shut ops l) (hi : l.getD i false = false) : ∀ (f t : Nat), waitsL ops f t i = true → l.getD t false = false ∧ t ∉ Region.ready .any ops l
  | 0, t, h => by cases h
  | f + 1, t, h => by
    unfold waitsL at h
    split at h
    case h_2 => cases h
    rename_i o ho
    obtain ⟨e, he, hb⟩ := Array.any_eq_true'.1 h
    simp only [Bool.and_eq_true, Bool.or_eq_true, beq_iff_eq] at hb
    have hn : l.getD e.on false = false := by
      rcases hb.2 with h1 | h1
      · rw [h1]; exact hi
      · exact (waitsL_not hs hi f e.on h1).1
    refine ⟨?_, fun hr => ?_⟩
    · cases hl : l.getD t false with
      | false => rfl
      | true =>
        have := hs t o ho hl e he hb.1
        rw [hn] at this
        cases this
    · obtain ⟨_, o', ho', hall⟩ := mem_ready.1 hr
      have : o' = o := Option.some.inj (ho'.symm.trans ho)
      subst this
      have := hall e he hb.1
      rw [hn] at this
      cases this
theorem Shut.set {i : Nat} (hs : Shut ops l) (hi : i ∈ Region.ready .any ops l) : Shut ops (l.setIfInBounds i true) := by
  obtain ⟨_, oi, hoi, hall⟩ := mem_ready.1 hi
  intro j oj hj hl e he hb
  by_cases hij : i = j
  · subst hij
    have : oj = oi := Option.some.inj (hj.symm.trans hoi)
    subst this
    exact getD_set_true (hall e he hb)
  · rw [getD_set_ne false hij] at hl
    exact getD_set_true (hs j oj hj hl e he hb)
theorem getD_tf {l : Array Bool} {i : Nat} (h : l.getD i true = false) : l.getD i false = false := by
  rcases Nat.lt_or_ge i l.size with h' | h'
  · simp [h'] at h ⊢; exact h
  · simp [Array.getElem?_eq_none h'] at h
def wrote (T : List Nat) (l : Array Bool) : Bool := T.any (l.getD · false)
theorem wrote_set {i : Nat} (h : wrote T (l.setIfInBounds i true) = true) (hi : T.contains i = false) : wrote T l = true := by
  obtain ⟨t, ht, hl⟩ := List.any_eq_true.1 h
  have hne : i ≠ t := fun e => by subst e; rw [List.contains_iff_mem.2 ht] at hi; cases hi
  rw [getD_set_ne false hne] at hl
  exact List.any_eq_true.2 ⟨t, ht, hl⟩
def wpG (P : Program) (ops : Array Oper) (Q : Exit → Act → World → Prop) (T : List Nat) (I : World → Prop) : Nat → Array Bool → Act → World → Prop
  | 0, l, a, w => Region.ready .any ops l = [] ∧ Q .normal a w
  | f + 1, l, a, w =>
    (Region.ready .any ops l = [] → Q .normal a w) ∧
    ∀ i ∈ Region.ready .any ops l, wpOp P ops Q i (fun a' w' => (wrote T (l.setIfInBounds i true) = true ∨ I w') ∧ wpG P ops Q T I f (l.setIfInBounds i true) a' w') a w
theorem wpAny_of_G : ∀ (f : Nat) (l : Array Bool) (a : Act) (w : World), wpG P ops Q T I f l a w → wpAny P .any ops Q f l a w
  | 0, _, _, _, h => h
  | f + 1, _, _, _, h => ⟨h.1, fun i hi => wpOp_mono (fun a' w' h' => wpAny_of_G f _ a' w' h'.2) (h.2 i hi)⟩
theorem g_first {i : Nat} {oi : Oper} {v : Value} (hi : ops[i]? = some oi) (hsel : ∀ (j : Nat) (o : Oper) cs b, ops[j]? = some o → o.op ≠ .select cs b)
    (hQ : ∀ c a w, Q (.panic c) (a.put oi.dst v) w → Q (.panic c) a w) (hT : T.contains i = false) (hW : ∀ t ∈ T, ∃ f, waitsL ops f t i = true) :
    ∀ (f : Nat) (l : Array Bool) (a : Act) (w : World), Shut ops l → wrote T l = false →
      (∀ j oj, ops[j]? = some oj → j ≠ i → l.getD j true = false → (∀ e ∈ oj.after, Region.binds .any e = true → e.on ≠ i) → oi.apart ops oj = true) →
      i ∈ Region.ready .any ops l → YieldsIf P ops I oi v a → I w →
      wpG P ops Q T I f (l.setIfInBounds i true) (a.put oi.dst v) w → wpG P ops Q T I (f + 1) l a w := by
  intro f
  induction f with
  | zero =>
    intro l a w _ _ _ hr hy hS H
    refine ⟨fun h => (by rw [h] at hr; cases hr), fun j hj => ?_⟩
    by_cases hji : j = i
    · subst hji; exact hy.wpOp hi hS ⟨.inr hS, H⟩
    · have := ready_mono hj hji
      rw [H.1] at this
      cases this
  | succ f ih =>
    intro l a w hsh hnw hfree hr hy hS H
    refine ⟨fun h => (by rw [h] at hr; cases hr), fun j hj => ?_⟩
    by_cases hji : j = i
    · subst hji; exact hy.wpOp hi hS ⟨.inr hS, H⟩
    · have h1 := H.2 j (ready_mono hj hji)
      obtain ⟨hjun, oj, hoj, hall⟩ := mem_ready.1 hj
      have hiun := (mem_ready.1 hr).1
      have hnot : ∀ e ∈ oj.after, Region.binds .any e = true → e.on ≠ i := fun e he hb heq => by
        have h1 := hall e he hb
        rw [heq, getD_tf hiun] at h1
        cases h1
      have hjT : T.contains j = false := by
        cases hc : T.contains j with
        | false => rfl
        | true =>
          obtain ⟨f', hf'⟩ := hW j (List.contains_iff_mem.1 hc)
          exact absurd hj (waitsL_not hsh (getD_tf hiun) f' j hf').2
      have h2 := wpOp_putIf hoj (hfree j oj hoj hji hjun hnot) (fun cs b => hsel i oi cs b hi) (fun cs b => hsel j oj cs b hoj) hQ hy h1
      have hfree' : ∀ k ok, ops[k]? = some ok → k ≠ i → (l.setIfInBounds j true).getD k true = false →
          (∀ e ∈ ok.after, Region.binds .any e = true → e.on ≠ i) → oi.apart ops ok = true := fun k ok hk hki hun hno => by
        refine hfree k ok hk hki ?_ hno
        by_cases hjk : j = k
        · subst hjk; exact hjun
        · rw [getD_set_ne true hjk] at hun; exact hun
      have hnw' : wrote T (l.setIfInBounds j true) = false := by
        cases hc : wrote T (l.setIfInBounds j true) with
        | false => rfl
        | true => rw [wrote_set hc hjT] at hnw; cases hnw
      refine wpOp_mono (fun a' w' h3 => ?_) h2
      have hw' : I w' := by
        rcases h3.2.1 with h4 | h4
        · rw [wrote_set (wrote_set h4 hjT) hT] at hnw; cases hnw
        · exact h4
      refine ⟨.inr hw', ih (l.setIfInBounds j true) a' w' (hsh.set hj) hnw' hfree' (ready_mono hr (Ne.symm hji)) h3.1 hw' ?_⟩
      rw [Array.setIfInBounds_comm _ _ hji]
      exact h3.2.2
theorem g_weak {i : Nat} {oi : Oper} {v : Value} (hi : ops[i]? = some oi) (hsel : ∀ (j : Nat) (o : Oper) cs b, ops[j]? = some o → o.op ≠ .select cs b)
    (hQ : ∀ c a w, Q (.panic c) (a.put oi.dst v) w → Q (.panic c) a w) (hT : T.contains i = false) :
    ∀ (f : Nat) (l : Array Bool) (a : Act) (w : World), (wrote T l = true ∨ I w) →
      (∀ j oj, ops[j]? = some oj → j ≠ i → l.getD j true = false → (∀ e ∈ oj.after, Region.binds .any e = true → e.on ≠ i) → oi.apart ops oj = true) →
      i ∈ Region.ready .any ops l → YieldsIf P ops (fun _ => True) oi v a →
      wpG P ops Q T I f (l.setIfInBounds i true) (a.put oi.dst v) w → wpG P ops Q T I (f + 1) l a w := by
  have up : ∀ {l : Array Bool} {k : Nat}, wrote T l = true → wrote T (l.setIfInBounds k true) = true := by
    intro l k h
    obtain ⟨t, ht, hl⟩ := List.any_eq_true.1 h
    exact List.any_eq_true.2 ⟨t, ht, getD_set_true hl⟩
  intro f
  induction f with
  | zero =>
    intro l a w hS _ hr hy H
    refine ⟨fun h => (by rw [h] at hr; cases hr), fun j hj => ?_⟩
    by_cases hji : j = i
    · subst hji; exact hy.wpOp hi trivial ⟨hS.imp up id, H⟩
    · have := ready_mono hj hji
      rw [H.1] at this
      cases this
  | succ f ih =>
    intro l a w hS hfree hr hy H
    refine ⟨fun h => (by rw [h] at hr; cases hr), fun j hj => ?_⟩
    by_cases hji : j = i
    · subst hji; exact hy.wpOp hi trivial ⟨hS.imp up id, H⟩
    · have h1 := H.2 j (ready_mono hj hji)
      obtain ⟨hjun, oj, hoj, hall⟩ := mem_ready.1 hj
      have hiun := (mem_ready.1 hr).1
      have hnot : ∀ e ∈ oj.after, Region.binds .any e = true → e.on ≠ i := fun e he hb heq => by
        have h1 := hall e he hb
        rw [heq, getD_tf hiun] at h1
        cases h1
      have h2 := wpOp_putIf hoj (hfree j oj hoj hji hjun hnot) (fun cs b => hsel i oi cs b hi) (fun cs b => hsel j oj cs b hoj) hQ hy h1
      have hfree' : ∀ k ok, ops[k]? = some ok → k ≠ i → (l.setIfInBounds j true).getD k true = false →
          (∀ e ∈ ok.after, Region.binds .any e = true → e.on ≠ i) → oi.apart ops ok = true := fun k ok hk hki hun hno => by
        refine hfree k ok hk hki ?_ hno
        by_cases hjk : j = k
        · subst hjk; exact hjun
        · rw [getD_set_ne true hjk] at hun; exact hun
      refine wpOp_mono (fun a' w' h3 => ?_) h2
      have hw' : wrote T (l.setIfInBounds j true) = true ∨ I w' := by
        rcases h3.2.1 with h4 | h4
        · rw [Array.setIfInBounds_comm _ _ (Ne.symm hji)] at h4
          exact .inl (wrote_set h4 hT)
        · exact .inr h4
      refine ⟨hw', ih (l.setIfInBounds j true) a' w' hw' hfree' (ready_mono hr (Ne.symm hji)) h3.1 ?_⟩
      rw [Array.setIfInBounds_comm _ _ hji]
      exact h3.2.2
end
section
variable {P : Program} {ops : Array Oper} {N R : AW} {E : List (Nat × AW)} {I I' : World → Prop} {T : List Nat} {l : Array Bool} {f i d n : Nat} {L : List (Nat × Value)} {a : Act} {w : World} {v : Value} {op : Op} {ty : TypeId} {pos : String} {aft : Array Edge} {gd : Option (Nat × Bool)} {dst : Option Nat}
theorem wp_pq {N' : AW} {o : Oper} {K : Act → World → Prop} (h : o.wp P a w K (PQ N' E R)) : o.wp P a w K (PQ N E R) := by
  unfold Oper.wp at *
  generalize (execOp a.eval o).run P w = r at *
  cases r with
  | ok n w' =>
    cases n <;> simp only [Oper.upon] at h ⊢ <;>
      first
        | exact h
        | exact Calls.mono h (fun e w'' he => by cases e <;> exact he)
        | exact Rows.mono h (fun _ _ he => he)
  | halt x w' => cases x <;> simp only [Oper.upon] at h ⊢ <;> exact h
theorem g_forced {o : Oper} (hi : ops[i]? = some o) (hr : Region.ready .any ops l = [i])
    (h : wpList P ops (PQ (fun a' w' => (wrote T (l.setIfInBounds i true) = true ∨ I w') ∧ wpG P ops (PQ N E R) T I f (l.setIfInBounds i true) a' w') E R) [o] a w) : wpG P ops (PQ N E R) T I (f + 1) l a w := by
  refine ⟨fun h0 => (by rw [h0] at hr; cases hr), fun j hj => ?_⟩
  rw [hr] at hj
  obtain rfl : j = i := by simpa using hj
  unfold wpOp
  simp only [hi]
  unfold wpList at h
  split
  · rename_i hw
    rw [if_pos hw] at h
    rcases h with h | ⟨_, _, _, h⟩
    · exact .inl (wp_pq h)
    · exact h.elim
  · rename_i hw
    rw [if_neg hw] at h
    exact h
def weakB (ops : Array Oper) (T : List Nat) (l : Array Bool) (i : Nat) : Bool :=
  Region.noSelect ops && Region.free .any ops l i && (Region.ready .any ops l).contains i && !T.contains i
def takeB (ops : Array Oper) (T : List Nat) (l : Array Bool) (i : Nat) : Bool :=
  weakB ops T l i && shutB ops l && !wrote T l && T.all (waitsL ops 12 · i)
theorem g_take (hA : Fr a n L) (hi : ops[i]? = some ⟨some d, op, ty, pos, aft, gd⟩) (hw : Region.wanted ⟨some d, op, ty, pos, aft, gd⟩ (yielded ops a.tmps) = true) (hB : takeB ops T l i = true) (hI : I w)
    (h : ∀ w, I w → (execOp a.eval ⟨some d, op, ty, pos, aft, gd⟩).run P w = .ok (.value v) w) (hd : Nat.ble (d + 1) n = true)
    (k : ∀ a, Fr a n ((d, v) :: L) → wpG P ops (PQ N E R) T I f (l.setIfInBounds i true) a w) : wpG P ops (PQ N E R) T I (f + 1) l a w := by
  simp only [takeB, weakB, Bool.and_eq_true, Bool.not_eq_true', List.all_eq_true] at hB
  obtain ⟨⟨⟨⟨⟨⟨h1, h2⟩, h3⟩, h4⟩, h5⟩, h6⟩, h7⟩ := hB
  exact g_first (v := v) hi (Region.noSelect_spec h1) (fun c a w h => h) h4 (fun t ht => ⟨_, h7 t ht⟩) f l a w (shut_of h5) h6 (Region.free_spec hi h2) (by simpa using h3) (.inl ⟨hw, h⟩) hI (k _ (hA.put hd v))
theorem g_easy (hA : Fr a n L) (hi : ops[i]? = some ⟨some d, op, ty, pos, aft, gd⟩) (hw : Region.wanted ⟨some d, op, ty, pos, aft, gd⟩ (yielded ops a.tmps) = true) (hB : weakB ops T l i = true) (hI : wrote T l = true ∨ I w)
    (h : ∀ w, (execOp a.eval ⟨some d, op, ty, pos, aft, gd⟩).run P w = .ok (.value v) w) (hd : Nat.ble (d + 1) n = true)
    (k : ∀ a, Fr a n ((d, v) :: L) → wpG P ops (PQ N E R) T I f (l.setIfInBounds i true) a w) : wpG P ops (PQ N E R) T I (f + 1) l a w := by
  simp only [weakB, Bool.and_eq_true, Bool.not_eq_true'] at hB
  obtain ⟨⟨⟨h1, h2⟩, h3⟩, h4⟩ := hB
  exact g_weak (v := v) hi (Region.noSelect_spec h1) (fun c a w h => h) h4 f l a w hI (Region.free_spec hi h2) (by simpa using h3) (.inl ⟨hw, fun w _ => h w⟩) (k _ (hA.put hd v))
theorem g_skip (hA : Fr a n L) (hi : ops[i]? = some ⟨some d, op, ty, pos, aft, gd⟩) (hw : Region.wanted ⟨some d, op, ty, pos, aft, gd⟩ (yielded ops a.tmps) = false) (hB : weakB ops T l i = true) (hI : wrote T l = true ∨ I w)
    (hd : Nat.ble (d + 1) n = true) (k : ∀ a, Fr a n ((d, undef) :: L) → wpG P ops (PQ N E R) T I f (l.setIfInBounds i true) a w) : wpG P ops (PQ N E R) T I (f + 1) l a w := by
  simp only [weakB, Bool.and_eq_true, Bool.not_eq_true'] at hB
  obtain ⟨⟨⟨h1, h2⟩, h3⟩, h4⟩ := hB
  exact g_weak (v := undef) hi (Region.noSelect_spec h1) (fun c a w h => h) h4 f l a w hI (Region.free_spec hi h2) (by simpa using h3) (.inr ⟨hw, rfl⟩) (k _ (hA.put hd undef))
theorem wanted_yes (hA : Fr a n L) {j t : Nat} {b β : Bool} (hj : ((ops[j]?).bind (·.dst)) = some t) (ht : lk L t = some (.bool β)) (hb : β = b) :
    Region.wanted ⟨dst, op, ty, pos, aft, some (j, b)⟩ (yielded ops a.tmps) = true := by
  have := yields (ops := ops) hA hj ht
  simp [Region.wanted, this, vb, hb]
theorem wanted_no (hA : Fr a n L) {j t : Nat} {b : Bool} (hj : ((ops[j]?).bind (·.dst)) = some t) (ht : lk L t = some v) (hne : vb v ≠ some b) :
    Region.wanted ⟨dst, op, ty, pos, aft, some (j, b)⟩ (yielded ops a.tmps) = false := by
  have hy := yields (ops := ops) hA hj ht
  simp only [Region.wanted, hy]
  simpa using hne
theorem w_any {id : Nat} {l : List Oper} {W0 : World} {md : List Nat} {μ0 μ : Store} {its : List It} (T : List Nat) (hm : P.follows .mixedOrders = true) (hI : Iv W0 md μ0 μ its w)
    (h : ∀ w, Iv W0 md μ0 μ its w → wpG P l.toArray (PQ N E R) T (fun w => Iv W0 md μ0 μ its w) l.toArray.size (Array.replicate l.toArray.size false) a w) : (Code.region id l.toArray true).wp P (PQ N E R) a w :=
  wp_region_any hm (wpAny_of_G _ _ _ _ (h _ hI.drew1))
theorem g_nil (hr : Region.ready .any ops l = []) (h : N a w) : wpG P ops (PQ N E R) T I 0 l a w := ⟨hr, h⟩
end
end Go.Proofs.Ytlpggofilkfbnaa.K
namespace Go.Proofs.Ytlpggofilkfbnaa.K
open Go
set_option linter.unusedVariables false
set_option linter.unusedSimpArgs false
theorem bN {α β : Type} {K : α → Option β} {r : β} (h : (none : Option α).bind K = some r) : False := by cases h
theorem beqd {α : Type} [DecidableEq α] [BEq α] [LawfulBEq α] (a b : α) : (a == b) = decide (a = b) := by
  by_cases h : a = b
  · simp [h]
  · simp [h]
section
variable {P : Program} {d : Nat} {t e : TypeId} {k k' : IntKind} {i j : Int} {A B : Array Value}
end
section
variable {P : Program} {w : World} {a : Act} {n : Nat} {L : List (Nat × Value)} {dst : Option Nat} {ty t t' : TypeId} {pos : String} {aft : Array Edge} {g : Option (Nat × Bool)} {x y : Operand} {p : Prop} [Decidable p] {X Y : Array Value}
end
theorem seq (s u : ByteArray) : (s.toList == u.toList) = decide (s = u) := by
  rw [ByteArray.toList_eq, ByteArray.toList_eq, beqd]
  congr 1
  apply propext
  constructor
  · intro h; exact ByteArray.ext (Array.toList_inj.1 h)
  · intro h; rw [h]
def bAt (s : ByteArray) (i : Nat) : Int := ((s.data.toList.getD i 0).toNat : Int)
section
variable {P : Program} {w : World} {a : Act} {n : Nat} {L : List (Nat × Value)} {dst : Option Nat} {ty t t' e : TypeId} {pos : String} {aft : Array Edge} {g : Option (Nat × Bool)} {x y : Operand} {s u : ByteArray} {i j : Int} {k k' : IntKind}
theorem r_sidx (hu : P.underlying t = some .string) (hA : Fr a n L) (hx : ov L x = some (.string s)) (hy : ov L y = some (.int k i)) (h0 : 0 ≤ i) (h1 : i < (s.size : Int)) :
    (execOp a.eval ⟨dst, .index t x y, ty, pos, aft, g⟩).run P w = .ok (.value (.int .u8 (bAt s i.toNat))) w := by
  have hlt : i.toNat < s.size := by omega
  have hlt' : i.toNat < s.data.toList.length := by simpa using hlt
  have e1 : s[i.toNat]? = some (s.data.toList[i.toNat]) := by
    rw [getElem?_pos s i.toNat hlt]
    rfl
  have e2 : bAt s i.toNat = ((s.data.toList[i.toNat]).toNat : Int) := by simp only [bAt, List.getD, List.getElem?_eq_getElem hlt', Option.getD_some]
  rw [e2]
  simp [execOp, hA.ev hx, hA.ev hy, Instr.index, asIntOf, run_underlying hu, h0, e1]
end
section
variable {P : Program} {W0 : World} {md : List Nat} {μ0 μ ν : Store} {its : List It} {w : World} {a : Act} {n : Nat} {L : List (Nat × Value)} {dst : Option Nat} {ty t T e : TypeId} {pos : String} {aft : Array Edge} {gd : Option (Nat × Bool)} {x y : Operand} {v : Value} {g o sz m : Nat} {cs : List Value}
theorem Iv.low (hl : μ.le ν) (h : Iv W0 md ν ν its w) : Iv W0 md μ μ its w :=
  ⟨h.os, h.tape, h.out, h.size, h.frame, Store.le.refl _, fun k o e => h.agr k o (hl k o e), fun k o e => .inl e, h.nodup, fun i hi => ⟨(h.own i hi).1, fun g hg => by
    obtain ⟨a, b, c⟩ := (h.own i hi).2 g hg
    refine ⟨a, ?_, c⟩
    cases e : μ g with
    | none => rfl
    | some o => rw [hl g o e] at b; cases b⟩⟩
theorem low_plain {f : FuncId} {vs : Array Value} {u : Value} {Z : Prop} (hl : μ.le ν) (hc : Calls P f vs w fun e w' => ∃ v, e = .returned v ∧ v = u ∧ Z ∧ Iv w [] ν ν [] w') : Calls P f vs w fun e w' => ∃ v, e = .returned v ∧ v = u ∧ Z ∧ Iv w [] μ μ [] w' :=
  hc.mono fun _ _ ⟨v, h1, h2, h3, h4⟩ => ⟨v, h1, h2, h3, h4.low hl⟩
end
end Go.Proofs.Ytlpggofilkfbnaa.K
namespace Go.Proofs.Ytlpggofilkfbnaa.K
open Go
set_option linter.unusedVariables false
def RS {α : Type} (RE : α → List Value → Prop) (sz : Nat) (μ : Store) (x : List α) (c : List Value) : Prop := ∃ v : Value, c = [[v]].flatten ∧ Slc RE sz μ v x
theorem RS.le {α : Type} {RE RE' : α → List Value → Prop} {sz : Nat} {μ ν : Store} (hm : ∀ x c, RE x c → RE' x c) (hl : μ.le ν) {x : List α} {c : List Value} (h : RS RE sz μ x c) : RS RE' sz ν x c := let ⟨v, h0, h1⟩ := h; ⟨v, h0, h1.le hm hl⟩
theorem RS.ones {α : Type} {RE : α → List Value → Prop} {sz : Nat} {μ : Store} : ∀ x c, RS RE sz μ x c → ∀ u ∈ c, u.oneCell' = true := by
  rintro x c ⟨v, rfl, hw⟩ u hu
  obtain ⟨_, hs⟩ := Slc.sv hw
  simp at hu
  subst hu
  exact one_sl hs
section
variable {α : Type} {RE : α → List Value → Prop} {sz : Nat}
theorem Els.set {xs : List α} {cs : List Value} (h : Els RE sz xs cs) {i : Nat} {x : α} (hx : xs[i]? = some x) {y : α} {d : List Value} (hy : RE y d) (hd : d.length = sz) :
    ∃ A c B, cs = A ++ (c ++ B) ∧ A.length = i * sz ∧ c.length = sz ∧ RE x c ∧ Els RE sz (xs.set i y) (A ++ (d ++ B)) := by
  induction h generalizing i with
  | nil => simp at hx
  | @cons z c cs zs h1 h2 h3 ih =>
    cases i with
    | zero =>
      have : z = x := by simpa using hx
      subst this
      exact ⟨[], c, cs, rfl, by simp, h2, h1, Els.cons (c := d) hy hd h3⟩
    | succ i =>
      obtain ⟨A, c', B, e, hA, hc, hr, hE⟩ := ih (by simpa using hx)
      refine ⟨c ++ A, c', B, by rw [e, List.append_assoc], by rw [List.length_append, h2, hA, Nat.add_mul, Nat.one_mul, Nat.add_comm], hc, hr, ?_⟩
      rw [List.set_cons_succ, List.append_assoc]
      exact Els.cons (c := c) h1 h2 hE
end
section
variable {P : Program} {Q : Exit → AW} {ops : Array Oper} {rest : List Oper} {W0 : World} {md : List Nat} {μ0 μ : Store} {its : List It} {w : World} {a : Act} {n : Nat} {L : List (Nat × Value)} {dst : Option Nat} {d : Nat} {ty t T e : TypeId} {pos : String} {aft : Array Edge} {gd : Option (Nat × Bool)} {x y : Operand} {v u : Value} {g o sz m : Nat}
end
end Go.Proofs.Ytlpggofilkfbnaa.K
namespace Go.Proofs.Ytlpggofilkfbnaa.K
open Go
set_option linter.unusedVariables false
section
variable {P : Program} {ops : Array Oper} {N R : AW} {E : List (Nat × AW)} {I I' : World → Prop} {T : List Nat} {l : Array Bool} {f i n : Nat} {L : List (Nat × Value)} {a : Act} {w : World} {v : Value}
end
section
variable {P : Program} {N R : AW} {E : List (Nat × AW)} {a : Act} {w : World}
theorem w_anyS {id : Nat} {l : List Oper} {W0 : World} {md : List Nat} {μ0 μ : Store} {its its2 : List It} (T : List Nat) (hm : P.follows .mixedOrders = true) (hs : ∀ w, Iv W0 md μ0 μ its w → Iv W0 md μ0 μ its2 w) (hI : Iv W0 md μ0 μ its w)
    (h : ∀ w, Iv W0 md μ0 μ its w → wpG P l.toArray (PQ N E R) T (fun w => Iv W0 md μ0 μ its2 w) l.toArray.size (Array.replicate l.toArray.size false) a w) : (Code.region id l.toArray true).wp P (PQ N E R) a w :=
  wp_region_any hm (wpAny_of_G _ _ _ _ (h _ hI.drew1))
end
section
variable {P : Program} {w : World} {a : Act} {n : Nat} {L : List (Nat × Value)} {dst : Option Nat} {ty t e : TypeId} {pos : String} {aft : Array Edge} {g : Option (Nat × Bool)} {x y : Operand} {i : Int} {k k' ki : IntKind} {xs : List Int} {mm : Nat}
end
end Go.Proofs.Ytlpggofilkfbnaa.K
namespace Go.Proofs.Ytlpggofilkfbnaa.K
open Go Go.Proofs
set_option linter.unusedVariables false
set_option linter.unusedSimpArgs false
section
variable {K V : Type}
def mput [DecidableEq K] : List (K × V) → K → V → List (K × V)
  | [], k, v => [(k, v)]
  | p :: l, k, v => if p.1 = k then (k, v) :: l else p :: mput l k v
def MW (KW : K → Prop) (VW : V → Prop) (l : List (K × V)) : Prop := (∀ p ∈ l, KW p.1 ∧ VW p.2) ∧ (l.map (·.1)).Nodup
variable {KW : K → Prop} {VW : V → Prop} {l : List (K × V)} {k : K} {v : V}
variable [DecidableEq K]
theorem mput_keys (l : List (K × V)) (k : K) (v : V) : ∀ x ∈ (mput l k v).map (·.1), x = k ∨ x ∈ l.map (·.1) := by
  induction l with
  | nil => intro x hx; simp [mput] at hx; exact .inl hx
  | cons p l ih =>
    intro x hx
    unfold mput at hx
    split at hx
    · rename_i e
      simp only [List.map_cons, List.mem_cons] at hx ⊢
      rcases hx with rfl | hx
      · exact .inl rfl
      · exact .inr (.inr hx)
    · simp only [List.map_cons, List.mem_cons] at hx ⊢
      rcases hx with rfl | hx
      · exact .inr (.inl rfl)
      · rcases ih x hx with h | h
        · exact .inl h
        · exact .inr (.inr h)
theorem MW.put (h : MW KW VW l) (hk : KW k) (hv : VW v) : MW KW VW (mput l k v) := by
  obtain ⟨h1, h2⟩ := h
  induction l with
  | nil => exact ⟨by simp [mput, hk, hv], by simp [mput]⟩
  | cons p l ih =>
    rw [List.map_cons, List.nodup_cons] at h2
    have ih := ih (fun q hq => h1 q (by simp [hq])) h2.2
    unfold mput
    split
    · rename_i e
      subst e
      refine ⟨fun q hq => ?_, ?_⟩
      · rcases List.mem_cons.1 hq with rfl | hq
        · exact ⟨hk, hv⟩
        · exact h1 q (by simp [hq])
      · rw [List.map_cons, List.nodup_cons]; exact h2
    · rename_i e
      refine ⟨fun q hq => ?_, ?_⟩
      · rcases List.mem_cons.1 hq with rfl | hq
        · exact h1 q (by simp)
        · exact ih.1 q hq
      · rw [List.map_cons, List.nodup_cons]
        refine ⟨fun hm => ?_, ih.2⟩
        rcases mput_keys l k v _ hm with h | h
        · exact e h
        · exact h2.1 h
end
section
variable {K V : Type} {KW : K → Prop} {VW : V → Prop} {kv : K → Value} {vv : V → Value} {P : Program} {w : World} {kt et t : TypeId} {arr : Array MapEntry} {l : List (K × V)} {k : K}
end
section
variable {K V : Type} {KW : K → Prop} {VW : V → Prop} {kv : K → Value} {vv : V → Value} {P : Program} {N R : AW} {E : List (Nat × AW)} {Q : Exit → AW} {ops : Array Oper} {rest : List Oper} {W0 : World} {md : List Nat} {μ0 μ : Store} {its : List It} {w : World} {a : Act} {n : Nat} {L : List (Nat × Value)} {dst : Option Nat} {ty t kt et : TypeId} {pos : String} {aft : Array Edge} {gd : Option (Nat × Bool)} {x y m : Operand} {g : Nat} {l : List (K × V)} {k : K} {z0 : V} {v : V} {d : Nat}
variable [DecidableEq K]
end
section
variable {P : Program} {t e kt : TypeId} {q : IntKind} {n : Nat} {xs : List Int} {x : Int}
end
end Go.Proofs.Ytlpggofilkfbnaa.K
namespace Go.Proofs.Ytlpggofilkfbnaa.T
open Go Go.Proofs Go.Proofs.Ytlpggofilkfbnaa.K
set_option linter.unusedVariables false
set_option linter.unusedSimpArgs false
theorem mo : Try.prog.follows .mixedOrders = true := by kernel_rfl
theorem sz24 : (Try.prog.info? 24).map (·.size) = some 1 := by kernel_rfl
theorem cf5 : CalleeF Try.prog 5 := ⟨Try.f5, Try.func5, by decide, rfl⟩
theorem cf6 : CalleeF Try.prog 6 := ⟨Try.f6, Try.func6, by decide, rfl⟩
theorem cf8 : CalleeF Try.prog 8 := ⟨Try.f8, Try.func8, by decide, rfl⟩
theorem cf9 : CalleeF Try.prog 9 := ⟨Try.f9, Try.func9, by decide, rfl⟩
theorem cf10 : CalleeF Try.prog 10 := ⟨Try.f10, Try.func10, by decide, rfl⟩
theorem cf11 : CalleeF Try.prog 11 := ⟨Try.f11, Try.func11, by decide, rfl⟩
theorem cf12 : CalleeF Try.prog 12 := ⟨Try.f12, Try.func12, by decide, rfl⟩
theorem cf13 : CalleeF Try.prog 13 := ⟨Try.f13, Try.func13, by decide, rfl⟩
theorem cf19 : CalleeF Try.prog 19 := ⟨Try.f19, Try.func19, by decide, rfl⟩
theorem cf23 : CalleeF Try.prog 23 := ⟨Try.f23, Try.func23, by decide, rfl⟩
theorem cf29 : CalleeF Try.prog 29 := ⟨Try.f29, Try.func29, by decide, rfl⟩
theorem zr24 : ∃ z, (Try.prog.info? 24).map (·.zero) = some (some z) ∧ z.cells = ([[.int .u32 0]] : List (List Value)).flatten.toArray := ⟨.int .u32 0, by kernel_rfl, by kernel_rfl⟩
theorem te24 : TyE Try.prog 24 1 4 := TyE.of (by kernel_rfl) (by kernel_rfl) ⟨.int .u32 0, by kernel_rfl, by kernel_rfl⟩
end Go.Proofs.Ytlpggofilkfbnaa.T
namespace Go.Proofs.Ytlpggofilkfbnaa.T
open Go Go.Proofs Go.Proofs.Ytlpggofilkfbnaa.K
set_option linter.unusedVariables false
set_option linter.unusedSimpArgs false
noncomputable def math_bits_Len64.f (x0 : Int) : Option Int := (((if 4294967296 ≤ x0 then some (sR .u64 x0 32, 32) else some (x0, 0))).bind fun (c1, c2) => (((if 65536 ≤ c1 then some (sR .u64 c1 16, IntKind.i64.wrap (c2 + 16)) else some (c1, c2))).bind fun (c3, c4) => (((if 256 ≤ c3 then some (sR .u64 c3 8, IntKind.i64.wrap (c4 + 8)) else some (c3, c4))).bind fun (c5, c6) => (if 0 ≤ IntKind.u8.wrap c5 ∧ IntKind.u8.wrap c5 < ((⟨#[0, 1, 2, 2, 3, 3, 3, 3, 4, 4, 4, 4, 4, 4, 4, 4, 5, 5, 5, 5, 5, 5, 5, 5, 5, 5, 5, 5, 5, 5, 5, 5, 6, 6, 6, 6, 6, 6, 6, 6, 6, 6, 6, 6, 6, 6, 6, 6, 6, 6, 6, 6, 6, 6, 6, 6, 6, 6, 6, 6, 6, 6, 6, 6, 7, 7, 7, 7, 7, 7, 7, 7, 7, 7, 7, 7, 7, 7, 7, 7, 7, 7, 7, 7, 7, 7, 7, 7, 7, 7, 7, 7, 7, 7, 7, 7, 7, 7, 7, 7, 7, 7, 7, 7, 7, 7, 7, 7, 7, 7, 7, 7, 7, 7, 7, 7, 7, 7, 7, 7, 7, 7, 7, 7, 7, 7, 7, 7, 8, 8, 8, 8, 8, 8, 8, 8, 8, 8, 8, 8, 8, 8, 8, 8, 8, 8, 8, 8, 8, 8, 8, 8, 8, 8, 8, 8, 8, 8, 8, 8, 8, 8, 8, 8, 8, 8, 8, 8, 8, 8, 8, 8, 8, 8, 8, 8, 8, 8, 8, 8, 8, 8, 8, 8, 8, 8, 8, 8, 8, 8, 8, 8, 8, 8, 8, 8, 8, 8, 8, 8, 8, 8, 8, 8, 8, 8, 8, 8, 8, 8, 8, 8, 8, 8, 8, 8, 8, 8, 8, 8, 8, 8, 8, 8, 8, 8, 8, 8, 8, 8, 8, 8, 8, 8, 8, 8, 8, 8, 8, 8, 8, 8, 8, 8, 8, 8, 8, 8, 8, 8, 8, 8, 8, 8, 8, 8]⟩ : ByteArray).size : Int) then some (IntKind.i64.wrap (c6 + (IntKind.i64.wrap (bAt (⟨#[0, 1, 2, 2, 3, 3, 3, 3, 4, 4, 4, 4, 4, 4, 4, 4, 5, 5, 5, 5, 5, 5, 5, 5, 5, 5, 5, 5, 5, 5, 5, 5, 6, 6, 6, 6, 6, 6, 6, 6, 6, 6, 6, 6, 6, 6, 6, 6, 6, 6, 6, 6, 6, 6, 6, 6, 6, 6, 6, 6, 6, 6, 6, 6, 7, 7, 7, 7, 7, 7, 7, 7, 7, 7, 7, 7, 7, 7, 7, 7, 7, 7, 7, 7, 7, 7, 7, 7, 7, 7, 7, 7, 7, 7, 7, 7, 7, 7, 7, 7, 7, 7, 7, 7, 7, 7, 7, 7, 7, 7, 7, 7, 7, 7, 7, 7, 7, 7, 7, 7, 7, 7, 7, 7, 7, 7, 7, 7, 8, 8, 8, 8, 8, 8, 8, 8, 8, 8, 8, 8, 8, 8, 8, 8, 8, 8, 8, 8, 8, 8, 8, 8, 8, 8, 8, 8, 8, 8, 8, 8, 8, 8, 8, 8, 8, 8, 8, 8, 8, 8, 8, 8, 8, 8, 8, 8, 8, 8, 8, 8, 8, 8, 8, 8, 8, 8, 8, 8, 8, 8, 8, 8, 8, 8, 8, 8, 8, 8, 8, 8, 8, 8, 8, 8, 8, 8, 8, 8, 8, 8, 8, 8, 8, 8, 8, 8, 8, 8, 8, 8, 8, 8, 8, 8, 8, 8, 8, 8, 8, 8, 8, 8, 8, 8, 8, 8, 8, 8, 8, 8, 8, 8, 8, 8, 8, 8, 8, 8, 8, 8, 8, 8, 8, 8, 8, 8]⟩ : ByteArray) ((IntKind.u8.wrap c5).toNat))))) else none))))
noncomputable def math_bits_Len.f (x0 : Int) : Option Int := ((math_bits_Len64.f x0).bind fun r1 => some r1)
noncomputable def sargassoref_Halves.s0 (x0 : List Int) : ((List Int) × Int) → Option (((List Int) × Int) ⊕ (List Int)) := fun (s1, s2) => (if s2 < (x0.length : Int) then (if 0 ≤ s2 ∧ s2 < (x0.length : Int) then (if s1.length + 1 ≤ 35184372088832 then some (.inl (s1 ++ ([(x0.getD s2.toNat 0)] : List Int), IntKind.i64.wrap (s2 + 1))) else none) else none) else some (.inr s1))
noncomputable def sargassoref_Halves.f (x0 : List Int) : Option (List Int) := (if 0 ≤ (0 : Int) ∧ (0 : Int) ≤ (x0.length : Int) ∧ (x0.length : Int) ≤ 35184372088832 then ((loopO (sargassoref_Halves.s0 x0) ((List.replicate ((0 : Int).toNat) 0 : List Int), 0)).bind fun c1 => some c1) else none)
end Go.Proofs.Ytlpggofilkfbnaa.T
namespace Go.Proofs.Ytlpggofilkfbnaa.T
open Go Go.Proofs Go.Proofs.Ytlpggofilkfbnaa.K
set_option linter.unusedVariables false
set_option linter.unusedSimpArgs false
set_option maxRecDepth 20000 in
theorem math_bits_Len64.c (μ : Store) (w0 : World) (hμ : Agr μ w0) (x0 : Int) (hx0 : InR .u64 x0) (r : Int) (H : math_bits_Len64.f x0 = some r) :
    Calls Try.prog 23 [.int .u64 x0].toArray w0 (fun e w' => ∃ v, e = .returned v ∧ v = .int .i64 r ∧ InR .i64 r ∧ Iv w0 [] μ μ [] w') := by
  refine enter Try.func23 rfl Try.ntmps23 rfl fun a hA => ?_
  have hI := Iv.start hμ
  have H := bI H
  refine w_seq fun _ hN1 => ?_
  refine w_reg ?_
  refine stp hA (r_as hA rfl) rfl fun a hA => ?_
  refine o_nil ?_
  refine hN1 _ _ ?_
  obtain ⟨⟨c1, c2⟩, hz1, Hk1⟩ := bB H
  refine w_cut (fun a w => InR .u64 c1 ∧ InR .i64 c2 ∧ Fr a 25 [(0, .int .u64 c1), (2, .int .i64 c2)] ∧ Iv w0 [] μ μ [] w) ?_ ?_
  · have H := bI hz1
    refine w_seq fun _ hN2 => ?_
    refine w_reg ?_
    refine stp hA (r_mv hA rfl) rfl fun a hA => 
      stp hA (r_geq hA rfl rfl) rfl fun a hA => ?_
    refine o_nil ?_
    refine hN2 _ _ ?_
    refine w_cond hA rfl (fun hc1 => ?_) (fun hc1 => ?_)
    · have hc10 := hc1; have hc1 := of_decide_eq_true hc1; have H := bT H hc1
      refine w_seq fun _ hN3 => ?_
      refine w_reg ?_
      refine stp hA (r_mv hA rfl) rfl fun a hA => 
        stp hA (r_shr hA rfl rfl (by decide)) rfl fun a hA => 
        stp hA (r_as hA rfl) rfl fun a hA => ?_
      refine o_nil ?_
      refine hN3 _ _ ?_
      refine w_reg ?_
      refine stp hA (r_as hA rfl) rfl fun a hA => ?_
      refine o_nil ?_
      cases Option.some.inj (bS H)
      exact ⟨(sR_in rfl hx0 _), (in_lit .i64 32 rfl), hA.sub ⟨rfl, rfl, trivial⟩, hI⟩
    · have hc10 := hc1; have hc1 := of_decide_eq_false hc1; have H := bF H hc1
      refine w_skip ?_
      cases Option.some.inj (bS H)
      exact ⟨hx0, (in_lit .i64 0 rfl), hA.sub ⟨rfl, rfl, trivial⟩, hI⟩
  · rintro a w ⟨wc1, wc2, hA, hI⟩
    have H := Hk1
    obtain ⟨⟨c3, c4⟩, hz2, Hk2⟩ := bB H
    refine w_cut (fun a w => InR .u64 c3 ∧ InR .i64 c4 ∧ Fr a 25 [(0, .int .u64 c3), (2, .int .i64 c4)] ∧ Iv w0 [] μ μ [] w) ?_ ?_
    · have H := bI hz2
      refine w_seq fun _ hN4 => ?_
      refine w_reg ?_
      refine stp hA (r_mv hA rfl) rfl fun a hA => 
        stp hA (r_geq hA rfl rfl) rfl fun a hA => ?_
      refine o_nil ?_
      refine hN4 _ _ ?_
      refine w_cond hA rfl (fun hc2 => ?_) (fun hc2 => ?_)
      · have hc20 := hc2; have hc2 := of_decide_eq_true hc2; have H := bT H hc2
        refine w_seq fun _ hN5 => ?_
        refine w_reg ?_
        refine stp hA (r_mv hA rfl) rfl fun a hA => 
          stp hA (r_shr hA rfl rfl (by decide)) rfl fun a hA => 
          stp hA (r_as hA rfl) rfl fun a hA => ?_
        refine o_nil ?_
        refine hN5 _ _ ?_
        refine w_reg ?_
        refine stp hA (r_mv hA rfl) rfl fun a hA => 
          stp hA (r_add hA rfl rfl) rfl fun a hA => 
          stp hA (r_as hA rfl) rfl fun a hA => ?_
        refine o_nil ?_
        cases Option.some.inj (bS H)
        exact ⟨(sR_in rfl wc1 _), (wrap_in _ _), hA.sub ⟨rfl, rfl, trivial⟩, hI⟩
      · have hc20 := hc2; have hc2 := of_decide_eq_false hc2; have H := bF H hc2
        refine w_skip ?_
        cases Option.some.inj (bS H)
        exact ⟨wc1, wc2, hA.sub ⟨rfl, rfl, trivial⟩, hI⟩
    · rintro a w ⟨wc3, wc4, hA, hI⟩
      have H := Hk2
      obtain ⟨⟨c5, c6⟩, hz3, Hk3⟩ := bB H
      refine w_cut (fun a w => InR .u64 c5 ∧ InR .i64 c6 ∧ Fr a 25 [(0, .int .u64 c5), (2, .int .i64 c6)] ∧ Iv w0 [] μ μ [] w) ?_ ?_
      · have H := bI hz3
        refine w_seq fun _ hN6 => ?_
        refine w_reg ?_
        refine stp hA (r_mv hA rfl) rfl fun a hA => 
          stp hA (r_geq hA rfl rfl) rfl fun a hA => ?_
        refine o_nil ?_
        refine hN6 _ _ ?_
        refine w_cond hA rfl (fun hc3 => ?_) (fun hc3 => ?_)
        · have hc30 := hc3; have hc3 := of_decide_eq_true hc3; have H := bT H hc3
          refine w_seq fun _ hN7 => ?_
          refine w_reg ?_
          refine stp hA (r_mv hA rfl) rfl fun a hA => 
            stp hA (r_shr hA rfl rfl (by decide)) rfl fun a hA => 
            stp hA (r_as hA rfl) rfl fun a hA => ?_
          refine o_nil ?_
          refine hN7 _ _ ?_
          refine w_reg ?_
          refine stp hA (r_mv hA rfl) rfl fun a hA => 
            stp hA (r_add hA rfl rfl) rfl fun a hA => 
            stp hA (r_as hA rfl) rfl fun a hA => ?_
          refine o_nil ?_
          cases Option.some.inj (bS H)
          exact ⟨(sR_in rfl wc3 _), (wrap_in _ _), hA.sub ⟨rfl, rfl, trivial⟩, hI⟩
        · have hc30 := hc3; have hc3 := of_decide_eq_false hc3; have H := bF H hc3
          refine w_skip ?_
          cases Option.some.inj (bS H)
          exact ⟨wc3, wc4, hA.sub ⟨rfl, rfl, trivial⟩, hI⟩
      · rintro a w ⟨wc5, wc6, hA, hI⟩
        have H := Hk3
        refine w_seq fun _ hN8 => ?_
        refine w_reg ?_
        refine stp hA (r_mv hA rfl) rfl fun a hA => 
          stp hA (r_mv hA rfl) rfl fun a hA => 
          stp hA (r_conv Try.underlying45 Try.underlying5 hA rfl) rfl fun a hA => ?_
        obtain ⟨hb1, H⟩ := bG H
        refine stp hA (r_sidx Try.underlying9 hA rfl rfl hb1.1 hb1.2) rfl fun a hA => 
          stp hA (r_conv Try.underlying5 Try.underlying3 hA rfl) rfl fun a hA => 
          stp hA (r_add hA rfl rfl) rfl fun a hA => 
          stp hA (r_as hA rfl) rfl fun a hA => ?_
        refine o_nil ?_
        refine hN8 _ _ ?_
        refine w_ret ?_
        obtain rfl := Option.some.inj (bS H)
        exact ret1 hA Try.results23 rfl ⟨_, rfl, rfl, (wrap_in _ _), hI.forget0⟩
set_option maxRecDepth 20000 in
theorem math_bits_Len.c (μ : Store) (w0 : World) (hμ : Agr μ w0) (x0 : Int) (hx0 : InR .u64 x0) (r : Int) (H : math_bits_Len.f x0 = some r) :
    Calls Try.prog 12 [.int .u64 x0].toArray w0 (fun e w' => ∃ v, e = .returned v ∧ v = .int .i64 r ∧ InR .i64 r ∧ Iv w0 [] μ μ [] w') := by
  refine enter Try.func12 rfl Try.ntmps12 rfl fun a hA => ?_
  have hI := Iv.start hμ
  have H := bI H
  refine w_seq fun _ hN1 => ?_
  refine w_reg ?_
  refine stp hA (r_as hA rfl) rfl fun a hA => ?_
  refine o_nil ?_
  refine hN1 _ _ ?_
  refine w_seq fun _ hN2 => ?_
  refine w_cF hA rfl rfl ?_
  refine w_skip ?_
  refine hN2 _ _ ?_
  refine w_seq fun _ hN3 => ?_
  refine w_reg ?_
  refine stp hA (r_mv hA rfl) rfl fun a hA => ?_
  obtain ⟨r1, hr1, H⟩ := bB H
  refine o_callp (u := .int .i64 r1) cf23 hA rfl hI (math_bits_Len64.c μ _ hI.agr x0 hx0 r1 hr1) rfl fun a w hz1 hI hA => 
    stp hA (r_as hA rfl) rfl fun a hA => ?_
  refine o_nil ?_
  refine hN3 _ _ ?_
  refine w_ret ?_
  obtain rfl := Option.some.inj (bS H)
  exact ret1 hA Try.results12 rfl ⟨_, rfl, rfl, hz1, hI.forget0⟩
set_option maxRecDepth 20000 in
theorem sargassoref_Halves.c (μ : Store) (w0 : World) (hμ : Agr μ w0) (x0 : List Int) (u0 : Value) (hx0 : Slc (RI .u32) 1 μ u0 x0) (r : List Int) (H : sargassoref_Halves.f x0 = some r) :
    Calls Try.prog 8 [u0].toArray w0 (fun e w' => ∃ v, e = .returned v ∧ ∃ (v0 : Value) (c0 : List Value), v = v0 ∧ Els (RI .u32) 1 r c0 ∧ Iv w0 [] μ μ [row 24 1 v0 r.length c0] w') := by
  refine enter Try.func8 rfl Try.ntmps8 rfl fun a hA => ?_
  have hI := Iv.start hμ
  have H := bI H
  refine w_seq fun _ hN1 => ?_
  refine w_reg ?_
  refine stp hA (r_as hA rfl) rfl fun a hA => ?_
  refine o_nil ?_
  refine hN1 _ _ ?_
  refine w_seq fun _ hN2 => ?_
  refine w_reg ?_
  refine stp hA (r_mv hA rfl) rfl fun a hA => ?_
  obtain ⟨_, hsl1⟩ := Slc.sv hx0
  refine stp hA (r_slen Try.underlying22 hsl1 hA rfl) rfl fun a hA => ?_
  obtain ⟨hb1, H⟩ := bG H
  refine o_make (RE := (RI .u32)) (c0 := [[.int .u32 0]].flatten) (z0 := 0) ⟨rfl, (in_lit .u32 0 rfl)⟩ te24 rfl zr24 Try.underlying22 hI hA rfl rfl (by have hq := hb1; simp only [maxLen]; omega) rfl fun g1 cs1 a w hE1 hA hI => 
    stp hA (r_as hA rfl) rfl fun a hA => ?_
  refine o_nil ?_
  refine hN2 _ _ ?_
  obtain ⟨c1, hz1, Hk1⟩ := bB H
  refine w_cut (fun a w => ∃ (vvc1 : Value) (ccc1 : List Value), Els (RI .u32) 1 c1 ccc1 ∧ Fr a 22 [(0, u0), (2, (.slice none 0 0)), (3, vvc1)] ∧ Iv w0 [] μ μ [row 24 1 vvc1 c1.length ccc1] w) ?_ ?_
  · have H := bI hz1
    refine w_seq fun _ hN3 => ?_
    refine w_reg ?_
    refine stp hA (r_as hA rfl) rfl fun a hA => ?_
    refine o_nil ?_
    refine hN3 _ _ ?_
    refine w_block ?_
    obtain ⟨z1, hz2, Hk2⟩ := bind_some H
    obtain ⟨n1, hn1⟩ := loopO_some hz2
    refine w_loop (fun n a w => ∃ (s1 : List Int) (s2 : Int) (vvs1 : Value) (ccs1 : List Value), loopN (sargassoref_Halves.s0 x0) n (s1, s2) = some z1 ∧ Els (RI .u32) 1 s1 ccs1 ∧ InR .i64 s2 ∧ Fr a 22 [(0, u0), (2, (.slice none 0 0)), (3, vvs1), (4, .int .i64 s2)] ∧ Iv w0 [] μ μ [row 24 1 vvs1 s1.length ccs1] w) n1 ⟨(List.replicate ((0 : Int).toNat) 0 : List Int), 0, (.slice (some ⟨g1, 0, none⟩) ((0 : Int).toNat) (((x0.length : Int)).toNat)), cs1, hn1, hE1, (in_lit .i64 0 rfl), hA.sub ⟨rfl, rfl, rfl, rfl, trivial⟩, hI⟩ ?_
    clear hA hI
    rintro n a w ⟨s1, s2, vvs1, ccs1, hn1, ws1, ws2, hA, hI⟩
    obtain ⟨m1, rfl, H⟩ := loopN_bind hn1
    clear hn1
    refine w_seq fun _ hN4 => ?_
    refine w_seq fun _ hN5 => ?_
    refine w_reg ?_
    refine stp hA (r_mv hA rfl) rfl fun a hA => 
      stp hA (r_mv hA rfl) rfl fun a hA => ?_
    obtain ⟨_, hsl2⟩ := Slc.sv hx0
    refine stp hA (r_slen Try.underlying22 hsl2 hA rfl) rfl fun a hA => 
      stp hA (r_lss hA rfl rfl) rfl fun a hA => ?_
    refine o_nil ?_
    refine hN5 _ _ ?_
    refine w_cond hA rfl (fun hc1 => ?_) (fun hc1 => ?_)
    · have hc10 := hc1; have hc1 := of_decide_eq_true hc1; have H := bT H hc1
      refine w_skip ?_
      refine hN4 _ _ ?_
      refine w_seq fun _ hN6 => ?_
      refine w_block ?_
      refine w_reg ?_
      refine stp hA (r_mv hA rfl) rfl fun a hA => 
        stp hA (r_mv hA rfl) rfl fun a hA => 
        stp hA (r_mv hA rfl) rfl fun a hA => ?_
      obtain ⟨hb2, H⟩ := bG H
      obtain ⟨_, he1, _, hat1⟩ := Slc.elem1 hx0 (getD_some 0 hb2.1 hb2.2)
      obtain ⟨rfl, hw1⟩ := he1
      obtain ⟨_, hsl3⟩ := Slc.sv hx0
      refine stp hA (r_six1 Try.underlying22 sz24 hsl3 hA rfl rfl hb2.1 hb2.2) rfl fun a hA => 
        stp hA (r_ldm1 [] [] Try.underlying24 rfl hI.agr hat1 hA rfl rfl) rfl fun a hA => ?_
      have hE2 : Els (RI .u32) 1 ([(x0.getD s2.toNat 0)] : List Int) ([[.int .u32 (x0.getD s2.toNat 0)]].flatten ++ ([])) := (Els.cons (c := [[.int .u32 (x0.getD s2.toNat 0)]].flatten) ⟨rfl, hw1⟩ rfl Els.nil)
      refine o_bsl ([[.int .u32 (x0.getD s2.toNat 0)]].flatten ++ ([])) te24 zr24 Try.underlying22 hI hA rfl rfl rfl rfl (by kernel_rfl) rfl fun g2 a w hA hI => ?_
      generalize hcs : ([[.int .u32 (x0.getD s2.toNat 0)]].flatten ++ ([]) : List Value) = cs2 at hE2 hI
      clear hcs
      obtain ⟨hb3, H⟩ := bG H
      have hE4 := ws1.app hE2
      refine o_appL (xs := (s1 : List Int)) (ys := (([(x0.getD s2.toNat 0)] : List Int) : List Int)) (j := 1) te24 Try.underlying22 hI rfl hA rfl rfl (src_row hI (j := 0) rfl) hE2.len (hE2.ones (one_RI _)) (by first | decide | (have hq := hb3; (try simp only [List.length_cons, List.length_nil] at hq); (try simp only [List.length_cons, List.length_nil]); (try simp only [maxLen]); omega)) (by first | decide | (have hq := hb3; (try simp only [List.length_cons, List.length_nil] at hq); (try simp only [List.length_cons, List.length_nil]); (try simp only [maxLen]); omega)) rfl fun v1 a w hA hI => 
        stp hA (r_as hA rfl) rfl fun a hA => ?_
      refine o_nil ?_
      refine hN6 _ _ ?_
      refine w_reg ?_
      refine stp hA (r_mv hA rfl) rfl fun a hA => 
        stp hA (r_add hA rfl rfl) rfl fun a hA => 
        stp hA (r_as hA rfl) rfl fun a hA => ?_
      refine o_nil ?_
      exact ⟨m1, Nat.lt_succ_self _, s1 ++ ([(x0.getD s2.toNat 0)] : List Int), IntKind.i64.wrap (s2 + 1), v1, ccs1 ++ cs2, H, hE4, (wrap_in _ _), hA.sub ⟨rfl, rfl, rfl, rfl, trivial⟩, (hI.sel [1] (by decide) rfl)⟩
    · have hc10 := hc1; have hc1 := of_decide_eq_false hc1; have H := bF H hc1
      refine w_exit rfl ?_
      have H : some s1 = some z1 := H
      obtain rfl := Option.some.inj H
      have H := Hk2
      cases Option.some.inj (bS H)
      exact ⟨vvs1, ccs1, ws1, hA.sub ⟨rfl, rfl, rfl, trivial⟩, hI⟩
  · rintro a w ⟨vvc1, ccc1, wc1, hA, hI⟩
    have H := Hk1
    refine w_seq fun _ hN7 => ?_
    refine w_reg ?_
    refine stp hA (r_mv hA rfl) rfl fun a hA => 
      stp hA (r_as hA rfl) rfl fun a hA => ?_
    refine o_nil ?_
    refine hN7 _ _ ?_
    refine w_ret ?_
    obtain rfl := Option.some.inj (bS H)
    exact ret1 hA Try.results8 rfl ⟨_, rfl, vvc1, ccc1, rfl, wc1, (hI.less (Store.le.refl _) hI.le)⟩
end Go.Proofs.Ytlpggofilkfbnaa.T
namespace Go.Proofs.Ytlpggofilkfbnaa.T
open Go Go.Proofs Go.Proofs.Ytlpggofilkfbnaa.K
set_option linter.unusedVariables false
set_option linter.unusedSimpArgs false
def slices_Clone_uint32_uint32.f (x0 : List Int) : Option (List Int) := if x0.length ≤ 35184372088832 then some x0 else none
noncomputable def cmp_isNaN_uint32.f (x0 : Int) : Option Bool := some (decide (x0 ≠ x0))
noncomputable def cmp_Less_uint32.f (x0 : Int) (x1 : Int) : Option Bool := ((((cmp_isNaN_uint32.f x0).bind fun r1 => (if r1 = true then ((cmp_isNaN_uint32.f x1).bind fun r2 => (if r2 = true then some (decide (x0 < x1)) else some true)) else some (decide (x0 < x1))))).bind fun c1 => some c1)
noncomputable def slices_insertionSortOrdered_uint32.s1 (x1 : Int) : (Int × (List Int)) → Option ((Int × (List Int)) ⊕ (List Int)) := fun (s3, s4) => (((if x1 < s3 then (if 0 ≤ s3 ∧ s3 < (s4.length : Int) then (if 0 ≤ IntKind.i64.wrap (s3 - 1) ∧ IntKind.i64.wrap (s3 - 1) < (s4.length : Int) then ((cmp_Less_uint32.f (s4.getD s3.toNat 0) (s4.getD (IntKind.i64.wrap (s3 - 1)).toNat 0)).bind fun r1 => some r1) else none) else none) else some false)).bind fun c2 => (if c2 = true then (if 0 ≤ IntKind.i64.wrap (s3 - 1) ∧ IntKind.i64.wrap (s3 - 1) < (s4.length : Int) then (if 0 ≤ s3 ∧ s3 < (s4.length : Int) then some (.inl (IntKind.i64.wrap (s3 - 1), (s4.set s3.toNat (s4.getD (IntKind.i64.wrap (s3 - 1)).toNat 0)).set (IntKind.i64.wrap (s3 - 1)).toNat (s4.getD s3.toNat 0))) else none) else none) else some (.inr s4)))
noncomputable def slices_insertionSortOrdered_uint32.s0 (x1 : Int) (x2 : Int) : (Int × (List Int)) → Option ((Int × (List Int)) ⊕ (List Int)) := fun (s1, s2) => (if s1 < x2 then ((loopO (slices_insertionSortOrdered_uint32.s1 x1) (s1, s2)).bind fun c1 => some (.inl (IntKind.i64.wrap (s1 + 1), c1))) else some (.inr s2))
noncomputable def slices_insertionSortOrdered_uint32.f (x0 : List Int) (x1 : Int) (x2 : Int) : Option (List Int) := loopO (slices_insertionSortOrdered_uint32.s0 x1 x2) (IntKind.i64.wrap (x1 + 1), x0)
noncomputable def slices_pdqsortOrdered_uint32.s0 (x0 : List Int) (x1 : Int) (x2 : Int) (x3 : Int) : Unit → Option (Unit ⊕ (List Int)) := fun _ => (if (IntKind.i64.wrap (x2 - x1)) ≤ 12 then ((slices_insertionSortOrdered_uint32.f x0 x1 x2).bind fun r1 => some (.inr r1)) else (if x3 = 0 then none else none))
noncomputable def slices_pdqsortOrdered_uint32.f (x0 : List Int) (x1 : Int) (x2 : Int) (x3 : Int) : Option (List Int) := loopO (slices_pdqsortOrdered_uint32.s0 x0 x1 x2 x3) ()
noncomputable def slices_Sort_uint32_uint32.f (x0 : List Int) : Option (List Int) := ((math_bits_Len.f (IntKind.u64.wrap (x0.length : Int))).bind fun r1 => ((slices_pdqsortOrdered_uint32.f x0 0 (x0.length : Int) r1).bind fun r2 => some r2))
noncomputable def past_Median.f (x0 : List Int) : Option Int := (if (x0.length : Int) = 0 then some 0 else (if 0 ≤ (iMax (IntKind.i64.wrap ((x0.length : Int) - 11)) 0) ∧ (iMax (IntKind.i64.wrap ((x0.length : Int) - 11)) 0) ≤ (x0.length : Int) then ((slices_Clone_uint32_uint32.f ((x0.take ((x0.length : Int)).toNat).drop (iMax (IntKind.i64.wrap ((x0.length : Int) - 11)) 0).toNat)).bind fun r1 => ((slices_Sort_uint32_uint32.f r1).bind fun r2 => (if 0 ≤ IntKind.i64.wrap (Int.tdiv (r2.length : Int) 2) ∧ IntKind.i64.wrap (Int.tdiv (r2.length : Int) 2) < (r2.length : Int) then some (r2.getD (IntKind.i64.wrap (Int.tdiv (r2.length : Int) 2)).toNat 0) else none))) else none))
end Go.Proofs.Ytlpggofilkfbnaa.T
namespace Go.Proofs.Ytlpggofilkfbnaa.K
open Go
section
variable {P : Program} {w : World} {a : Act} {n : Nat} {L : List (Nat × Value)} {dst : Option Nat} {ty t e : TypeId} {pos : String} {aft : Array Edge} {gd : Option (Nat × Bool)} {x y : Operand} {v : Value} {sz m : Nat}
theorem r_rixF {k : IntKind} {i : Int} (hu : P.underlying t = some (.slice e)) (hs : (P.info? e).map (·.size) = some sz) (hf : ∃ A cp, v = .slice A m cp ∧ m ≤ cp ∧ cp ≤ maxLen ∧ (m ≠ 0 → A = some ⟨sb v, so v, none⟩ ∧ so v = 0)) (hA : Fr a n L) (hx : ov L x = some v) (hy : ov L y = some (.int k i)) (h0 : 0 ≤ i) (h1 : i < (m : Int)) :
    (execOp a.eval ⟨dst, .indexAddr t x y, ty, pos, aft, gd⟩).run P w = .ok (.value (.pointer (some ⟨sb v, so v + i.toNat * sz, none⟩))) w := by
  obtain ⟨A, cp, e1, _, _, h4⟩ := hf
  have h4' := (h4 (by omega)).1
  cases hq : P.info? e with
  | none => simp [hq] at hs
  | some ei =>
    have hs' : ei.size = sz := by simpa [hq] using hs
    subst hs'
    rw [h4'] at e1
    exact r_ixs hu hq hA (hx.trans (congrArg some e1)) hy h0 h1
end
end Go.Proofs.Ytlpggofilkfbnaa.K
namespace Go.Proofs.Ytlpggofilkfbnaa.T
open Go Go.Proofs Go.Proofs.Ytlpggofilkfbnaa.K
set_option linter.unusedVariables false
set_option linter.unusedSimpArgs false
set_option maxRecDepth 20000 in
theorem slices_Clone_uint32_uint32.c (μ : Store) (w0 : World) (hμ : Agr μ w0) (x0 : List Int) (u0 : Value) (hx0 : Slc (RI .u32) 1 μ u0 x0) (r : List Int) (H : slices_Clone_uint32_uint32.f x0 = some r) :
    Calls Try.prog 9 [u0].toArray w0 (fun e w' => ∃ v, e = .returned v ∧ ∃ (v0 : Value) (c0 : List Value), v = v0 ∧ Els (RI .u32) 1 r c0 ∧ Iv w0 [] μ μ [row 24 1 v0 r.length c0] w') := by
  obtain ⟨hb, H⟩ := guard_some H
  obtain rfl := Option.some.inj H
  obtain ⟨cs, hE, A, cp, rfl, h2, h3, h4, h5⟩ := hx0
  refine enter Try.func9 rfl Try.ntmps9 rfl fun a hA => ?_
  have hI := Iv.start hμ
  refine w_seq fun _ hN1 => w_reg (stp hA (r_as hA rfl) rfl fun a hA => o_nil (hN1 _ _ ?_))
  refine w_seq fun _ hN2 => w_seq fun _ hN3 => w_reg (stp hA (r_mv hA rfl) rfl fun a hA => stp hA (r_eqnil Try.underlying22 hA rfl rfl) rfl fun a hA => o_nil (hN3 _ _ ?_))
  refine w_cond hA rfl (fun hc => ?_) (fun hc => ?_)
  · have hx : x0 = [] := List.eq_nil_of_length_eq_zero (by
      rcases Nat.eq_zero_or_pos x0.length with h | h
      · exact h
      · rw [h4 (by omega)] at hc; cases hc)
    subst hx
    cases hE
    refine w_seq fun _ hN4 => w_reg (stp hA (r_as hA rfl) rfl fun a hA => o_nil (hN4 _ _ ?_))
    refine w_ret ?_
    have hI := hI.nilRow 24 1
    exact ret1 hA Try.results9 rfl ⟨_, rfl, .slice none 0 0, [], rfl, .nil, hI⟩
  · refine w_skip (hN2 _ _ ?_)
    refine w_seq fun _ hN5 => w_reg ?_
    refine o_bsl [] te24 zr24 Try.underlying22 hI hA rfl rfl rfl rfl (by kernel_rfl) rfl fun g a w hA hI => ?_
    refine stp hA (r_mv hA rfl) rfl fun a hA => ?_
    refine o_appL (xs := ([] : List Int)) (ys := x0) (j := 0) te24 Try.underlying22 hI rfl hA rfl rfl (src_sl hI.agr ⟨A, cp, rfl, h2, h3, h4, h5⟩ hE.len) hE.len (hE.ones (one_RI _)) (by simp only [List.length_nil, maxLen]; omega) (by simp only [List.length_nil]; omega) rfl fun v a w hA hI => ?_
    refine stp hA (r_as hA rfl) rfl fun a hA => o_nil (hN5 _ _ (w_ret ?_))
    exact ret1 hA Try.results9 rfl ⟨_, rfl, v, cs, rfl, hE, hI⟩
set_option maxRecDepth 20000 in
theorem cmp_isNaN_uint32.c (μ : Store) (w0 : World) (hμ : Agr μ w0) (x0 : Int) (hx0 : InR .u32 x0) (r : Bool) (H : cmp_isNaN_uint32.f x0 = some r) :
    Calls Try.prog 29 [.int .u32 x0].toArray w0 (fun e w' => ∃ v, e = .returned v ∧ v = .bool r ∧ True ∧ Iv w0 [] μ μ [] w') := by
  refine enter Try.func29 rfl Try.ntmps29 rfl fun a hA => ?_
  have hI := Iv.start hμ
  have H := bI H
  refine w_seq fun _ hN1 => ?_
  refine w_reg ?_
  refine stp hA (r_as hA rfl) rfl fun a hA => ?_
  refine o_nil ?_
  refine hN1 _ _ ?_
  refine w_seq fun _ hN2 => ?_
  refine w_reg ?_
  refine stp hA (r_mv hA rfl) rfl fun a hA => 
    stp hA (r_mv hA rfl) rfl fun a hA => 
    stp hA (r_neq hA rfl rfl) rfl fun a hA => 
    stp hA (r_as hA rfl) rfl fun a hA => ?_
  refine o_nil ?_
  refine hN2 _ _ ?_
  refine w_ret ?_
  obtain rfl := Option.some.inj (bS H)
  exact ret1 hA Try.results29 rfl ⟨_, rfl, rfl, trivial, hI.forget0⟩
set_option maxRecDepth 20000 in
theorem cmp_Less_uint32.c (μ : Store) (w0 : World) (hμ : Agr μ w0) (x0 : Int) (hx0 : InR .u32 x0) (x1 : Int) (hx1 : InR .u32 x1) (r : Bool) (H : cmp_Less_uint32.f x0 x1 = some r) :
    Calls Try.prog 19 [.int .u32 x0, .int .u32 x1].toArray w0 (fun e w' => ∃ v, e = .returned v ∧ v = .bool r ∧ True ∧ Iv w0 [] μ μ [] w') := by
  refine enter Try.func19 rfl Try.ntmps19 rfl fun a hA => ?_
  have hI := Iv.start hμ
  have H := bI H
  refine w_seq fun _ hN1 => ?_
  refine w_reg ?_
  refine stp hA (r_as hA rfl) rfl fun a hA => ?_
  refine o_nil ?_
  refine hN1 _ _ ?_
  obtain ⟨c1, hz1, Hk1⟩ := bB H
  refine w_cut (fun a w => Fr a 17 [(0, .int .u32 x0), (1, .int .u32 x1), (4, .bool c1)] ∧ Iv w0 [] μ μ [] w) ?_ ?_
  · have H := bI hz1
    refine w_reg ?_
    refine stp hA (r_mv hA rfl) rfl fun a hA => ?_
    obtain ⟨r1, hr1, H⟩ := bB H
    refine o_callp (u := .bool r1) cf29 hA rfl hI (cmp_isNaN_uint32.c μ _ hI.agr x0 hx0 r1 hr1) rfl fun a w hz2 hI hA => 
      stp hA (r_mv hA rfl) rfl fun a hA => ?_
    rcases Bool.eq_false_or_eq_true r1 with hc1 | hc1
    · have hc10 := hc1; have H := bT H hc1
      refine o_yes hA rfl rfl hc10 <| 
        stp hA (r_mv hA rfl) rfl fun a hA => 
        o_yes hA rfl rfl hc10 <| ?_
      obtain ⟨r2, hr2, H⟩ := bB H
      refine o_callp (u := .bool r2) cf29 hA rfl hI (cmp_isNaN_uint32.c μ _ hI.agr x1 hx1 r2 hr2) rfl fun a w hz3 hI hA => 
        o_yes hA rfl rfl hc10 <| 
        stp hA (r_not hA rfl) rfl fun a hA => 
        stp hA (r_pick_t hA rfl hc10 rfl) rfl fun a hA => 
        stp hA (r_mv hA rfl) rfl fun a hA => ?_
      rcases Bool.eq_false_or_eq_true (!r2) with hc2 | hc2
      · have hc20 := hc2; have hc2 := nT hc2; have hc2 := ft hc2; have H := bF H hc2
        refine o_no hA rfl rfl (by rw [hc20]; simp [vb]) rfl fun a hA => 
          o_no hA rfl rfl (by rw [hc20]; simp [vb]) rfl fun a hA => 
          o_no hA rfl rfl (by rw [hc20]; simp [vb]) rfl fun a hA => 
          stp hA (r_pick_t hA rfl hc20 rfl) rfl fun a hA => 
          stp hA (r_as hA rfl) rfl fun a hA => ?_
        refine o_nil ?_
        cases Option.some.inj (bS H)
        exact ⟨hA.sub ⟨rfl, rfl, rfl, trivial⟩, hI⟩
      · have hc20 := hc2; have hc2 := nF hc2; have H := bT H hc2
        refine o_yes hA rfl rfl hc20 <| 
          stp hA (r_mv hA rfl) rfl fun a hA => 
          o_yes hA rfl rfl hc20 <| 
          stp hA (r_mv hA rfl) rfl fun a hA => 
          o_yes hA rfl rfl hc20 <| 
          stp hA (r_lss hA rfl rfl) rfl fun a hA => 
          stp hA (r_pick_f hA rfl hc20 rfl) rfl fun a hA => 
          stp hA (r_as hA rfl) rfl fun a hA => ?_
        refine o_nil ?_
        cases Option.some.inj (bS H)
        exact ⟨hA.sub ⟨rfl, rfl, rfl, trivial⟩, hI⟩
    · have hc10 := hc1; have hc1 := ft hc1; have H := bF H hc1
      refine o_no hA rfl rfl (by rw [hc10]; simp [vb]) rfl fun a hA => 
        o_no hA rfl rfl (by rw [hc10]; simp [vb]) rfl fun a hA => 
        o_no hA rfl rfl (by rw [hc10]; simp [vb]) rfl fun a hA => 
        stp hA (r_pick_f hA rfl hc10 rfl) rfl fun a hA => 
        stp hA (r_mv hA rfl) rfl fun a hA => 
        o_yes hA rfl rfl rfl <| 
        stp hA (r_mv hA rfl) rfl fun a hA => 
        o_yes hA rfl rfl rfl <| 
        stp hA (r_mv hA rfl) rfl fun a hA => 
        o_yes hA rfl rfl rfl <| 
        stp hA (r_lss hA rfl rfl) rfl fun a hA => 
        stp hA (r_pick_f hA rfl rfl rfl) rfl fun a hA => 
        stp hA (r_as hA rfl) rfl fun a hA => ?_
      refine o_nil ?_
      cases Option.some.inj (bS H)
      exact ⟨hA.sub ⟨rfl, rfl, rfl, trivial⟩, hI⟩
  · rintro a w ⟨hA, hI⟩
    have H := Hk1
    refine w_ret ?_
    obtain rfl := Option.some.inj (bS H)
    exact ret1 hA Try.results19 rfl ⟨_, rfl, rfl, trivial, hI.forget0⟩
set_option maxRecDepth 20000 in
theorem slices_insertionSortOrdered_uint32.c (μ : Store) (w0 : World) (hμ : Agr μ w0) (x0 : List Int) (u0 : Value) (k0 : List Value) (hx0 : Els (RI .u32) 1 x0 k0) (ho0 : RowOK μ w0 24 1 u0 x0.length k0) (x1 : Int) (hx1 : InR .i64 x1) (x2 : Int) (hx2 : InR .i64 x2) (r : List Int) (H : slices_insertionSortOrdered_uint32.f x0 x1 x2 = some r) :
    Calls Try.prog 13 [u0, .int .i64 x1, .int .i64 x2].toArray w0 (fun e w' => ∃ v, e = .returned v ∧ ∃ (c0 : List Value), v = .tuple #[] ∧ Els (RI .u32) 1 r c0 ∧ Iv w0 (row 24 1 u0 x0.length k0).foot μ μ [row 24 1 u0 r.length c0] w') := by
  refine enter Try.func13 rfl Try.ntmps13 rfl fun a hA => ?_
  have hI := ho0.start hμ
  have H := bI H
  refine w_seq fun _ hN1 => ?_
  refine w_reg ?_
  refine stp hA (r_mv hA rfl) rfl fun a hA => 
    stp hA (r_add hA rfl rfl) rfl fun a hA => 
    stp hA (r_as hA rfl) rfl fun a hA => ?_
  refine o_nil ?_
  refine hN1 _ _ ?_
  refine w_block ?_
  obtain ⟨z1, hz1, Hk1⟩ := bind_some H
  obtain ⟨n1, hn1⟩ := loopO_some hz1
  refine w_loop (fun n a w => ∃ (s1 : Int) (s2 : List Int) (ccs2 : List Value), loopN (slices_insertionSortOrdered_uint32.s0 x1 x2) n (s1, s2) = some z1 ∧ InR .i64 s1 ∧ Els (RI .u32) 1 s2 ccs2 ∧ Fr a 49 [(0, u0), (1, .int .i64 x1), (2, .int .i64 x2), (6, .int .i64 s1)] ∧ Iv w0 (row 24 1 u0 x0.length k0).foot μ μ [row 24 1 u0 s2.length ccs2] w) n1 ⟨IntKind.i64.wrap (x1 + 1), x0, k0, hn1, (wrap_in _ _), hx0, hA.sub ⟨rfl, rfl, rfl, rfl, trivial⟩, hI⟩ ?_
  clear hA hI
  rintro n a w ⟨s1, s2, ccs2, hn1, ws1, ws2, hA, hI⟩
  obtain ⟨m1, rfl, H⟩ := loopN_bind hn1
  clear hn1
  refine w_seq fun _ hN2 => ?_
  refine w_seq fun _ hN3 => ?_
  refine w_reg ?_
  refine stp hA (r_mv hA rfl) rfl fun a hA => 
    stp hA (r_mv hA rfl) rfl fun a hA => 
    stp hA (r_lss hA rfl rfl) rfl fun a hA => ?_
  refine o_nil ?_
  refine hN3 _ _ ?_
  refine w_cond hA rfl (fun hc1 => ?_) (fun hc1 => ?_)
  · have hc10 := hc1; have hc1 := of_decide_eq_true hc1; have H := bT H hc1
    refine w_skip ?_
    refine hN2 _ _ ?_
    obtain ⟨c1, hz2, Hk2⟩ := bB H
    refine w_cut (fun a w => ∃ (ccc1 : List Value), Els (RI .u32) 1 c1 ccc1 ∧ Fr a 49 [(0, u0), (1, .int .i64 x1), (2, .int .i64 x2), (6, .int .i64 s1), (12, .bool (decide (s1 < x2)))] ∧ Iv w0 (row 24 1 u0 x0.length k0).foot μ μ [row 24 1 u0 c1.length ccc1] w) ?_ ?_
    · have H := bI hz2
      refine w_block ?_
      refine w_seq fun _ hN4 => ?_
      refine w_reg ?_
      refine stp hA (r_mv hA rfl) rfl fun a hA => 
        stp hA (r_as hA rfl) rfl fun a hA => ?_
      refine o_nil ?_
      refine hN4 _ _ ?_
      refine w_block ?_
      obtain ⟨z2, hz3, Hk3⟩ := bind_some H
      obtain ⟨n2, hn2⟩ := loopO_some hz3
      refine w_loop (fun n a w => ∃ (s3 : Int) (s4 : List Int) (ccs4 : List Value), loopN (slices_insertionSortOrdered_uint32.s1 x1) n (s3, s4) = some z2 ∧ InR .i64 s3 ∧ Els (RI .u32) 1 s4 ccs4 ∧ Fr a 49 [(0, u0), (1, .int .i64 x1), (2, .int .i64 x2), (6, .int .i64 s1), (7, .int .i64 s3), (12, .bool (decide (s1 < x2)))] ∧ Iv w0 (row 24 1 u0 x0.length k0).foot μ μ [row 24 1 u0 s4.length ccs4] w) n2 ⟨s1, s2, ccs2, hn2, ws1, ws2, hA.sub ⟨rfl, rfl, rfl, rfl, rfl, rfl, trivial⟩, hI⟩ ?_
      clear hA hI
      rintro n a w ⟨s3, s4, ccs4, hn2, ws3, ws4, hA, hI⟩
      obtain ⟨m2, rfl, H⟩ := loopN_bind hn2
      clear hn2
      refine w_seq fun _ hN5 => ?_
      obtain ⟨c2, hz4, Hk4⟩ := bB H
      refine w_cut (fun a w => Fr a 49 [(0, u0), (1, .int .i64 x1), (2, .int .i64 x2), (6, .int .i64 s1), (7, .int .i64 s3), (12, .bool (decide (s1 < x2))), (30, .bool c2)] ∧ Iv w0 (row 24 1 u0 x0.length k0).foot μ μ [row 24 1 u0 s4.length ccs4] w) ?_ ?_
      · have H := bI hz4
        refine w_draw mo (by kernel_rfl) hI ?_
        refine qtp hA (fun _ hI => r_mv hA rfl) rfl fun a hA => 
          qtp hA (fun _ hI => r_mv hA rfl) rfl fun a hA => 
          qtp hA (fun _ hI => r_gtr hA rfl rfl) rfl fun a hA => 
          qtp hA (fun _ hI => r_mv hA rfl) rfl fun a hA => ?_
        rcases Bool.eq_false_or_eq_true (decide (x1 < s3)) with hc2 | hc2
        · have hc20 := hc2; have hc2 := of_decide_eq_true hc2; have H := bT H hc2
          refine q_yes hA rfl rfl hc20 <| 
            qtp hA (fun _ hI => r_mv hA rfl) rfl fun a hA => 
            q_yes hA rfl rfl hc20 <| 
            qtp hA (fun _ hI => r_mv hA rfl) rfl fun a hA => 
            q_yes hA rfl rfl hc20 <| ?_
          obtain ⟨hb1, H⟩ := bG H
          refine qtp hA (fun _ hI => r_rix (j := 0) Try.underlying22 sz24 hI rfl hA rfl rfl hb1.1 hb1.2) rfl fun a hA => 
            q_yes hA rfl rfl hc20 <| ?_
          have hq1 := els_get ws4 hb1.1 hb1.2
          refine qtp hA (fun _ hI => r_rld1 (j := 0) Try.underlying24 rfl hI rfl hq1 hA rfl (by simp only [Nat.mul_one])) rfl fun a hA => 
            q_yes hA rfl rfl hc20 <| 
            qtp hA (fun _ hI => r_mv hA rfl) rfl fun a hA => 
            q_yes hA rfl rfl hc20 <| 
            qtp hA (fun _ hI => r_mv hA rfl) rfl fun a hA => 
            q_yes hA rfl rfl hc20 <| 
            qtp hA (fun _ hI => r_sub hA rfl rfl) rfl fun a hA => 
            q_yes hA rfl rfl hc20 <| ?_
          obtain ⟨hb2, H⟩ := bG H
          refine qtp hA (fun _ hI => r_rix (j := 0) Try.underlying22 sz24 hI rfl hA rfl rfl hb2.1 hb2.2) rfl fun a hA => 
            q_yes hA rfl rfl hc20 <| ?_
          have hq2 := els_get ws4 hb2.1 hb2.2
          refine qtp hA (fun _ hI => r_rld1 (j := 0) Try.underlying24 rfl hI rfl hq2 hA rfl (by simp only [Nat.mul_one])) rfl fun a hA => 
            q_yes hA rfl rfl hc20 <| ?_
          obtain ⟨r1, hr1, H⟩ := bB H
          refine qcall (v := .bool r1) cf19 hA rfl (fun _ hI => plq (cmp_Less_uint32.c μ _ hI.agr (s4.getD s3.toNat 0) (getD_in (els_int_cs ws4).2 _) (s4.getD (IntKind.i64.wrap (s3 - 1)).toNat 0) (getD_in (els_int_cs ws4).2 _) r1 hr1) hI) rfl fun a hA => 
            qtp hA (fun _ hI => r_pick_t hA rfl hc20 rfl) rfl fun a hA => ?_
          refine q_nil fun w hI => ?_
          cases Option.some.inj (bS H)
          exact ⟨hA.sub ⟨rfl, rfl, rfl, rfl, rfl, rfl, rfl, trivial⟩, hI⟩
        · have hc20 := hc2; have hc2 := of_decide_eq_false hc2; have H := bF H hc2
          refine q_no hA rfl rfl (by rw [hc20]; simp [vb]) rfl fun a hA => 
            q_no hA rfl rfl (by rw [hc20]; simp [vb]) rfl fun a hA => 
            q_no hA rfl rfl (by rw [hc20]; simp [vb]) rfl fun a hA => 
            q_no hA rfl rfl (by rw [hc20]; simp [vb]) rfl fun a hA => 
            q_no hA rfl rfl (by rw [hc20]; simp [vb]) rfl fun a hA => 
            q_no hA rfl rfl (by rw [hc20]; simp [vb]) rfl fun a hA => 
            q_no hA rfl rfl (by rw [hc20]; simp [vb]) rfl fun a hA => 
            q_no hA rfl rfl (by rw [hc20]; simp [vb]) rfl fun a hA => 
            q_no hA rfl rfl (by rw [hc20]; simp [vb]) rfl fun a hA => 
            q_no hA rfl rfl (by rw [hc20]; simp [vb]) rfl fun a hA => 
            qtp hA (fun _ hI => r_pick_f hA rfl hc20 rfl) rfl fun a hA => ?_
          refine q_nil fun w hI => ?_
          cases Option.some.inj (bS H)
          exact ⟨hA.sub ⟨rfl, rfl, rfl, rfl, rfl, rfl, rfl, trivial⟩, hI⟩
      · rintro a w ⟨hA, hI⟩
        have H := Hk4
        refine w_cond hA rfl (fun hc3 => ?_) (fun hc3 => ?_)
        · have hc30 := hc3; have H := bT H hc3
          refine w_skip ?_
          refine hN5 _ _ ?_
          refine w_seq fun _ hN6 => ?_
          refine w_block ?_
          refine w_any [15, 17] mo hI fun w hI => ?_
          have hfm1 := own_form (hI.row_ok (j := 0) rfl)
          refine g_easy (i := 0) hA rfl rfl (by kernel_rfl) (.inr hI) (fun _ => r_mv hA rfl) rfl fun a hA => ?_
          refine g_easy (i := 1) hA rfl rfl (by kernel_rfl) (.inr hI) (fun _ => r_mv hA rfl) rfl fun a hA => ?_
          refine g_easy (i := 2) hA rfl rfl (by kernel_rfl) (.inr hI) (fun _ => r_mv hA rfl) rfl fun a hA => ?_
          refine g_easy (i := 3) hA rfl rfl (by kernel_rfl) (.inr hI) (fun _ => r_mv hA rfl) rfl fun a hA => ?_
          refine g_easy (i := 4) hA rfl rfl (by kernel_rfl) (.inr hI) (fun _ => r_sub hA rfl rfl) rfl fun a hA => ?_
          refine g_easy (i := 5) hA rfl rfl (by kernel_rfl) (.inr hI) (fun _ => r_mv hA rfl) rfl fun a hA => ?_
          refine g_easy (i := 6) hA rfl rfl (by kernel_rfl) (.inr hI) (fun _ => r_mv hA rfl) rfl fun a hA => ?_
          refine g_easy (i := 7) hA rfl rfl (by kernel_rfl) (.inr hI) (fun _ => r_sub hA rfl rfl) rfl fun a hA => ?_
          obtain ⟨hb3, H⟩ := bG H
          refine g_take (i := 8) hA rfl rfl (by kernel_rfl) hI (fun w hI => r_rix (j := 0) Try.underlying22 sz24 hI rfl hA rfl rfl hb3.1 hb3.2) rfl fun a hA => ?_
          have hq3 := els_get ws4 hb3.1 hb3.2
          refine g_take (i := 9) hA rfl rfl (by kernel_rfl) hI (fun w hI => r_rld1 (j := 0) Try.underlying24 rfl hI rfl hq3 hA rfl (by simp only [Nat.mul_one])) rfl fun a hA => ?_
          refine g_easy (i := 10) hA rfl rfl (by kernel_rfl) (.inr hI) (fun _ => r_mv hA rfl) rfl fun a hA => ?_
          refine g_easy (i := 11) hA rfl rfl (by kernel_rfl) (.inr hI) (fun _ => r_mv hA rfl) rfl fun a hA => ?_
          obtain ⟨hb4, H⟩ := bG H
          refine g_take (i := 12) hA rfl rfl (by kernel_rfl) hI (fun w hI => r_rix (j := 0) Try.underlying22 sz24 hI rfl hA rfl rfl hb4.1 hb4.2) rfl fun a hA => ?_
          have hq4 := els_get ws4 hb4.1 hb4.2
          refine g_take (i := 13) hA rfl rfl (by kernel_rfl) hI (fun w hI => r_rld1 (j := 0) Try.underlying24 rfl hI rfl hq4 hA rfl (by simp only [Nat.mul_one])) rfl fun a hA => ?_
          refine g_take (i := 14) hA rfl rfl (by kernel_rfl) hI (fun w hI => r_rix (j := 0) Try.underlying22 sz24 hI rfl hA rfl rfl hb4.1 hb4.2) rfl fun a hA => ?_
          refine g_forced (i := 15) rfl (by kernel_rfl) ?_
          have hE1 := els_set (x := (s4.getD (IntKind.i64.wrap (s3 - 1)).toNat 0)) ws4 s3.toNat (getD_in (els_int_cs ws4).2 _)
          refine o_rst (j := 0) (q := s3.toNat) (z := (s4.getD (IntKind.i64.wrap (s3 - 1)).toNat 0)) (xs := s4) sz24 hI rfl hA rfl rfl (by simp only [Nat.mul_one]) rfl (by omega) fun w hI => ?_
          refine o_nil ?_
          refine ⟨(.inl (by kernel_rfl)), ?_⟩
          refine g_easy (i := 16) hA rfl rfl (by kernel_rfl) (.inl (by kernel_rfl)) (fun _ => r_rixF (m := s4.length) Try.underlying22 sz24 hfm1 hA rfl rfl hb3.1 hb3.2) rfl fun a hA => ?_
          refine g_forced (i := 17) rfl (by kernel_rfl) ?_
          have hE2 := els_set (x := (s4.getD s3.toNat 0)) hE1 (IntKind.i64.wrap (s3 - 1)).toNat (getD_in (els_int_cs ws4).2 _)
          refine o_rst (j := 0) (q := (IntKind.i64.wrap (s3 - 1)).toNat) (z := (s4.getD s3.toNat 0)) (xs := (s4.set s3.toNat (s4.getD (IntKind.i64.wrap (s3 - 1)).toNat 0))) sz24 hI rfl hA rfl rfl (by simp only [Nat.mul_one]) rfl (by simp only [List.length_set]; omega) fun w hI => ?_
          refine o_nil ?_
          refine ⟨(.inl (by kernel_rfl)), ?_⟩
          refine g_nil (by kernel_rfl) ?_
          refine hN6 _ _ ?_
          refine w_reg ?_
          refine stp hA (r_mv hA rfl) rfl fun a hA => 
            stp hA (r_sub hA rfl rfl) rfl fun a hA => 
            stp hA (r_as hA rfl) rfl fun a hA => ?_
          refine o_nil ?_
          exact ⟨m2, Nat.lt_succ_self _, IntKind.i64.wrap (s3 - 1), (s4.set s3.toNat (s4.getD (IntKind.i64.wrap (s3 - 1)).toNat 0)).set (IntKind.i64.wrap (s3 - 1)).toNat (s4.getD s3.toNat 0), (ccs4.set s3.toNat (.int .u32 (s4.getD (IntKind.i64.wrap (s3 - 1)).toNat 0))).set (IntKind.i64.wrap (s3 - 1)).toNat (.int .u32 (s4.getD s3.toNat 0)), H, (wrap_in _ _), hE2, hA.sub ⟨rfl, rfl, rfl, rfl, rfl, rfl, trivial⟩, hI⟩
        · have hc30 := hc3; have hc3 := ft hc3; have H := bF H hc3
          refine w_exit rfl ?_
          have H : some s4 = some z2 := H
          obtain rfl := Option.some.inj H
          have H := Hk3
          cases Option.some.inj (bS H)
          exact ⟨ccs4, ws4, hA.sub ⟨rfl, rfl, rfl, rfl, rfl, trivial⟩, hI⟩
    · rintro a w ⟨ccc1, wc1, hA, hI⟩
      have H := Hk2
      refine w_reg ?_
      refine stp hA (r_mv hA rfl) rfl fun a hA => 
        stp hA (r_add hA rfl rfl) rfl fun a hA => 
        stp hA (r_as hA rfl) rfl fun a hA => ?_
      refine o_nil ?_
      exact ⟨m1, Nat.lt_succ_self _, IntKind.i64.wrap (s1 + 1), c1, ccc1, H, (wrap_in _ _), wc1, hA.sub ⟨rfl, rfl, rfl, rfl, trivial⟩, hI⟩
  · have hc10 := hc1; have hc1 := of_decide_eq_false hc1; have H := bF H hc1
    refine w_exit rfl ?_
    have H : some s2 = some z1 := H
    obtain rfl := Option.some.inj H
    have H := Hk1
    obtain rfl := Option.some.inj (bS H)
    exact ret0 hA Try.results13 ⟨_, rfl, ccs2, rfl, ws2, (hI.less (Store.le.refl _) hI.le)⟩
set_option maxRecDepth 20000 in
theorem slices_pdqsortOrdered_uint32.c (μ : Store) (w0 : World) (hμ : Agr μ w0) (x0 : List Int) (u0 : Value) (k0 : List Value) (hx0 : Els (RI .u32) 1 x0 k0) (ho0 : RowOK μ w0 24 1 u0 x0.length k0) (x1 : Int) (hx1 : InR .i64 x1) (x2 : Int) (hx2 : InR .i64 x2) (x3 : Int) (hx3 : InR .i64 x3) (r : List Int) (H : slices_pdqsortOrdered_uint32.f x0 x1 x2 x3 = some r) :
    Calls Try.prog 11 [u0, .int .i64 x1, .int .i64 x2, .int .i64 x3].toArray w0 (fun e w' => ∃ v, e = .returned v ∧ ∃ (c0 : List Value), v = .tuple #[] ∧ Els (RI .u32) 1 r c0 ∧ Iv w0 (row 24 1 u0 x0.length k0).foot μ μ [row 24 1 u0 r.length c0] w') := by
  refine enter Try.func11 rfl Try.ntmps11 rfl fun a hA => ?_
  have hI := ho0.start hμ
  have H := bI H
  refine w_seq fun _ hN1 => ?_
  refine w_reg ?_
  refine stp hA (r_as hA rfl) rfl fun a hA => ?_
  refine o_nil ?_
  refine hN1 _ _ ?_
  refine w_seq fun _ hN2 => ?_
  refine w_reg ?_
  refine stp hA (r_as hA rfl) rfl fun a hA => ?_
  refine o_nil ?_
  refine hN2 _ _ ?_
  refine w_block ?_
  obtain ⟨z1, hz1, Hk1⟩ := bind_some H
  obtain ⟨n1, hn1⟩ := loopO_some hz1
  refine w_loop (fun n a w => loopN (slices_pdqsortOrdered_uint32.s0 x0 x1 x2 x3) n () = some z1 ∧ Fr a 134 [(0, u0), (1, .int .i64 x1), (2, .int .i64 x2), (3, .int .i64 x3), (8, .bool true), (9, .bool true)] ∧ Iv w0 (row 24 1 u0 x0.length k0).foot μ μ [row 24 1 u0 x0.length k0] w) n1 ⟨hn1, hA.sub ⟨rfl, rfl, rfl, rfl, rfl, rfl, trivial⟩, hI⟩ ?_
  clear hA hI
  rintro n a w ⟨hn1, hA, hI⟩
  obtain ⟨m1, rfl, H⟩ := loopN_bind hn1
  clear hn1
  refine w_block ?_
  refine w_seq fun _ hN3 => ?_
  refine w_reg ?_
  refine stp hA (r_mv hA rfl) rfl fun a hA => 
    stp hA (r_mv hA rfl) rfl fun a hA => 
    stp hA (r_sub hA rfl rfl) rfl fun a hA => 
    stp hA (r_as hA rfl) rfl fun a hA => ?_
  refine o_nil ?_
  refine hN3 _ _ ?_
  refine w_seq fun _ hN4 => ?_
  refine w_seq fun _ hN5 => ?_
  refine w_reg ?_
  refine stp hA (r_mv hA rfl) rfl fun a hA => 
    stp hA (r_leq hA rfl rfl) rfl fun a hA => ?_
  refine o_nil ?_
  refine hN5 _ _ ?_
  refine w_cond hA rfl (fun hc1 => ?_) (fun hc1 => ?_)
  · have hc10 := hc1; have hc1 := of_decide_eq_true hc1; have H := bT H hc1
    refine w_seq fun _ hN6 => ?_
    refine w_reg ?_
    refine stp hA (r_mv hA rfl) rfl fun a hA => 
      stp hA (r_mv hA rfl) rfl fun a hA => 
      stp hA (r_mv hA rfl) rfl fun a hA => ?_
    obtain ⟨r1, hr1, H⟩ := bB H
    refine o_call _ cf13 hA rfl (slices_insertionSortOrdered_uint32.c μ _ hI.agr x0 u0 k0 hx0 (hI.item (j := 0) rfl) x1 hx1 x2 hx2 r1 hr1) rfl fun v1 a w hz2 hA => ?_
    obtain ⟨cs1, rfl, hE1, hi1⟩ := hz2
    have hI := hI.call1 0 rfl hi1
    refine o_nil ?_
    refine hN6 _ _ ?_
    refine w_ret ?_
    have H : some r1 = some z1 := H
    obtain rfl := Option.some.inj H
    have H := Hk1
    obtain rfl := Option.some.inj (bS H)
    exact ret0 hA Try.results11 ⟨_, rfl, cs1, rfl, hE1, (hI.less (Store.le.refl _) hI.le)⟩
  · have hc10 := hc1; have hc1 := of_decide_eq_false hc1; have H := bF H hc1
    refine w_skip ?_
    refine hN4 _ _ ?_
    refine w_seq fun _ hN7 => ?_
    refine w_seq fun _ hN8 => ?_
    refine w_reg ?_
    refine stp hA (r_mv hA rfl) rfl fun a hA => 
      stp hA (r_eql hA rfl rfl) rfl fun a hA => ?_
    refine o_nil ?_
    refine hN8 _ _ ?_
    refine w_cond hA rfl (fun hc2 => ?_) (fun hc2 => ?_)
    · have hc20 := hc2; have hc2 := of_decide_eq_true hc2; have H := bT H hc2
      exact (bN H).elim
    · have hc20 := hc2; have hc2 := of_decide_eq_false hc2; have H := bF H hc2
      exact (bN H).elim
set_option maxRecDepth 20000 in
theorem slices_Sort_uint32_uint32.c (μ : Store) (w0 : World) (hμ : Agr μ w0) (x0 : List Int) (u0 : Value) (k0 : List Value) (hx0 : Els (RI .u32) 1 x0 k0) (ho0 : RowOK μ w0 24 1 u0 x0.length k0) (r : List Int) (H : slices_Sort_uint32_uint32.f x0 = some r) :
    Calls Try.prog 10 [u0].toArray w0 (fun e w' => ∃ v, e = .returned v ∧ ∃ (c0 : List Value), v = .tuple #[] ∧ Els (RI .u32) 1 r c0 ∧ Iv w0 (row 24 1 u0 x0.length k0).foot μ μ [row 24 1 u0 r.length c0] w') := by
  refine enter Try.func10 rfl Try.ntmps10 rfl fun a hA => ?_
  have hI := ho0.start hμ
  have H := bI H
  refine w_seq fun _ hN1 => ?_
  refine w_reg ?_
  refine stp hA (r_mv hA rfl) rfl fun a hA => ?_
  have hlen1 := Iv.row_in hI (j := 0) rfl
  refine stp hA (r_rlen (xs := 0) Try.underlying22 hI (j := 0) rfl hA rfl) rfl fun a hA => 
    stp hA (r_as hA rfl) rfl fun a hA => ?_
  refine o_nil ?_
  refine hN1 _ _ ?_
  refine w_reg ?_
  refine stp hA (r_mv hA rfl) rfl fun a hA => 
    stp hA (r_mv hA rfl) rfl fun a hA => 
    stp hA (r_mv hA rfl) rfl fun a hA => 
    stp hA (r_conv Try.underlying3 Try.underlying33 hA rfl) rfl fun a hA => ?_
  obtain ⟨r1, hr1, H⟩ := bB H
  refine o_callp (u := .int .i64 r1) cf12 hA rfl hI (math_bits_Len.c μ _ hI.agr (IntKind.u64.wrap (x0.length : Int)) (wrap_in _ _) r1 hr1) rfl fun a w hz1 hI hA => ?_
  obtain ⟨r2, hr2, H⟩ := bB H
  refine o_call _ cf11 hA rfl (slices_pdqsortOrdered_uint32.c μ _ hI.agr x0 u0 k0 hx0 (hI.item (j := 0) rfl) 0 (in_lit .i64 0 rfl) (x0.length : Int) hlen1 r1 hz1 r2 hr2) rfl fun v1 a w hz2 hA => ?_
  obtain ⟨cs1, rfl, hE1, hi1⟩ := hz2
  have hI := hI.call1 0 rfl hi1
  refine o_nil ?_
  obtain rfl := Option.some.inj (bS H)
  exact ret0 hA Try.results10 ⟨_, rfl, cs1, rfl, hE1, (hI.less (Store.le.refl _) hI.le)⟩
set_option maxRecDepth 20000 in
theorem past_Median.c (μ : Store) (w0 : World) (hμ : Agr μ w0) (x0 : List Int) (u0 : Value) (hx0 : Slc (RI .u32) 1 μ u0 x0) (r : Int) (H : past_Median.f x0 = some r) :
    Calls Try.prog 6 [u0].toArray w0 (fun e w' => ∃ v, e = .returned v ∧ v = .int .u32 r ∧ InR .u32 r ∧ Iv w0 [] μ μ [] w') := by
  refine enter Try.func6 rfl Try.ntmps6 rfl fun a hA => ?_
  have hI := Iv.start hμ
  have H := bI H
  refine w_seq fun _ hN1 => ?_
  refine w_reg ?_
  refine stp hA (r_as hA rfl) rfl fun a hA => ?_
  refine o_nil ?_
  refine hN1 _ _ ?_
  refine w_seq fun _ hN2 => ?_
  refine w_seq fun _ hN3 => ?_
  refine w_reg ?_
  refine stp hA (r_mv hA rfl) rfl fun a hA => ?_
  obtain ⟨_, hsl1⟩ := Slc.sv hx0
  refine stp hA (r_slen Try.underlying22 hsl1 hA rfl) rfl fun a hA => 
    stp hA (r_eql hA rfl rfl) rfl fun a hA => ?_
  refine o_nil ?_
  refine hN3 _ _ ?_
  refine w_cond hA rfl (fun hc1 => ?_) (fun hc1 => ?_)
  · have hc10 := hc1; have hc1 := of_decide_eq_true hc1; have H := bT H hc1
    refine w_seq fun _ hN4 => ?_
    refine w_reg ?_
    refine stp hA (r_as hA rfl) rfl fun a hA => ?_
    refine o_nil ?_
    refine hN4 _ _ ?_
    refine w_ret ?_
    obtain rfl := Option.some.inj (bS H)
    exact ret1 hA Try.results6 rfl ⟨_, rfl, rfl, (in_lit .u32 0 rfl), hI.forget0⟩
  · have hc10 := hc1; have hc1 := of_decide_eq_false hc1; have H := bF H hc1
    refine w_skip ?_
    refine hN2 _ _ ?_
    refine w_seq fun _ hN5 => ?_
    refine w_reg ?_
    refine stp hA (r_mv hA rfl) rfl fun a hA => 
      stp hA (r_mv hA rfl) rfl fun a hA => ?_
    obtain ⟨_, hsl2⟩ := Slc.sv hx0
    refine stp hA (r_slen Try.underlying22 hsl2 hA rfl) rfl fun a hA => 
      stp hA (r_sub hA rfl rfl) rfl fun a hA => 
      stp hA (r_max hA rfl rfl) rfl fun a hA => ?_
    obtain ⟨hb1, H⟩ := bG H
    obtain ⟨v1, hS1, hr1⟩ := r_sl (P := Try.prog) (t := 22) (x := .tmp 7) (l := (some (.tmp 11))) (h := none) (i := iMax (IntKind.i64.wrap ((x0.length : Int) - 11)) 0) (j := (x0.length : Int)) Try.underlying22 sz24 hx0 hA rfl rfl rfl (by have hq := hb1; omega) (by have hq := hb1; omega) (by have hq := hb1; omega)
    refine stp hA (hr1 _ _ _ _ _ _) rfl fun a hA => ?_
    obtain ⟨r1, hr2, H⟩ := bB H
    refine o_call _ cf9 hA rfl (slices_Clone_uint32_uint32.c μ _ hI.agr ((x0.take ((x0.length : Int)).toNat).drop (iMax (IntKind.i64.wrap ((x0.length : Int) - 11)) 0).toNat) v1 hS1 r1 hr2) rfl fun v2 a w hz1 hA => ?_
    obtain ⟨_, cs1, rfl, hE1, hi1⟩ := hz1
    have hI := hI.call hi1
    refine stp hA (r_as hA rfl) rfl fun a hA => ?_
    refine o_nil ?_
    refine hN5 _ _ ?_
    refine w_seq fun _ hN6 => ?_
    refine w_reg ?_
    refine stp hA (r_mv hA rfl) rfl fun a hA => ?_
    obtain ⟨r2, hr3, H⟩ := bB H
    refine o_call _ cf10 hA rfl (slices_Sort_uint32_uint32.c μ _ hI.agr r1 v2 cs1 hE1 (hI.item (j := 0) rfl) r2 hr3) rfl fun v3 a w hz2 hA => ?_
    obtain ⟨cs2, rfl, hE2, hi2⟩ := hz2
    have hI := hI.call1 0 rfl hi2
    refine o_nil ?_
    refine hN6 _ _ ?_
    refine w_seq fun _ hN7 => ?_
    refine w_reg ?_
    refine stp hA (r_mv hA rfl) rfl fun a hA => 
      stp hA (r_mv hA rfl) rfl fun a hA => ?_
    have hlen1 := Iv.row_in hI (j := 0) rfl
    refine stp hA (r_rlen (xs := 0) Try.underlying22 hI (j := 0) rfl hA rfl) rfl fun a hA => 
      stp hA (r_quo hA rfl rfl (by decide)) rfl fun a hA => ?_
    obtain ⟨hb2, H⟩ := bG H
    refine stp hA (r_rix (j := 0) Try.underlying22 sz24 hI rfl hA rfl rfl hb2.1 hb2.2) rfl fun a hA => ?_
    have hq1 := els_get hE2 hb2.1 hb2.2
    refine stp hA (r_rld1 (j := 0) Try.underlying24 rfl hI rfl hq1 hA rfl (by simp only [Nat.mul_one])) rfl fun a hA => 
      stp hA (r_as hA rfl) rfl fun a hA => ?_
    refine o_nil ?_
    refine hN7 _ _ ?_
    refine w_ret ?_
    obtain rfl := Option.some.inj (bS H)
    exact ret1 hA Try.results6 rfl ⟨_, rfl, rfl, (getD_in (els_int_cs hE2).2 _), hI.forget0⟩
end Go.Proofs.Ytlpggofilkfbnaa.T
namespace Go.Proofs.Ytlpggofilkfbnaa.T
open Go Go.Proofs Go.Proofs.Ytlpggofilkfbnaa.K
set_option linter.unusedVariables false
set_option linter.unusedSimpArgs false
noncomputable def sargassolaw12_first.f : Option Bool := ((((past_Median.f ([3, 1, 2] : List Int)).bind fun r1 => (if r1 = 2 then ((past_Median.f ([])).bind fun r2 => some (decide (r2 = 0))) else some false))).bind fun c1 => some c1)
end Go.Proofs.Ytlpggofilkfbnaa.T
namespace Go.Proofs.Ytlpggofilkfbnaa.T
open Go Go.Proofs Go.Proofs.Ytlpggofilkfbnaa.K
set_option linter.unusedVariables false
set_option linter.unusedSimpArgs false
set_option maxRecDepth 20000 in
theorem sargassolaw12_first.c (μ : Store) (w0 : World) (hμ : Agr μ w0) (r : Bool) (H : sargassolaw12_first.f = some r) :
    Calls Try.prog 5 [].toArray w0 (fun e w' => ∃ v, e = .returned v ∧ v = .bool r ∧ True ∧ Iv w0 [] μ μ [] w') := by
  refine enter Try.func5 rfl Try.ntmps5 rfl fun a hA => ?_
  have hI := Iv.start hμ
  have H := bI H
  refine w_seq fun _ hN1 => ?_
  refine w_reg ?_
  refine stp hA (r_as hA rfl) rfl fun a hA => ?_
  refine o_nil ?_
  refine hN1 _ _ ?_
  obtain ⟨c1, hz1, Hk1⟩ := bB H
  refine w_cut (fun a w => Fr a 8 [(0, .bool c1)] ∧ Iv w0 [] μ μ [] w) ?_ ?_
  · have H := bI hz1
    refine w_reg ?_
    have hE1 : Els (RI .u32) 1 ([3, 1, 2] : List Int) ([[.int .u32 3]].flatten ++ ([[.int .u32 1]].flatten ++ ([[.int .u32 2]].flatten ++ ([])))) := (Els.cons (c := [[.int .u32 3]].flatten) ⟨rfl, (in_lit .u32 3 rfl)⟩ rfl (Els.cons (c := [[.int .u32 1]].flatten) ⟨rfl, (in_lit .u32 1 rfl)⟩ rfl (Els.cons (c := [[.int .u32 2]].flatten) ⟨rfl, (in_lit .u32 2 rfl)⟩ rfl Els.nil)))
    refine o_bsl ([[.int .u32 3]].flatten ++ ([[.int .u32 1]].flatten ++ ([[.int .u32 2]].flatten ++ ([])))) te24 zr24 Try.underlying22 hI hA rfl rfl rfl rfl (by kernel_rfl) rfl fun g1 a w hA hI => ?_
    generalize hcs : ([[.int .u32 3]].flatten ++ ([[.int .u32 1]].flatten ++ ([[.int .u32 2]].flatten ++ ([]))) : List Value) = cs1 at hE1 hI
    clear hcs
    obtain ⟨r1, hr1, H⟩ := bB H
    refine o_callp (u := .int .u32 r1) cf6 hA rfl hI ((by obtain ⟨μ1, hle1, hsv1, hI⟩ := hI.freezeRow 0 rfl; have hS1 : Slc (RI .u32) 1 μ1 (.slice (some ⟨g1, 0, none⟩) 3 3) ([3, 1, 2] : List Int) := ⟨_, hE1, hsv1⟩; exact low_plain hle1 (past_Median.c μ1 _ hI.agr ([3, 1, 2] : List Int) (.slice (some ⟨g1, 0, none⟩) 3 3) hS1 r1 hr1))) rfl fun a w hz2 hI hA => 
      stp hA (r_eql hA rfl rfl) rfl fun a hA => 
      stp hA (r_mv hA rfl) rfl fun a hA => ?_
    rcases Bool.eq_false_or_eq_true (decide (r1 = 2)) with hc1 | hc1
    · have hc10 := hc1; have hc1 := of_decide_eq_true hc1; have H := bT H hc1
      refine o_yes hA rfl rfl hc10 <| ?_
      obtain ⟨r2, hr2, H⟩ := bB H
      refine o_callp (u := .int .u32 r2) cf6 hA rfl hI (past_Median.c μ _ hI.agr ([]) (.slice none 0 0) (slc_nil _ _ _) r2 hr2) rfl fun a w hz3 hI hA => 
        o_yes hA rfl rfl hc10 <| 
        stp hA (r_eql hA rfl rfl) rfl fun a hA => 
        stp hA (r_pick_t hA rfl hc10 rfl) rfl fun a hA => 
        stp hA (r_as hA rfl) rfl fun a hA => ?_
      refine o_nil ?_
      cases Option.some.inj (bS H)
      exact ⟨hA.sub ⟨rfl, trivial⟩, (hI.sel [] (by decide) rfl)⟩
    · have hc10 := hc1; have hc1 := of_decide_eq_false hc1; have H := bF H hc1
      refine o_no hA rfl rfl (by rw [hc10]; simp [vb]) rfl fun a hA => 
        o_no hA rfl rfl (by rw [hc10]; simp [vb]) rfl fun a hA => 
        stp hA (r_pick_f hA rfl hc10 rfl) rfl fun a hA => 
        stp hA (r_as hA rfl) rfl fun a hA => ?_
      refine o_nil ?_
      cases Option.some.inj (bS H)
      exact ⟨hA.sub ⟨rfl, trivial⟩, (hI.sel [] (by decide) rfl)⟩
  · rintro a w ⟨hA, hI⟩
    have H := Hk1
    refine w_ret ?_
    obtain rfl := Option.some.inj (bS H)
    exact ret1 hA Try.results5 rfl ⟨_, rfl, rfl, trivial, hI.forget0⟩
end Go.Proofs.Ytlpggofilkfbnaa.T
namespace Go.Proofs.Ytlpggofilkfbnaa.T
open Go Go.Proofs Go.Proofs.Ytlpggofilkfbnaa.K
set_option linter.unusedVariables false
set_option linter.unusedSimpArgs false
noncomputable def sargassolaw12_PastLast.f (x0 : List Int) (x1 : List Int) : Option Bool := ((sargassolaw12_first.f).bind fun r1 => (if r1 = true then (((if 30 < (x0.length : Int) then some true else (if (x1.length : Int) < 11 then some true else some (decide (30 < (x1.length : Int)))))).bind fun c1 => (if c1 = true then some r1 else (((if r1 = true then (if 0 ≤ (IntKind.i64.wrap ((x1.length : Int) - 11)) ∧ (IntKind.i64.wrap ((x1.length : Int) - 11)) ≤ (x1.length : Int) then ((sargassoref_Halves.f x0).bind fun r2 => (if r2.length + x1.length ≤ 35184372088832 then ((past_Median.f (r2 ++ x1)).bind fun r3 => ((past_Median.f ((x1.take ((x1.length : Int)).toNat).drop (IntKind.i64.wrap ((x1.length : Int) - 11)).toNat)).bind fun r4 => some (decide (r3 = r4)))) else none)) else none) else some false)).bind fun c2 => some c2))) else some false))
end Go.Proofs.Ytlpggofilkfbnaa.T
namespace Go.Proofs.Ytlpggofilkfbnaa.T
open Go Go.Proofs Go.Proofs.Ytlpggofilkfbnaa.K
set_option linter.unusedVariables false
set_option linter.unusedSimpArgs false
set_option maxRecDepth 20000 in
theorem sargassolaw12_PastLast.c (μ : Store) (w0 : World) (hμ : Agr μ w0) (x0 : List Int) (u0 : Value) (hx0 : Slc (RI .u32) 1 μ u0 x0) (x1 : List Int) (u1 : Value) (hx1 : Slc (RI .u32) 1 μ u1 x1) (r : Bool) (H : sargassolaw12_PastLast.f x0 x1 = some r) :
    Calls Try.prog 4 [u0, u1].toArray w0 (fun e w' => ∃ v, e = .returned v ∧ v = .bool r ∧ True ∧ Iv w0 [] μ μ [] w') := by
  refine enter Try.func4 rfl Try.ntmps4 rfl fun a hA => ?_
  have hI := Iv.start hμ
  have H := bI H
  refine w_seq fun _ hN1 => ?_
  refine w_reg ?_
  refine stp hA (r_as hA rfl) rfl fun a hA => ?_
  refine o_nil ?_
  refine hN1 _ _ ?_
  refine w_seq fun _ hN2 => ?_
  refine w_reg ?_
  obtain ⟨r1, hr1, H⟩ := bB H
  refine o_callp (u := .bool r1) cf5 hA rfl hI (sargassolaw12_first.c μ _ hI.agr  r1 hr1) rfl fun a w hz1 hI hA => 
    stp hA (r_as hA rfl) rfl fun a hA => ?_
  refine o_nil ?_
  refine hN2 _ _ ?_
  refine w_seq fun _ hN3 => ?_
  refine w_seq fun _ hN4 => ?_
  refine w_reg ?_
  refine stp hA (r_mv hA rfl) rfl fun a hA => 
    stp hA (r_not hA rfl) rfl fun a hA => ?_
  refine o_nil ?_
  refine hN4 _ _ ?_
  refine w_cond hA rfl (fun hc1 => ?_) (fun hc1 => ?_)
  · have hc10 := hc1; have hc1 := nT hc1; have hc1 := ft hc1; have H := bF H hc1
    refine w_seq fun _ hN5 => ?_
    refine w_reg ?_
    refine stp hA (r_as hA rfl) rfl fun a hA => ?_
    refine o_nil ?_
    refine hN5 _ _ ?_
    refine w_ret ?_
    obtain rfl := Option.some.inj (bS H)
    exact ret1 hA Try.results4 rfl ⟨_, rfl, rfl, trivial, hI.forget0⟩
  · have hc10 := hc1; have hc1 := nF hc1; have H := bT H hc1
    refine w_skip ?_
    refine hN3 _ _ ?_
    refine w_seq fun _ hN6 => ?_
    obtain ⟨c1, hz2, Hk1⟩ := bB H
    refine w_cut (fun a w => Fr a 38 [(0, u0), (1, u1), (4, .bool false), (5, .bool r1), (8, .bool (!r1)), (21, .bool c1)] ∧ Iv w0 [] μ μ [] w) ?_ ?_
    · have H := bI hz2
      refine w_reg ?_
      refine stp hA (r_mv hA rfl) rfl fun a hA => ?_
      obtain ⟨_, hsl1⟩ := Slc.sv hx0
      refine stp hA (r_slen Try.underlying22 hsl1 hA rfl) rfl fun a hA => 
        stp hA (r_gtr hA rfl rfl) rfl fun a hA => 
        stp hA (r_mv hA rfl) rfl fun a hA => ?_
      rcases Bool.eq_false_or_eq_true (decide (30 < (x0.length : Int))) with hc2 | hc2
      · have hc20 := hc2; have hc2 := of_decide_eq_true hc2; have H := bT H hc2
        refine o_no hA rfl rfl (by rw [hc20]; simp [vb]) rfl fun a hA => 
          o_no hA rfl rfl (by rw [hc20]; simp [vb]) rfl fun a hA => 
          o_no hA rfl rfl (by rw [hc20]; simp [vb]) rfl fun a hA => 
          stp hA (r_pick_t hA rfl hc20 rfl) rfl fun a hA => 
          stp hA (r_mv hA rfl) rfl fun a hA => 
          o_no hA rfl rfl (by simp [vb]) rfl fun a hA => 
          o_no hA rfl rfl (by simp [vb]) rfl fun a hA => 
          o_no hA rfl rfl (by simp [vb]) rfl fun a hA => 
          stp hA (r_pick_t hA rfl rfl rfl) rfl fun a hA => ?_
        refine o_nil ?_
        cases Option.some.inj (bS H)
        exact ⟨hA.sub ⟨rfl, rfl, rfl, rfl, rfl, rfl, trivial⟩, hI⟩
      · have hc20 := hc2; have hc2 := of_decide_eq_false hc2; have H := bF H hc2
        refine o_yes hA rfl rfl hc20 <| 
          stp hA (r_mv hA rfl) rfl fun a hA => 
          o_yes hA rfl rfl hc20 <| ?_
        obtain ⟨_, hsl2⟩ := Slc.sv hx1
        refine stp hA (r_slen Try.underlying22 hsl2 hA rfl) rfl fun a hA => 
          o_yes hA rfl rfl hc20 <| 
          stp hA (r_lss hA rfl rfl) rfl fun a hA => 
          stp hA (r_pick_f hA rfl hc20 rfl) rfl fun a hA => 
          stp hA (r_mv hA rfl) rfl fun a hA => ?_
        rcases Bool.eq_false_or_eq_true (decide ((x1.length : Int) < 11)) with hc3 | hc3
        · have hc30 := hc3; have hc3 := of_decide_eq_true hc3; have H := bT H hc3
          refine o_no hA rfl rfl (by rw [hc30]; simp [vb]) rfl fun a hA => 
            o_no hA rfl rfl (by rw [hc30]; simp [vb]) rfl fun a hA => 
            o_no hA rfl rfl (by rw [hc30]; simp [vb]) rfl fun a hA => 
            stp hA (r_pick_t hA rfl hc30 rfl) rfl fun a hA => ?_
          refine o_nil ?_
          cases Option.some.inj (bS H)
          exact ⟨hA.sub ⟨rfl, rfl, rfl, rfl, rfl, rfl, trivial⟩, hI⟩
        · have hc30 := hc3; have hc3 := of_decide_eq_false hc3; have H := bF H hc3
          refine o_yes hA rfl rfl hc30 <| 
            stp hA (r_mv hA rfl) rfl fun a hA => 
            o_yes hA rfl rfl hc30 <| ?_
          obtain ⟨_, hsl3⟩ := Slc.sv hx1
          refine stp hA (r_slen Try.underlying22 hsl3 hA rfl) rfl fun a hA => 
            o_yes hA rfl rfl hc30 <| 
            stp hA (r_gtr hA rfl rfl) rfl fun a hA => 
            stp hA (r_pick_f hA rfl hc30 rfl) rfl fun a hA => ?_
          refine o_nil ?_
          cases Option.some.inj (bS H)
          exact ⟨hA.sub ⟨rfl, rfl, rfl, rfl, rfl, rfl, trivial⟩, hI⟩
    · rintro a w ⟨hA, hI⟩
      have H := Hk1
      refine w_cond hA rfl (fun hc4 => ?_) (fun hc4 => ?_)
      · have hc40 := hc4; have H := bT H hc4
        refine w_seq fun _ hN7 => ?_
        refine w_reg ?_
        refine stp hA (r_mv hA rfl) rfl fun a hA => 
          stp hA (r_as hA rfl) rfl fun a hA => ?_
        refine o_nil ?_
        refine hN7 _ _ ?_
        refine w_ret ?_
        obtain rfl := Option.some.inj (bS H)
        exact ret1 hA Try.results4 rfl ⟨_, rfl, rfl, trivial, hI.forget0⟩
      · have hc40 := hc4; have hc4 := ft hc4; have H := bF H hc4
        refine w_skip ?_
        refine hN6 _ _ ?_
        obtain ⟨c2, hz3, Hk2⟩ := bB H
        refine w_cut (fun a w => Fr a 38 [(0, u0), (1, u1), (4, .bool c2), (5, .bool r1), (8, .bool (!r1)), (21, .bool c1)] ∧ Iv w0 [] μ μ [] w) ?_ ?_
        · have H := bI hz3
          refine w_anyS [] mo (fun w (h : Iv w0 [] μ μ [] w) => (h.sel [] (by decide) rfl : Iv w0 [] μ μ [] w)) hI fun w hI => ?_
          refine g_easy (i := 0) hA rfl rfl (by kernel_rfl) (.inr hI) (fun _ => r_mv hA rfl) rfl fun a hA => ?_
          refine g_easy (i := 1) hA rfl rfl (by kernel_rfl) (.inr hI) (fun _ => r_mv hA rfl) rfl fun a hA => ?_
          rcases Bool.eq_false_or_eq_true r1 with hc5 | hc5
          · have hc50 := hc5; have H := bT H hc5
            refine g_easy (i := 2) hA rfl (wanted_yes hA rfl rfl hc50) (by kernel_rfl) (.inr hI) (fun _ => r_mv hA rfl) rfl fun a hA => ?_
            refine g_easy (i := 4) hA rfl (wanted_yes hA rfl rfl hc50) (by kernel_rfl) (.inr hI) (fun _ => r_mv hA rfl) rfl fun a hA => ?_
            refine g_easy (i := 7) hA rfl (wanted_yes hA rfl rfl hc50) (by kernel_rfl) (.inr hI) (fun _ => r_mv hA rfl) rfl fun a hA => ?_
            refine g_easy (i := 8) hA rfl (wanted_yes hA rfl rfl hc50) (by kernel_rfl) (.inr hI) (fun _ => r_mv hA rfl) rfl fun a hA => ?_
            obtain ⟨_, hsl4⟩ := Slc.sv hx1
            refine g_easy (i := 9) hA rfl (wanted_yes hA rfl rfl hc50) (by kernel_rfl) (.inr hI) (fun _ => r_slen Try.underlying22 hsl4 hA rfl) rfl fun a hA => ?_
            refine g_easy (i := 10) hA rfl (wanted_yes hA rfl rfl hc50) (by kernel_rfl) (.inr hI) (fun _ => r_sub hA rfl rfl) rfl fun a hA => ?_
            obtain ⟨hb1, H⟩ := bG H
            obtain ⟨v1, hS1, hr2⟩ := r_sl (P := Try.prog) (t := 22) (x := .tmp 30) (l := (some (.tmp 33))) (h := none) (i := IntKind.i64.wrap ((x1.length : Int) - 11)) (j := (x1.length : Int)) Try.underlying22 sz24 hx1 hA rfl rfl rfl (by have hq := hb1; omega) (by have hq := hb1; omega) (by have hq := hb1; omega)
            refine g_easy (i := 11) hA rfl (wanted_yes hA rfl rfl hc50) (by kernel_rfl) (.inr hI) (fun _ => hr2 _ _ _ _ _ _) rfl fun a hA => ?_
            refine g_forced (i := 3) rfl (by kernel_rfl) ?_
            refine o_yes hA rfl rfl hc50 <| ?_
            obtain ⟨r2, hr3, H⟩ := bB H
            refine o_call _ cf8 hA rfl (sargassoref_Halves.c μ _ hI.agr x0 u0 hx0 r2 hr3) rfl fun v2 a w hz4 hA => ?_
            obtain ⟨_, cs1, rfl, hE1, hi1⟩ := hz4
            have hI := hI.call hi1
            refine o_nil ?_
            refine ⟨(.inr (hI.sel [] (by decide) rfl)), ?_⟩
            refine g_forced (i := 5) rfl (by kernel_rfl) ?_
            refine o_yes hA rfl rfl hc50 <| ?_
            obtain ⟨cs2, hE2, hsv1⟩ : Slc (RI .u32) 1 μ u1 x1 := id (hx1)
            obtain ⟨hb2, H⟩ := bG H
            have hE3 := hE1.app hE2
            refine o_appL (xs := (r2 : List Int)) (ys := (x1 : List Int)) (j := 0) te24 Try.underlying22 hI rfl hA rfl rfl (src_sl hI.agr hsv1 hE2.len) hE2.len (hE2.ones (one_RI _)) (by first | decide | (have hq := hb2; (try simp only [List.length_cons, List.length_nil] at hq); (try simp only [List.length_cons, List.length_nil]); (try simp only [maxLen]); omega)) (by first | decide | (have hq := hb2; (try simp only [List.length_cons, List.length_nil] at hq); (try simp only [List.length_cons, List.length_nil]); (try simp only [maxLen]); omega)) rfl fun v3 a w hA hI => ?_
            refine o_nil ?_
            refine ⟨(.inr (hI.sel [] (by decide) rfl)), ?_⟩
            refine g_forced (i := 6) rfl (by kernel_rfl) ?_
            refine o_yes hA rfl rfl hc50 <| ?_
            obtain ⟨r3, hr4, H⟩ := bB H
            refine o_callp (u := .int .u32 r3) cf6 hA rfl hI ((by obtain ⟨μ1, hle1, hsv2, hI⟩ := hI.freezeRow 0 rfl; have hS2 : Slc (RI .u32) 1 μ1 v3 (r2 ++ x1) := ⟨_, hE3, hsv2⟩; exact low_plain hle1 (past_Median.c μ1 _ hI.agr (r2 ++ x1) v3 hS2 r3 hr4))) rfl fun a w hz5 hI hA => ?_
            refine o_nil ?_
            refine ⟨(.inr (hI.sel [] (by decide) rfl)), ?_⟩
            refine g_forced (i := 12) rfl (by kernel_rfl) ?_
            refine o_yes hA rfl rfl hc50 <| ?_
            obtain ⟨r4, hr5, H⟩ := bB H
            refine o_callp (u := .int .u32 r4) cf6 hA rfl hI (past_Median.c μ _ hI.agr ((x1.take ((x1.length : Int)).toNat).drop (IntKind.i64.wrap ((x1.length : Int) - 11)).toNat) v1 hS1 r4 hr5) rfl fun a w hz6 hI hA => ?_
            refine o_nil ?_
            refine ⟨(.inr (hI.sel [] (by decide) rfl)), ?_⟩
            refine g_easy (i := 13) hA rfl (wanted_yes hA rfl rfl hc50) (by kernel_rfl) (.inr (hI.sel [] (by decide) rfl)) (fun _ => r_eql hA rfl rfl) rfl fun a hA => ?_
            refine g_easy (i := 14) hA rfl rfl (by kernel_rfl) (.inr (hI.sel [] (by decide) rfl)) (fun _ => r_pick_t hA rfl hc50 rfl) rfl fun a hA => ?_
            refine g_easy (i := 15) hA rfl rfl (by kernel_rfl) (.inr (hI.sel [] (by decide) rfl)) (fun _ => r_as hA rfl) rfl fun a hA => ?_
            refine g_nil (by kernel_rfl) ?_
            cases Option.some.inj (bS H)
            exact ⟨hA.sub ⟨rfl, rfl, rfl, rfl, rfl, rfl, trivial⟩, (hI.sel [] (by decide) rfl)⟩
          · have hc50 := hc5; have hc5 := ft hc5; have H := bF H hc5
            refine g_skip (i := 2) hA rfl (wanted_no hA rfl rfl (by rw [hc50]; simp [vb])) (by kernel_rfl) (.inr hI) rfl fun a hA => ?_
            refine g_skip (i := 4) hA rfl (wanted_no hA rfl rfl (by rw [hc50]; simp [vb])) (by kernel_rfl) (.inr hI) rfl fun a hA => ?_
            refine g_skip (i := 7) hA rfl (wanted_no hA rfl rfl (by rw [hc50]; simp [vb])) (by kernel_rfl) (.inr hI) rfl fun a hA => ?_
            refine g_skip (i := 8) hA rfl (wanted_no hA rfl rfl (by rw [hc50]; simp [vb])) (by kernel_rfl) (.inr hI) rfl fun a hA => ?_
            refine g_skip (i := 9) hA rfl (wanted_no hA rfl rfl (by rw [hc50]; simp [vb])) (by kernel_rfl) (.inr hI) rfl fun a hA => ?_
            refine g_skip (i := 10) hA rfl (wanted_no hA rfl rfl (by rw [hc50]; simp [vb])) (by kernel_rfl) (.inr hI) rfl fun a hA => ?_
            refine g_skip (i := 11) hA rfl (wanted_no hA rfl rfl (by rw [hc50]; simp [vb])) (by kernel_rfl) (.inr hI) rfl fun a hA => ?_
            refine g_skip (i := 3) hA rfl (wanted_no hA rfl rfl (by rw [hc50]; simp [vb])) (by kernel_rfl) (.inr hI) rfl fun a hA => ?_
            refine g_skip (i := 5) hA rfl (wanted_no hA rfl rfl (by rw [hc50]; simp [vb])) (by kernel_rfl) (.inr hI) rfl fun a hA => ?_
            refine g_skip (i := 6) hA rfl (wanted_no hA rfl rfl (by rw [hc50]; simp [vb])) (by kernel_rfl) (.inr hI) rfl fun a hA => ?_
            refine g_skip (i := 12) hA rfl (wanted_no hA rfl rfl (by rw [hc50]; simp [vb])) (by kernel_rfl) (.inr hI) rfl fun a hA => ?_
            refine g_skip (i := 13) hA rfl (wanted_no hA rfl rfl (by rw [hc50]; simp [vb])) (by kernel_rfl) (.inr hI) rfl fun a hA => ?_
            refine g_easy (i := 14) hA rfl rfl (by kernel_rfl) (.inr hI) (fun _ => r_pick_f hA rfl hc50 rfl) rfl fun a hA => ?_
            refine g_easy (i := 15) hA rfl rfl (by kernel_rfl) (.inr hI) (fun _ => r_as hA rfl) rfl fun a hA => ?_
            refine g_nil (by kernel_rfl) ?_
            cases Option.some.inj (bS H)
            exact ⟨hA.sub ⟨rfl, rfl, rfl, rfl, rfl, rfl, trivial⟩, hI⟩
        · rintro a w ⟨hA, hI⟩
          have H := Hk2
          refine w_ret ?_
          obtain rfl := Option.some.inj (bS H)
          exact ret1 hA Try.results4 rfl ⟨_, rfl, rfl, trivial, hI.forget0⟩
end Go.Proofs.Ytlpggofilkfbnaa.T
namespace Go.Proofs.Ytlpggofilkfbnaa.T
open Go Go.Proofs Go.Proofs.Ytlpggofilkfbnaa.K
set_option linter.unusedVariables false
theorem w64 {x : Int} (h0 : -9223372036854775808 ≤ x) (h1 : x < 9223372036854775808) : IntKind.i64.wrap x = x := wrap_id ⟨h0, h1⟩
end Go.Proofs.Ytlpggofilkfbnaa.T
namespace Go.Proofs.Ytlpggofilkfbnaa.T
open Go Go.Proofs Go.Proofs.Ytlpggofilkfbnaa.K
set_option linter.unusedVariables false
set_option linter.unusedSimpArgs false
theorem loop_idx {τ ρ : Type} {step : τ → Option (τ ⊕ ρ)} (st : Nat → τ) (n : Nat) (h : ∀ i, i < n → step (st i) = some (.inl (st (i + 1)))) : loopO step (st 0) = loopO step (st n) := by
  induction n with
  | zero => rfl
  | succ n ih => rw [ih (fun i hi => h i (by omega)), loopO_inl (h n (by omega))]
theorem loop_run {τ ρ : Type} {step : τ → Option (τ ⊕ ρ)} (st : Nat → τ) (n : Nat) {r : ρ} {s : τ} (h0 : s = st 0) (h : ∀ i, i < n → step (st i) = some (.inl (st (i + 1)))) (hn : step (st n) = some (.inr r)) : loopO step s = some r := by
  rw [h0, loop_idx st n h, loopO_inr hn]
end Go.Proofs.Ytlpggofilkfbnaa.T
namespace Go.Proofs.Ytlpggofilkfbnaa.T
open Go Go.Proofs Go.Proofs.Ytlpggofilkfbnaa.K
set_option linter.unusedVariables false
set_option linter.unusedSimpArgs false
theorem winc (i : Nat) (hi : i < 9223372036854775807) : IntKind.i64.wrap ((i : Int) + 1) = ((i + 1 : Nat) : Int) := by
  rw [w64 (by omega) (by omega)]; omega
theorem take_next {α : Type} (xs : List α) (i : Nat) (d : α) (h : i < xs.length) : xs.take i ++ [xs.getD i d] = xs.take (i + 1) := by
  rw [List.take_add_one]
  simp [List.getD, h]
end Go.Proofs.Ytlpggofilkfbnaa.T
namespace Go.Proofs.Ytlpggofilkfbnaa.T
open Go Go.Proofs Go.Proofs.Ytlpggofilkfbnaa.K
set_option linter.unusedVariables false
set_option linter.unusedSimpArgs false
def gt (l : List Int) (i : Nat) : Int := l.getD i 0
theorem gt_at (l : List Int) {i : Nat} (h : i < l.length) : gt l i = l[i] := by simp [gt, List.getD, h]
def SrtTo (l : List Int) (n : Nat) : Prop := ∀ p q, p < q → q < n → gt l p ≤ gt l q
def Same (l x : List Int) : Prop := l.length = x.length ∧ ∀ P : Int → Bool, l.countP P = x.countP P
theorem Same.refl (l : List Int) : Same l l := ⟨rfl, fun _ => rfl⟩
theorem Same.trans {a b c : List Int} (h : Same a b) (k : Same b c) : Same a c := ⟨h.1.trans k.1, fun P => (h.2 P).trans (k.2 P)⟩
theorem Same.symm {a b : List Int} (h : Same a b) : Same b a := ⟨h.1.symm, fun P => (h.2 P).symm⟩
def swp (l : List Int) (j : Nat) : List Int := (l.set j (gt l (j - 1))).set (j - 1) (gt l j)
theorem gt_set (l : List Int) (i j : Nat) (a : Int) (h : i < l.length) : gt (l.set i a) j = if i = j then a else gt l j := by
  unfold gt
  by_cases e : i = j
  · subst e
    rw [if_pos rfl]
    simp [List.getD, h]
  · rw [if_neg e]
    simp [List.getD, List.getElem?_set, e]
theorem gt_swp (l : List Int) (j : Nat) (h0 : 0 < j) (h : j < l.length) (q : Nat) : gt (swp l j) q = if q = j then gt l (j - 1) else if q = j - 1 then gt l j else gt l q := by
  unfold swp
  rw [gt_set _ _ _ _ (by simp; omega), gt_set _ _ _ _ h]
  by_cases e1 : q = j
  · rw [if_neg (by omega), if_pos (by omega), if_pos e1]
  · rw [if_neg e1]
    by_cases e2 : q = j - 1
    · rw [if_pos (by omega), if_pos e2]
    · rw [if_neg (by omega), if_neg (by omega), if_neg e2]
theorem count_set (P : Int → Bool) : ∀ (l : List Int) (i : Nat) (a : Int), i < l.length → (l.set i a).countP P + (if P (gt l i) then 1 else 0) = l.countP P + (if P a then 1 else 0)
  | [], i, a, h => by simp at h
  | x :: l, 0, a, h => by
    simp only [List.set_cons_zero, List.countP_cons]
    show _ + (if P x = true then 1 else 0) = _
    omega
  | x :: l, i + 1, a, h => by
    have := count_set P l i a (by simpa using h)
    simp only [List.set_cons_succ, List.countP_cons]
    show _ + (if P (gt l i) = true then 1 else 0) = _
    omega
theorem same_swp (l : List Int) (j : Nat) (h0 : 0 < j) (h : j < l.length) : Same (swp l j) l := by
  refine ⟨by simp [swp], fun P => ?_⟩
  have h1 := count_set P l j (gt l (j - 1)) h
  have h2 := count_set P (l.set j (gt l (j - 1))) (j - 1) (gt l j) (by simp; omega)
  rw [gt_set _ _ (j - 1) _ h, if_neg (show ¬ j = j - 1 by omega)] at h2
  show ((l.set j (gt l (j - 1))).set (j - 1) (gt l j)).countP P = l.countP P
  generalize (if P (gt l j) = true then 1 else 0) = a at *
  generalize (if P (gt l (j - 1)) = true then 1 else 0) = b at *
  omega
theorem less_eq' (a b : Int) : cmp_Less_uint32.f a b = some (decide (a < b)) := by
  simp [cmp_Less_uint32.f, cmp_isNaN_uint32.f]
theorem ins_inner (i : Nat) : ∀ (j : Nat) (l : List Int), i < l.length → l.length ≤ 1000 → j ≤ i → (∀ p q, p < q → q ≤ i → q ≠ j → gt l p ≤ gt l q) →
    ∃ l', loopO (slices_insertionSortOrdered_uint32.s1 0) ((j : Int), l) = some l' ∧ Same l' l ∧ SrtTo l' (i + 1) := by
  intro j
  induction j with
  | zero =>
    intro l hi hl hj h
    refine ⟨l, loopO_inr ?_, Same.refl l, fun p q h1 h2 => h p q h1 (by omega) (by omega)⟩
    simp [slices_insertionSortOrdered_uint32.s1]
  | succ j ih =>
    intro l hi hl hj h
    have hw : IntKind.i64.wrap (((j + 1 : Nat) : Int) - 1) = (j : Int) := by rw [w64 (by omega) (by omega)]; omega
    have hs : slices_insertionSortOrdered_uint32.s1 0 (((j + 1 : Nat) : Int), l) = if gt l (j + 1) < gt l j then some (.inl ((j : Int), swp l (j + 1))) else some (.inr l) := by
      simp only [slices_insertionSortOrdered_uint32.s1, hw, Int.toNat_natCast]
      rw [if_pos (by omega), if_pos (by omega), if_pos (by omega), less_eq', Option.bind_some, Option.bind_some, show l.getD (j + 1) 0 = gt l (j + 1) from rfl, show l.getD j 0 = gt l j from rfl]
      by_cases c : gt l (j + 1) < gt l j
      · rw [if_pos (decide_eq_true c), if_pos (by omega), if_pos (by omega), if_pos c]
        rfl
      · rw [if_neg (by simp only [decide_eq_true_eq]; exact c), if_neg c]
    by_cases c : gt l (j + 1) < gt l j
    · rw [if_pos c] at hs
      have hsw := same_swp l (j + 1) (by omega) (by omega)
      have hg := gt_swp l (j + 1) (by omega) (by omega)
      rw [show j + 1 - 1 = j by omega] at hg
      obtain ⟨l', e1, e2, e3⟩ := ih (swp l (j + 1)) (by rw [hsw.1]; exact hi) (by rw [hsw.1]; exact hl) (by omega) (fun p q h1 h2 h3 => by
        rw [hg, hg]
        by_cases q1 : q = j + 1
        · rw [if_pos q1, if_neg (show ¬ p = j + 1 by omega)]
          by_cases p1 : p = j
          · rw [if_pos p1]; omega
          · rw [if_neg p1]
            exact h p j (by omega) (by omega) (by omega)
        · rw [if_neg q1, if_neg h3]
          by_cases p1 : p = j + 1
          · rw [if_pos p1]
            exact h j q (by omega) h2 q1
          · rw [if_neg p1]
            by_cases p2 : p = j
            · rw [if_pos p2]
              exact h (j + 1) q (by omega) h2 q1
            · rw [if_neg p2]
              exact h p q h1 h2 q1)
      exact ⟨l', by rw [loopO_inl hs]; exact e1, e2.trans hsw, e3⟩
    · rw [if_neg c] at hs
      refine ⟨l, loopO_inr hs, Same.refl l, fun p q h1 h2 => ?_⟩
      by_cases q1 : q = j + 1
      · subst q1
        by_cases p1 : p = j
        · subst p1; omega
        · have := h p j (by omega) (by omega) (by omega)
          omega
      · exact h p q h1 (by omega) q1
theorem ins_outer (n : Nat) : ∀ (m i : Nat) (l : List Int), m + i = n → 1 ≤ i → l.length = n → n ≤ 1000 → SrtTo l i →
    ∃ l', loopO (slices_insertionSortOrdered_uint32.s0 0 (n : Int)) ((i : Int), l) = some l' ∧ Same l' l ∧ SrtTo l' n := by
  intro m
  induction m with
  | zero =>
    intro i l e h1 hl hn hs
    obtain rfl : i = n := by omega
    exact ⟨l, loopO_inr (by simp only [slices_insertionSortOrdered_uint32.s0]; rw [if_neg (by omega)]), Same.refl l, hs⟩
  | succ m ih =>
    intro i l e h1 hl hn hs
    obtain ⟨l1, e1, e2, e3⟩ := ins_inner i i l (by omega) (by omega) (Nat.le_refl _) (fun p q a b c => hs p q a (by omega))
    obtain ⟨l', f1, f2, f3⟩ := ih (i + 1) l1 (by omega) (by omega) (by rw [e2.1]; exact hl) hn e3
    refine ⟨l', ?_, f2.trans e2, f3⟩
    rw [loopO_inl (s' := (((i + 1 : Nat) : Int), l1)) (by
      simp only [slices_insertionSortOrdered_uint32.s0]
      rw [if_pos (by omega), e1, Option.bind_some, winc i (by omega)])]
    exact f1
theorem ins_eq (x : List Int) (h : x.length ≤ 12) : ∃ l, slices_insertionSortOrdered_uint32.f x 0 (x.length : Int) = some l ∧ Same l x ∧ SrtTo l x.length := by
  simp only [slices_insertionSortOrdered_uint32.f]
  rw [show IntKind.i64.wrap (0 + 1) = ((1 : Nat) : Int) from rfl]
  by_cases c : x.length = 0
  · refine ⟨x, loopO_inr ?_, Same.refl x, fun p q h1 h2 => by omega⟩
    simp only [slices_insertionSortOrdered_uint32.s0]
    rw [if_neg (by omega)]
  · exact ins_outer x.length (x.length - 1) 1 x (by omega) (Nat.le_refl _) rfl (by omega) (fun p q h1 h2 => by omega)
theorem len_some : ∀ n : Nat, n < 13 → ((math_bits_Len.f (IntKind.u64.wrap (n : Int))).isSome = true) := by decide +kernel
theorem sort_eq (x : List Int) (h : x.length ≤ 12) : ∃ l, slices_Sort_uint32_uint32.f x = some l ∧ Same l x ∧ SrtTo l x.length := by
  obtain ⟨l, e1, e2, e3⟩ := ins_eq x h
  obtain ⟨r, er⟩ := Option.isSome_iff_exists.1 (len_some x.length (by omega))
  refine ⟨l, ?_, e2, e3⟩
  simp only [slices_Sort_uint32_uint32.f, slices_pdqsortOrdered_uint32.f]
  rw [er, Option.bind_some, loopO_inr (r := l) (by
    simp only [slices_pdqsortOrdered_uint32.s0]
    rw [w64 (by omega) (by omega), if_pos (by omega), e1, Option.bind_some])]
  rfl
theorem rank : ∀ (l : List Int), SrtTo l l.length → ∀ (q : Nat) (v : Int), q < l.length → (gt l q ≤ v ↔ q < l.countP (fun x => decide (x ≤ v)))
  | [], _, q, v, h => by simp at h
  | x :: l, hs, q, v, h => by
    have hs' : SrtTo l l.length := fun p q a b => by
      have := hs (p + 1) (q + 1) (by omega) (by simp; omega)
      exact this
    have hx : ∀ y ∈ l, x ≤ y := fun y hy => by
      obtain ⟨i, hi, rfl⟩ := List.getElem_of_mem hy
      have := hs 0 (i + 1) (by omega) (by simp; omega)
      have e : gt (x :: l) (i + 1) = l[i] := by
        show gt l i = _
        exact gt_at l hi
      rw [e] at this
      exact this
    rw [List.countP_cons]
    by_cases c : x ≤ v
    · rw [if_pos (by simpa using c)]
      cases q with
      | zero => exact ⟨fun _ => by omega, fun _ => c⟩
      | succ q =>
        have := rank l hs' q v (by simpa using h)
        show gt l q ≤ v ↔ _
        rw [this]; omega
    · rw [if_neg (by simpa using c)]
      have h0 : l.countP (fun x => decide (x ≤ v)) = 0 := by
        rw [List.countP_eq_zero]
        intro y hy
        have := hx y hy
        simp only [decide_eq_true_eq]
        omega
      rw [h0]
      refine ⟨fun h1 => ?_, fun h1 => by omega⟩
      cases q with
      | zero => exact absurd h1 c
      | succ q =>
        have h2 : gt l q ≤ v := h1
        have hq : q < l.length := by simpa using h
        rw [gt_at l hq] at h2
        have := hx _ (List.getElem_mem hq)
        omega
theorem sorted_one {a b : List Int} (ha : SrtTo a a.length) (hb : SrtTo b b.length) (h : Same a b) (q : Nat) (hq : q < a.length) : gt a q = gt b q := by
  have r1 := rank a ha q (gt b q) hq
  have r2 := rank b hb q (gt a q) (by rw [← h.1]; exact hq)
  have r3 := rank a ha q (gt a q) hq
  have r4 := rank b hb q (gt b q) (by rw [← h.1]; exact hq)
  rw [h.2] at r1 r3
  have k1 := r1.2 (r4.1 (Int.le_refl _))
  have k2 := r2.2 (r3.1 (Int.le_refl _))
  omega
def lst (x : List Int) : List Int := x.drop (x.length - 11)
theorem lst_len (x : List Int) : (lst x).length ≤ 11 ∧ (x ≠ [] → 0 < (lst x).length) := by
  unfold lst
  rw [List.length_drop]
  refine ⟨by omega, fun h => ?_⟩
  have := List.length_pos_iff.2 h
  omega
theorem median_eq (x : List Int) (h : x ≠ []) (hl : x.length ≤ 1000000) : ∃ l, past_Median.f x = some (gt l (l.length / 2)) ∧ Same l (lst x) ∧ SrtTo l l.length ∧ slices_Sort_uint32_uint32.f (lst x) = some l := by
  have h1 := List.length_pos_iff.2 h
  obtain ⟨hb, hp⟩ := lst_len x
  obtain ⟨l, e1, e2, e3⟩ := sort_eq (lst x) (by omega)
  have hp := hp h
  refine ⟨l, ?_, e2, by rw [e2.1]; exact e3, e1⟩
  simp only [past_Median.f, slices_Clone_uint32_uint32.f]
  have hm : iMax (IntKind.i64.wrap ((x.length : Int) - 11)) 0 = ((x.length - 11 : Nat) : Int) := by
    rw [w64 (by omega) (by omega)]
    unfold iMax
    split <;> omega
  rw [if_neg (by omega), hm, if_pos (by omega), Int.toNat_natCast, Int.toNat_natCast, List.take_length, show x.drop (x.length - 11) = lst x from rfl, if_pos (by omega), Option.bind_some, e1, Option.bind_some]
  have hd : IntKind.i64.wrap (Int.tdiv (l.length : Int) 2) = ((l.length / 2 : Nat) : Int) := by
    have := e2.1
    rw [Int.tdiv_eq_ediv_of_nonneg (by omega), w64 (by omega) (by omega)]
    omega
  have := e2.1
  rw [hd, if_pos (by omega), Int.toNat_natCast]
  rfl
theorem median_nil : past_Median.f [] = some 0 := by simp [past_Median.f]
theorem median_at {x l : List Int} (h : x ≠ []) (hl : x.length ≤ 1000000) (k : Same l (lst x)) (hs : SrtTo l l.length) : past_Median.f x = some (gt l (l.length / 2)) := by
  obtain ⟨a, e1, e2, e3, _⟩ := median_eq x h hl
  have hp := (lst_len x).2 h
  have hab : Same a l := e2.trans k.symm
  rw [e1, sorted_one e3 hs hab _ (by have := e2.1; omega), hab.1]
theorem first12 : sargassolaw12_first.f = some true := by
  have h : past_Median.f [3, 1, 2] = some 2 := by
    have := median_at (x := [3, 1, 2]) (l := [1, 2, 3]) (by simp) (by simp) ⟨rfl, fun P => by
      show List.countP P [1, 2, 3] = List.countP P [3, 1, 2]
      simp only [List.countP_cons, List.countP_nil]
      omega⟩ (fun p q h1 h2 => by
      have h2 : q < 3 := h2
      have : (p = 0 ∧ q = 1) ∨ (p = 0 ∧ q = 2) ∨ (p = 1 ∧ q = 2) := by omega
      rcases this with ⟨rfl, rfl⟩ | ⟨rfl, rfl⟩ | ⟨rfl, rfl⟩ <;> decide)
    exact this
  simp only [sargassolaw12_first.f]
  rw [h, Option.bind_some, if_pos rfl, median_nil]
  rfl
theorem halves_eq (x : List Int) (h : x.length ≤ 1000000) : sargassoref_Halves.f x = some x := by
  simp only [sargassoref_Halves.f]
  rw [if_pos (by omega), show List.replicate (0 : Int).toNat (0 : Int) = [] from rfl, show loopO (sargassoref_Halves.s0 x) ([], 0) = some x from loop_run (step := sargassoref_Halves.s0 x) (fun i => (x.take i, (i : Int))) x.length rfl (fun i hi => by
    simp only [sargassoref_Halves.s0, Int.toNat_natCast]
    rw [if_pos (by omega), if_pos (by omega), if_pos (by simp; omega), winc i (by omega), take_next x i 0 hi]) (by simp only [sargassoref_Halves.s0]; rw [if_neg (by omega), List.take_length])]
  rfl
end Go.Proofs.Ytlpggofilkfbnaa.T
namespace Go.Proofs.Ytlpggofilkfbnaa.T
open Go Go.Proofs Go.Proofs.Ytlpggofilkfbnaa.K
set_option linter.unusedVariables false
set_option linter.unusedSimpArgs false
theorem sargassolaw12_PastLast.m (μ : Store) (x0 : List Int) (u0 : Value) (h0 : Slc (RI .u32) 1 μ u0 x0) (x1 : List Int) (u1 : Value) (h1 : Slc (RI .u32) 1 μ u1 x1) : sargassolaw12_PastLast.f x0 x1 = some true := by
  simp only [sargassolaw12_PastLast.f]
  rw [first12, Option.bind_some, if_pos rfl]
  by_cases c1 : 30 < x0.length
  · rw [if_pos (by omega), Option.bind_some, if_pos rfl]
  rw [if_neg (by omega)]
  by_cases c2 : x1.length < 11
  · rw [if_pos (by omega), Option.bind_some, if_pos rfl]
  rw [if_neg (by omega)]
  by_cases c3 : 30 < x1.length
  · rw [decide_eq_true (by omega), Option.bind_some, if_pos rfl]
  have hw : IntKind.i64.wrap ((x1.length : Int) - 11) = ((x1.length - 11 : Nat) : Int) := by rw [w64 (by omega) (by omega)]; omega
  rw [decide_eq_false (by omega), Option.bind_some, if_neg (by decide), if_pos rfl, hw, if_pos (by omega), halves_eq _ (by omega), Option.bind_some, if_pos (by omega), Int.toNat_natCast, Int.toNat_natCast, List.take_length]
  have hne : x0 ++ x1 ≠ [] := fun e => by
    have := congrArg List.length e
    rw [List.length_append, List.length_nil] at this; omega
  obtain ⟨l, e1, e2, e3, _⟩ := median_eq (x0 ++ x1) hne (by rw [List.length_append]; omega)
  have hc : lst (x0 ++ x1) = x1.drop (x1.length - 11) := by
    unfold lst
    rw [List.length_append, List.drop_append, List.drop_of_length_le (l := x0) (by omega), List.nil_append, show x0.length + x1.length - 11 - x0.length = x1.length - 11 by omega]
  have hd : lst (x1.drop (x1.length - 11)) = x1.drop (x1.length - 11) := by
    unfold lst
    rw [List.length_drop, show x1.length - (x1.length - 11) - 11 = 0 by omega, List.drop_zero]
  rw [hc] at e2
  have h2 := median_at (x := x1.drop (x1.length - 11)) (l := l) (fun e => by
    have := congrArg List.length e
    rw [List.length_drop, List.length_nil] at this; omega) (by rw [List.length_drop]; omega) (by rw [hd]; exact e2) e3
  rw [e1, Option.bind_some, h2, Option.bind_some, Option.bind_some, decide_eq_true rfl]
end Go.Proofs.Ytlpggofilkfbnaa.T
namespace Go.Proofs.Ytlpggofilkfbnaa.K
open Go Go.Proofs Go.ChangeShapes Go.WideShapes Go.RowKit
def mem (w : World) : Store := fun k => w.heap[k]?
theorem agr_mem (w : World) : Agr (mem w) w := fun _ _ h => h
theorem mem_cell {w : World} {g i : Nat} {v : Value} (h : w.cell? ⟨g, i, none⟩ = some v) : (mem w).cell g i = some v := by
  unfold World.cell? at h
  unfold Store.cell mem
  cases hm : w.heap[g]? with
  | none => simp [hm] at h
  | some o => cases o <;> simp_all
theorem wf_in {k : IntKind} {n : Int} (h : (Lit.int k n).wf = true) : InR k n := by
  cases k <;> simp [Lit.wf, IntKind.min, IntKind.max, IntKind.signed, IntKind.bits] at h <;> simp [InR] <;> omega
section
variable {H : Type} {enc : TypeId × Value → H} {P : Program} {w : World} {base : Nat} {spare : Nat → Bool} {held : Bool} {t e : TypeId}
def Rd (enc : TypeId × Value → H) (P : Program) (w : World) (base : Nat) (spare : Nat → Bool) (held : Bool) (t : TypeId) (R : List Value → Prop) : Prop :=
  ∀ fuel cs x, DataW.trod enc P w base spare held fuel t cs = some x → R cs
theorem rd_int {k : IntKind} (ht : P.underlying t = some (.int k)) : Rd enc P w base spare held t (fun c => ∃ n, RI k n c) := by
  intro fuel cs x h
  obtain ⟨n, rfl, _, hw⟩ := DataW.trod_int ht h
  exact ⟨n, rfl, wf_in hw⟩
theorem els_of {α : Type} {RE : α → List Value → Prop} {sz : Nat} : ∀ {n : Nat} {Q : Nat → Value → Prop}, (∀ i, i < n → ∃ x c, RE x c ∧ c.length = sz ∧ ∀ j v, c[j]? = some v → Q (i * sz + j) v) →
    ∃ xs cs, xs.length = n ∧ Els RE sz xs cs ∧ ∀ j v, cs[j]? = some v → Q j v
  | 0, _, _ => ⟨[], [], rfl, .nil, fun j v h => by simp at h⟩
  | n + 1, Q, f => by
    obtain ⟨x, c, h1, h2, h3⟩ := f 0 (by omega)
    obtain ⟨xs, cs, e1, e2, e3⟩ := els_of (n := n) (Q := fun m v => Q (sz + m) v) (fun i hi => by
      obtain ⟨x, c, h1, h2, h3⟩ := f (i + 1) (by omega)
      refine ⟨x, c, h1, h2, fun j v hj => ?_⟩
      have := h3 j v hj
      rwa [Nat.add_mul, Nat.one_mul, Nat.add_comm (i * sz), Nat.add_assoc] at this)
    refine ⟨x :: xs, c ++ cs, by simp [e1], .cons h1 h2 e2, fun j v hj => ?_⟩
    rcases Nat.lt_or_ge j c.length with h | h
    · rw [List.getElem?_append_left h] at hj
      simpa using h3 j v hj
    · rw [List.getElem?_append_right h] at hj
      have := e3 _ _ hj
      rwa [h2, Nat.add_sub_cancel' (by omega)] at this
theorem rd_slice {α : Type} {RE : α → List Value → Prop} {sz : Nat} (ht : P.underlying t = some (.slice e)) (hc : P.cellsOf e = sz) (h0 : 0 < sz) (hr : Rd enc P w base spare held e (fun c => ∃ x, RE x c)) :
    Rd enc P w base spare held t (fun c => ∃ v xs, c = [v] ∧ Slc RE sz (mem w) v xs) := by
  intro fuel cs x h
  rcases DataW.trod_slice ht h with ⟨rfl, _⟩ | ⟨a, len, cap, elems, rest, n, _, rfl, _, _, hl, hm, hlen, hel, _, _⟩
  · exact ⟨_, [], rfl, [], .nil, none, 0, rfl, Nat.le_refl _, Nat.zero_le _, fun h => absurd rfl h, fun h => absurd rfl h⟩
  have each0 : ∀ i, i < len → ∃ x c, RE x c ∧ c.length = sz ∧ ∀ j, j < sz → w.cell? ((a.add (i * sz)).add j) = c[j]? := by
    intro i hi
    have h1 := hel i hi
    rw [List.getElem?_eq_getElem (by omega), hc] at h1
    obtain ⟨c, hc1, hc2⟩ := Option.bind_eq_some_iff.1 h1
    obtain ⟨_, l1, l2⟩ := World.cells?_some hc1
    obtain ⟨x, hx⟩ := hr _ _ _ hc2
    exact ⟨x, c, hx, l1, l2⟩
  have hs : 0 < len → a.spot = none := by
    intro hp
    obtain ⟨x, c, _, l1, l2⟩ := each0 0 hp
    have h2 := (l2 0 h0).trans (List.getElem?_eq_getElem (by omega))
    simpa [Addr.add] using World.cell?_spot h2
  obtain ⟨b, off, spot⟩ := a
  simp only at hs
  have each : ∀ i, i < len → ∃ x c, RE x c ∧ c.length = sz ∧ ∀ j v, c[j]? = some v → (fun m v => w.cell? ⟨b, off + m, none⟩ = some v) (i * sz + j) v := by
    intro i hi
    obtain ⟨x, c, hx, l1, l2⟩ := each0 i hi
    refine ⟨x, c, hx, l1, fun j v hj => ?_⟩
    have hjl : j < sz := by
      have := (List.getElem?_eq_some_iff.1 hj).1
      omega
    have h2 := (l2 j hjl).trans hj
    rw [hs (by omega), add_plain, add_plain] at h2
    simpa [Nat.add_assoc] using h2
  obtain ⟨xs, cs, e1, e2, e3⟩ := els_of (RE := RE) (sz := sz) (Q := fun m v => w.cell? ⟨b, off + m, none⟩ = some v) each
  refine ⟨_, xs, rfl, cs, e2, some ⟨b, off, spot⟩, cap, by rw [e1], by omega, hm, fun hn => by rw [hs (by omega)]; rfl, fun hn j v hj => mem_cell (e3 j v hj)⟩
theorem rd_at {R : List Value → Prop} {v : Value} {d : DataW H} {ps : List MemPlace} (hr : Rd enc P w base spare held t R) (h : DataW.Trod enc P w base spare held t v d ps) : R v.cells.toList := by
  obtain ⟨fuel, hf⟩ := h
  exact hr _ _ _ hf
theorem at_slice {α : Type} {RE : α → List Value → Prop} {sz : Nat} {r : Reach} {b0 : Nat} {v : Value} {d : DataW H} {ps : List MemPlace} (ht : P.underlying t = some (.slice e)) (hval : Value.okWide P w r b0 t v)
    (hr : Rd enc P w base spare held t (fun c => ∃ v xs, c = [v] ∧ Slc RE sz (mem w) v xs)) (h : DataW.Trod enc P w base spare held t v d ps) : ∃ xs, Slc RE sz (mem w) v xs := by
  obtain ⟨a, len, cap, rfl⟩ := okWide_slice ht hval
  obtain ⟨u, xs, e1, h2⟩ := rd_at hr h
  simp [Value.cells] at e1
  subst e1
  exact ⟨xs, h2⟩
theorem again {W W' : World} {v : Value} {d : DataW H} {ps : List MemPlace} (hl : laidOutB P = true) (hr : P.readableRec t = true) (hrow : t < P.types.size) (h : DataW.Trod enc P W 0 (fun _ => true) true t v d ps) (hb : Below W.heap.size W W') :
    DataW.Trod enc P W' 0 (fun b => decide (b < W.heap.size)) true t v d ps :=
  Below.trod hl hr hrow h hb (fun p hp => let ⟨n, hn⟩ := h; DataW.trod_lt n _ _ _ hn p hp)
end
end Go.Proofs.Ytlpggofilkfbnaa.K
namespace Go.Proofs.Ytlpggofilkfbnaa.T
open Go Go.Proofs Go.Proofs.Ytlpggofilkfbnaa.K
set_option linter.unusedVariables false
set_option linter.unusedSimpArgs false
theorem laid : laidOutB Try.prog = true := by kernel_rfl
theorem cl24 : Try.prog.cellsOf 24 = 1 := by kernel_rfl
theorem rr22 : Try.prog.readableRec 22 = true := by kernel_rfl
theorem tr22 : 22 < Try.prog.types.size := of_decide_eq_true (by kernel_rfl)
section
variable {H : Type} {enc : TypeId × Value → H} {w : World} {base : Nat} {spare : Nat → Bool} {held : Bool}
theorem rd24 : Rd enc Try.prog w base spare held 24 (fun c => ∃ n, RI .u32 n c) := rd_int Try.underlying24
theorem rd22 : Rd enc Try.prog w base spare held 22 (fun c => ∃ v xs, c = [v] ∧ Slc (RI .u32) 1 (mem w) v xs) := rd_slice Try.underlying22 cl24 (by decide) rd24
end
end Go.Proofs.Ytlpggofilkfbnaa.T
namespace Go.Proofs.Ytlpggofilkfbnaa.J
open Go Go.Proofs
theorem words_cons : ∀ (w r : List Char), w.all (· != ' ') = true → wordsSigns (w ++ ' ' :: r) = w :: wordsSigns r
  | [], r, _ => rfl
  | c :: w, r, h => by
    simp only [List.all_cons, Bool.and_eq_true, bne_iff_ne, ne_eq] at h
    have ih := words_cons w r h.2
    rw [List.cons_append, wordsSigns, ih]
    exact fun e => h.1 e
set_option maxRecDepth 100000
def w0 : List Char := ['h', 'a', 'r', 'n', 'e', 's', 's']
def w1 : List Char := ['f', '7', 'a', '3', '4', 'c', '7', '0', '8', '5', 'a', '5', '0', '5', '6', '1', '7', '0', 'd', '6', 'a', 'c', '4', 'b', '2', 'a', '9', 'f', '5', '6', '5', '1', '7', 'b', 'a', '3', '8', 'c', 'e', '5', '3', 'a', '6', 'c', 'd', '8', 'b', 'a', '0', '8', '7', '6', 'f', '5', '3', '5', '4', '5', '9', 'b', 'f', 'b', '4', '0']
def w2 : List Char := ['c', 'u', 't']
def w3 : List Char := ['a', 't', ' ', 's', 'a', 'r', 'g', 'a', 's', 's', 'o', '/', 's', 'a', 'r', 'g', 'a', 's', 's', 'o', 'l', 'a', 'w', '1', '2', '.', 'P', 'a', 's', 't', 'M', 'i', 'd', 'd', 'l', 'e', ' ', 's', 'a', 'r', 'g', 'a', 's', 's', 'o', '/', 's', 'a', 'r', 'g', 'a', 's', 's', 'o', 'l', 'a', 'w', '1', '2', '.', 'P', 'a', 's', 't', 'L', 'a', 's', 't']
theorem io0 : Try.prog.initOrder = String.ofList (w0 ++ ' ' :: (w1 ++ ' ' :: (w2 ++ ' ' :: w3))) := by kernel_rfl
theorem io : Try.prog.initOrder.toList = w0 ++ ' ' :: (w1 ++ ' ' :: (w2 ++ ' ' :: w3)) := (congrArg String.toList io0).trans String.toList_ofList
theorem ws : wordsSigns Try.prog.initOrder.toList = w0 :: w1 :: w2 :: wordsSigns w3 := by
  rw [io, words_cons _ _ (by kernel_rfl), words_cons _ _ (by kernel_rfl), words_cons _ _ (by kernel_rfl)]
theorem bm (R : List (List Char)) : behindMainWord (w0 :: w1 :: w2 :: R) = w2 :: R := by kernel_rfl
theorem bw : behindMainWord (wordsSigns Try.prog.initOrder.toList) = w2 :: wordsSigns w3 := by rw [ws, bm]
theorem st (R : List (List Char)) : stripLifts liftWords (w2 :: R) = ([], w2 :: R) := by kernel_rfl
theorem make_of {P : Program} {R : List (List Char)} (h : behindMainWord (wordsSigns P.initOrder.toList) = w2 :: R) : P.make = some .cut := by
  unfold Program.make
  rw [h]
  kernel_rfl
theorem head_of {P : Program} {R : List (List Char)} (h : behindMainWord (wordsSigns P.initOrder.toList) = w2 :: R) : P.headLifts = [] := by
  unfold Program.headLifts
  rw [h, st]
  kernel_rfl
theorem lifts_of {P : Program} {R : List (List Char)} (h : behindMainWord (wordsSigns P.initOrder.toList) = w2 :: R) : P.liftsFinal = false := by
  unfold Program.liftsFinal
  rw [h, head_of h]
  kernel_rfl
theorem may_of {P : Program} {R : List (List Char)} (h : behindMainWord (wordsSigns P.initOrder.toList) = w2 :: R) (h1 : P.laysLater = false) (h2 : P.bearsReflect = false) (h3 : P.doorFits [] = true) : P.mayEnter = true := by
  unfold Program.mayEnter
  rw [h]
  simp only [st, h1, h2, h3]
  kernel_rfl
theorem later : Try.prog.laysLater = false := by kernel_rfl
theorem reflect : Try.prog.bearsReflect = false := by kernel_rfl
theorem door : Try.prog.doorFits [] = true := by kernel_rfl
theorem make : Try.prog.make = some .cut := make_of bw
theorem lifts : Try.prog.liftsFinal = false := lifts_of bw
theorem may : Try.prog.mayEnter = true := may_of bw later reflect door
end Go.Proofs.Ytlpggofilkfbnaa.J
namespace Go.Proofs.Ytlpggofilkfbnaa.zPastLast
open Go Go.Proofs Go.Proofs.Ytlpggofilkfbnaa.K Go.Proofs.Ytlpggofilkfbnaa.T
open Go.ChangeShapes Go.WideShapes Go.ChangeAt Go.RowKit
set_option linter.unusedVariables false
theorem own : ownKnob Try.prog.godebug = none := by kernel_rfl
set_option maxRecDepth 100000 in
theorem lifted (os : Os) (started : os.Started) (H : Type) (enc : TypeId × Value → H) :
    ReturnsInHanded {} Try.checked os 4 .any (Rows.pastLastSpec.pre6 enc Try.prog Try.f4 Rows.pastLastRow.domain false) (Rows.pastLastSpec.post enc Try.prog Try.f4 false true false false) := by
  refine returnsInHanded_of_change_sized (C := Try.checked) own started (by kernel_rfl) Try.func4
    (ChangeSpec.witness6 (enc := enc) (C := Try.checked) false ⟨#[], #[.slice none 0 0, .slice none 0 0], []⟩ 8 (by kernel_rfl) (by kernel_rfl) (by kernel_rfl) (by kernel_rfl)) ?_
  intro W base args ds gs before hval0 hW hcnd hsz0 _
  have hW' := hW
  obtain ⟨p, q, hA0, hV, rfl, hfz, hnd⟩ := hW
  have hA : DataW.TrodAll enc Try.prog W 0 (fun _ => true) true Try.f4.params.toList args.toList ds p := hA0
  have hval : ∀ (j : Nat) t v, Try.f4.params[j]? = some t → args[j]? = some v → Value.okWide Try.prog W .any base t v := hval0
  rw [Try.params4] at hA hval
  obtain ⟨v0, vs0, d0, ds0, p0, q0, hargs, rfl, rfl, h0, r0⟩ := trodAll_cons hA
  obtain ⟨v1, vs1, d1, ds1, p1, q1, rfl, rfl, rfl, h1, r1⟩ := trodAll_cons r0
  obtain ⟨rfl, rfl, rfl⟩ := trodAll_nil r1
  obtain rfl : args = #[v0, v1] := by cases args; simp_all
  obtain ⟨rfl, rfl⟩ := trodVars_none hV
  obtain ⟨x0, w0⟩ := at_slice Try.underlying22 (hval 0 22 v0 rfl rfl) rd22 h0
  obtain ⟨x1, w1⟩ := at_slice Try.underlying22 (hval 1 22 v1 rfl rfl) rd22 h1
  have hμ : Agr (mem W) W := agr_mem W
  have hm := sargassolaw12_PastLast.m (mem W) x0 v0 w0 x1 v1 w1
  refine (sargassolaw12_PastLast.c (mem W) W hμ x0 v0 w0 x1 v1 w1 true hm).mono fun e W' ⟨v, he, hv, _, hI⟩ => ?_
  subst hv
  subst he
  have bel : Below W.heap.size W W' := hI.below
  exact ⟨_, rfl, _, _, _, [], _, [], hW', trodAll_mk1 (shut_bool Try.underlying4 _), (trodAll_cons_mk (again laid rr22 tr22 h0 bel) (trodAll_cons_mk (again laid rr22 tr22 h1 bel) trodAll_mk0)), rfl, bel.frame _, fun h => by cases h⟩
theorem closed : joinedFacts Try.prog 4 Try.f4 Rows.pastLastSpec Rows.pastLastRow = true := by
  unfold joinedFacts
  rw [J.may, J.lifts, J.make]
  kernel_rfl
theorem over : Rows.pastLastRow.holds Try.pinned (OpenSpec.ofChange Rows.pastLastSpec) :=
  OpenClaim.holds_of_wide 4 Try.f4 rfl rfl rfl rfl rfl rfl rfl ⟨rfl, rfl, rfl, rfl, rfl⟩ rfl rfl rfl rfl rfl (by kernel_rfl) Try.func4 closed
    (of_decide_eq_true (by kernel_rfl)) (by unfold Func.isWrapper; first | (rw [if_pos (by decide +kernel)]; kernel_rfl) | (rw [if_neg (by decide +kernel)]; exact ⟨rfl, rfl⟩))
    (fun os started H enc _ => lifted os started H enc)
end Go.Proofs.Ytlpggofilkfbnaa.zPastLast
namespace Go.Proofs.Ytlpggofilkfbnaa
theorem pastLast_holds : Rows.PastLastSaid := zPastLast.over
#print axioms pastLast_holds
end Go.Proofs.Ytlpggofilkfbnaa
