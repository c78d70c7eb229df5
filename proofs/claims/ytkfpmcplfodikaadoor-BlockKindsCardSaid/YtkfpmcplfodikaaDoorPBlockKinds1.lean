/- Proved: the statement BlockKinds, as given (its conditions are those of the given row, and card where there is one; no others): the call ends, with true, and the input reads as it did. This file is one of its parts. -/
import Derived.WalkKit
import Derived.Deep.Quiet
import Derived.KernelRfl
import Derived.OrdersHeld
import Derived.Laws.StructEq
import Derived.ChangeKeysEq
import Derived.Laws.BytesString
import Derived.Laws.CopyRow
import Derived.Laws.Strings2
import Derived.Laws.Strings3
import Derived.Laws.Concat
import Derived.Laws.Externs
import Derived.Lib.Bytealg
import Derived.Maps.Keyed
import Derived.Carry
import Derived.DeepKeys4
import Derived.LaidEql
namespace Go.Proofs.YtkfpmcplfodikaaDoor.K
open Go
def lk : List (Nat × Value) → Nat → Option Value
  | [], _ => none
  | (k, v) :: l, i => match Nat.beq k i with
    | true => some v
    | false => lk l i
structure FrG (ds : List Deferred) (a : Act) (n : Nat) (L : List (Nat × Value)) : Prop where
  d : a.defers = ds
  s : a.tmps.size = n
  g : ∀ i v, lk L i = some v → a.tmps[i]? = some v
abbrev Fr := FrG []
def ov (L : List (Nat × Value)) : Operand → Option Value
  | .tmp t => lk L t
  | .const v => some v
  | .global g => some (.pointer (some ⟨g, 0, none⟩))
  | .func f => some (.func (.func f) #[] #[])
theorem FrG.ev {ds : List Deferred} {a : Act} {n : Nat} {L : List (Nat × Value)} (h : FrG ds a n L) {x : Operand} {v : Value} (hx : ov L x = some v) : a.eval x = v := by
  cases x with
  | tmp t =>
    have := h.g t v hx
    simp [Act.eval, Array.getD_eq_getD_getElem?, this]
  | const c => simpa [ov, Act.eval] using hx
  | global g => simpa [ov, Act.eval] using hx
  | func f => simpa [ov, Act.eval] using hx
theorem FrG.put {ds : List Deferred} {a : Act} {n : Nat} {L : List (Nat × Value)} (h : FrG ds a n L) {d : Nat} (hd : Nat.ble (d + 1) n = true) (v : Value) : FrG ds (a.put (some d) v) n ((d, v) :: L) := by
  have hdn : d < n := Nat.le_of_ble_eq_true hd
  refine ⟨h.d, by simp [Act.put, h.s], fun i u hi => ?_⟩
  simp only [lk] at hi
  simp only [Act.put, Array.getElem?_setIfInBounds]
  by_cases e : d = i
  · subst e
    have : Nat.beq d d = true := Nat.beq_refl d
    rw [this] at hi
    simp only [Option.some.injEq] at hi
    simp [h.s, hdn, hi]
  · have : Nat.beq d i = false := by
      cases hb : Nat.beq d i with
      | false => rfl
      | true => exact absurd (Nat.eq_of_beq_eq_true hb) e
    rw [this] at hi
    rw [if_neg e]
    exact h.g i u hi
def subL (L : List (Nat × Value)) : List (Nat × Value) → Prop
  | [] => True
  | (i, v) :: t => lk L i = some v ∧ subL L t
theorem FrG.sub {ds : List Deferred} {a : Act} {n : Nat} {L L' : List (Nat × Value)} (h : FrG ds a n L) (hs : subL L L') : FrG ds a n L' := by
  refine ⟨h.d, h.s, fun i v hi => h.g i v ?_⟩
  clear h
  induction L' with
  | nil => cases hi
  | cons p t ih =>
    obtain ⟨k, u⟩ := p
    obtain ⟨h1, h2⟩ := hs
    simp only [lk] at hi
    cases hb : Nat.beq k i with
    | true =>
      rw [hb] at hi
      have := Nat.eq_of_beq_eq_true hb
      subst this
      exact h1.trans (by simpa using hi)
    | false =>
      rw [hb] at hi
      exact ih h2 hi
def fr0 (k : Nat) : List Value → List (Nat × Value)
  | [] => []
  | v :: vs => (k, v) :: fr0 (k + 1) vs
theorem lk_fr0 (vs : List Value) : ∀ (k i : Nat) (v : Value), lk (fr0 k vs) i = some v → k ≤ i ∧ vs[i - k]? = some v := by
  induction vs with
  | nil => intro k i v h; cases h
  | cons u vs ih =>
    intro k i v h
    simp only [fr0, lk] at h
    cases hb : Nat.beq k i with
    | true =>
      rw [hb] at h
      have := Nat.eq_of_beq_eq_true hb
      subst this
      exact ⟨Nat.le_refl _, by simpa using h⟩
    | false =>
      rw [hb] at h
      obtain ⟨h1, h2⟩ := ih _ _ _ h
      refine ⟨by omega, ?_⟩
      have e : i - k = (i - (k + 1)) + 1 := by omega
      rw [e]
      simpa using h2
theorem FrG.start (args : Array Value) (n : Nat) (h : Nat.ble args.size n = true) : FrG [] { tmps := args ++ Array.replicate (n - args.size) undef, defers := [] } n (fr0 0 args.toList) := by
  have hn : args.size ≤ n := Nat.le_of_ble_eq_true h
  refine ⟨rfl, by simp; omega, fun i v hi => ?_⟩
  obtain ⟨_, h2⟩ := lk_fr0 _ _ _ _ hi
  simp only [Nat.sub_zero, Array.getElem?_toList] at h2
  have hlt : i < args.size := by
    rcases Nat.lt_or_ge i args.size with h' | h'
    · exact h'
    · rw [Array.getElem?_eq_none h'] at h2; cases h2
  rw [Array.getElem?_append_left hlt]
  exact h2
abbrev AW := Act → World → Prop
def PQ (N : AW) (E : List (Nat × AW)) (R : AW) : Exit → AW
  | .normal => N
  | .ret => R
  | .exit i => fun a w => ∃ M, E.lookup i = some M ∧ M a w
  | _ => fun _ _ => False
section
variable {P : Program} {N R : AW} {E : List (Nat × AW)} {ds : List Deferred} {a : Act} {w : World}
theorem w_seq {x y : Code} (h : ∀ N' : AW, (∀ a w, y.wp P (PQ N E R) a w → N' a w) → x.wp P (PQ N' E R) a w) : (Code.seq x y).wp P (PQ N E R) a w := by
  refine wp_seq (wp_mono (h _ fun _ _ h => h) fun e a w hq => ?_)
  cases e <;> exact hq
theorem w_cut {x y : Code} (M : AW) (h1 : x.wp P (PQ M E R) a w) (h2 : ∀ a w, M a w → y.wp P (PQ N E R) a w) : (Code.seq x y).wp P (PQ N E R) a w :=
  w_seq fun _ hN => wp_mono h1 fun e a w hq => by
    cases e
    case normal => exact hN _ _ (h2 _ _ hq)
    all_goals exact hq
theorem w_block {id : Nat} {c : Code} (h : c.wp P (PQ N ((id, N) :: E) R) a w) : (Code.block id c).wp P (PQ N E R) a w := by
  refine wp_block (wp_mono h fun e a w hq => ?_)
  cases e with
  | exit i =>
    obtain ⟨M, hM, hm⟩ := hq
    simp only [List.lookup] at hM
    simp only [Exit.inBlock]
    by_cases e : i = id
    · subst e
      simp only [beq_self_eq_true, Option.some.injEq] at hM
      subst hM
      rw [if_pos rfl]
      exact hm
    · rw [if_neg e]
      have : (i == id) = false := by simpa using e
      rw [this] at hM
      exact ⟨M, hM, hm⟩
  | _ => exact hq
theorem w_exit {i : Nat} {M : AW} (hM : E.lookup i = some M) (h : M a w) : (Code.exit i).wp P (PQ N E R) a w := wp_exit ⟨M, hM, h⟩
theorem w_skip (h : N a w) : Code.skip.wp P (PQ N E R) a w := wp_skip h
theorem w_ret (h : R a w) : Code.ret.wp P (PQ N E R) a w := wp_ret h
theorem w_cond {n : Nat} {L : List (Nat × Value)} {c : Operand} {x y : Code} {t : Bool} (hA : FrG ds a n L) (hc : ov L c = some (.bool t))
    (ht : t = true → x.wp P (PQ N E R) a w) (hf : t = false → y.wp P (PQ N E R) a w) : (Code.cond c x y).wp P (PQ N E R) a w :=
  wp_cond_split (hA.ev hc) ht hf
theorem w_loop {c : Code} (I : Nat → AW) (k : Nat) (h0 : I k a w)
    (round : ∀ k a w, I k a w → c.wp P (PQ (fun a' w' => ∃ m, m < k ∧ I m a' w') E R) a w) : (Code.loop c).wp P (PQ N E R) a w := by
  intro b kk cs
  have key : ∀ n a w, I n a w →
      ∃ e a' w', PQ N E R e a' w' ∧ Arrives P (lone (b.at a (.code c :: .inLoop c :: kk)) cs w) b kk cs e a' w' := by
    intro n
    induction n using Nat.strongRecOn with
    | _ n ih =>
      intro a w hI
      obtain ⟨e, a₁, w₁, hq, harr⟩ := round n a w hI b (.inLoop c :: kk) cs
      cases e with
      | normal =>
        obtain ⟨m, hlt, hI₁⟩ := hq
        obtain ⟨e₂, a₂, w₂, hq₂, harr₂⟩ := ih m hlt a₁ w₁ hI₁
        exact ⟨e₂, a₂, w₂, hq₂, .of_steps (Steps.trans harr (.one step_inLoop)) harr₂⟩
      | exit id => exact ⟨.exit id, a₁, w₁, hq, .pass (x := .inLoop c) rfl (fun _ _ => .inl (by simp)) harr⟩
      | ret => exact ⟨.ret, a₁, w₁, hq, .pass (x := .inLoop c) rfl (fun _ _ => .inl (by simp)) harr⟩
      | goto l => exact hq.elim
      | panic ch => exact hq.elim
      | outgrown => exact hq.elim
  obtain ⟨e, a', w', hq, harr⟩ := key k a w h0
  exact ⟨e, a', w', hq, .of_steps (.one step_loop) harr⟩
end
section
variable {P : Program} {N R : AW} {E : List (Nat × AW)} {Q : Exit → AW} {ops : Array Oper} {rest : List Oper} {ds : List Deferred} {a : Act} {w : World} {n : Nat} {L : List (Nat × Value)}
  {d : Nat} {op : Op} {ty : TypeId} {pos : String} {aft : Array Edge} {v : Value}
theorem w_reg {id : Nat} {l : List Oper} (h : wpList P l.toArray (PQ N E R) l a w) : (Code.region id l.toArray false).wp P (PQ N E R) a w := wp_region_lit h
theorem o_nil (h : N a w) : wpList P ops (PQ N E R) [] a w := h
theorem stp (hA : FrG ds a n L) (h : (execOp a.eval ⟨some d, op, ty, pos, aft, none⟩).run P w = .ok (.value v) w) (hd : Nat.ble (d + 1) n = true)
    (k : ∀ a, FrG ds a n ((d, v) :: L) → wpList P ops Q rest a w) : wpList P ops Q (⟨some d, op, ty, pos, aft, none⟩ :: rest) a w :=
  wpList_plain rfl fun K hK => by
    unfold Oper.wp
    rw [h]
    exact hK _ _ (k _ (hA.put hd v))
theorem unguard {dst : Option Nat} {g : Option (Nat × Bool)} (hw : Region.wanted ⟨dst, op, ty, pos, aft, g⟩ (yielded ops a.tmps) = true)
    (k : wpList P ops Q (⟨dst, op, ty, pos, aft, none⟩ :: rest) a w) : wpList P ops Q (⟨dst, op, ty, pos, aft, g⟩ :: rest) a w := by
  unfold wpList at k ⊢
  rw [if_pos hw]
  rw [if_pos (show Region.wanted ⟨dst, op, ty, pos, aft, none⟩ (yielded ops a.tmps) = true from rfl)] at k
  exact k
def vb : Value → Option Bool
  | .bool b => some b
  | _ => none
theorem yields (hA : FrG ds a n L) {j t : Nat} (hj : ((ops[j]?).bind (·.dst)) = some t) (ht : lk L t = some v) :
    yielded ops a.tmps j = vb v := by
  unfold yielded
  rw [hj]
  simp only [Option.bind_some, hA.g t v ht]
  cases v <;> rfl
theorem o_yes (hA : FrG ds a n L) {dst : Option Nat} {j t : Nat} {b β : Bool} (hj : ((ops[j]?).bind (·.dst)) = some t) (ht : lk L t = some (.bool β)) (hb : β = b)
    (k : wpList P ops Q (⟨dst, op, ty, pos, aft, none⟩ :: rest) a w) : wpList P ops Q (⟨dst, op, ty, pos, aft, some (j, b)⟩ :: rest) a w :=
  unguard (by have := yields (ops := ops) hA hj ht; simp [Region.wanted, this, vb, hb]) k
theorem o_no (hA : FrG ds a n L) {j t : Nat} {b : Bool} (hj : ((ops[j]?).bind (·.dst)) = some t) (ht : lk L t = some v) (hne : vb v ≠ some b)
    (hd : Nat.ble (d + 1) n = true) (k : ∀ a, FrG ds a n ((d, undef) :: L) → wpList P ops Q rest a w) : wpList P ops Q (⟨some d, op, ty, pos, aft, some (j, b)⟩ :: rest) a w := by
  have hy := yields (ops := ops) hA hj ht
  have hw : Region.wanted ⟨some d, op, ty, pos, aft, some (j, b)⟩ (yielded ops a.tmps) = false := by
    simp only [Region.wanted, hy]
    simpa using hne
  unfold wpList
  rw [if_neg (by rw [hw]; simp)]
  exact k _ (hA.put hd undef)
end
section
variable {P : Program} {w : World} {ds : List Deferred} {a : Act} {n : Nat} {L : List (Nat × Value)} {dst : Option Nat} {ty t t' : TypeId} {pos : String} {aft : Array Edge} {g : Option (Nat × Bool)} {x y c : Operand} {v u : Value} {k : IntKind} {i j : Int}
theorem r_mv (hA : FrG ds a n L) (hx : ov L x = some v) : (execOp a.eval ⟨dst, .move x, ty, pos, aft, g⟩).run P w = .ok (.value v) w := by
  simp [execOp, hA.ev hx]
theorem r_as (hA : FrG ds a n L) (hx : ov L x = some v) : (execOp a.eval ⟨dst, .assign x, ty, pos, aft, g⟩).run P w = .ok (.value v) w := by
  simp [execOp, hA.ev hx]
theorem r_pick_t {β : Bool} (hA : FrG ds a n L) (hc : ov L c = some (.bool β)) (hb : β = true) (hx : ov L x = some v) : (execOp a.eval ⟨dst, .pick c x y, ty, pos, aft, g⟩).run P w = .ok (.value v) w := by
  simp [execOp, hA.ev hc, hA.ev hx, asBool, hb]
theorem r_pick_f {β : Bool} (hA : FrG ds a n L) (hc : ov L c = some (.bool β)) (hb : β = false) (hy : ov L y = some v) : (execOp a.eval ⟨dst, .pick c x y, ty, pos, aft, g⟩).run P w = .ok (.value v) w := by
  simp [execOp, hA.ev hc, hA.ev hy, asBool, hb]
theorem r_add (hA : FrG ds a n L) (hx : ov L x = some (.int k i)) (hy : ov L y = some (.int k j)) : (execOp a.eval ⟨dst, .binOp .add t x y t', ty, pos, aft, g⟩).run P w = .ok (.value (.int k (k.wrap (i + j)))) w := by
  simp [execOp, hA.ev hx, hA.ev hy, binOp, eqGuard, Op.intArith]
theorem r_sub (hA : FrG ds a n L) (hx : ov L x = some (.int k i)) (hy : ov L y = some (.int k j)) : (execOp a.eval ⟨dst, .binOp .sub t x y t', ty, pos, aft, g⟩).run P w = .ok (.value (.int k (k.wrap (i - j)))) w := by
  simp [execOp, hA.ev hx, hA.ev hy, binOp, eqGuard, Op.intArith]
theorem r_mul (hA : FrG ds a n L) (hx : ov L x = some (.int k i)) (hy : ov L y = some (.int k j)) : (execOp a.eval ⟨dst, .binOp .mul t x y t', ty, pos, aft, g⟩).run P w = .ok (.value (.int k (k.wrap (i * j)))) w := by
  simp [execOp, hA.ev hx, hA.ev hy, binOp, eqGuard, Op.intArith]
theorem r_rem (hA : FrG ds a n L) (hx : ov L x = some (.int k i)) (hy : ov L y = some (.int k j)) (h : j ≠ 0) : (execOp a.eval ⟨dst, .binOp .rem t x y t', ty, pos, aft, g⟩).run P w = .ok (.value (.int k (i.tmod j))) w := by
  simp [execOp, hA.ev hx, hA.ev hy, binOp, eqGuard, Op.intDiv, h]
def bAnd (k : IntKind) (i j : Int) : Int := k.wrap ((BitVec.ofInt k.bits i &&& BitVec.ofInt k.bits j).toNat)
def bOr (k : IntKind) (i j : Int) : Int := k.wrap ((BitVec.ofInt k.bits i ||| BitVec.ofInt k.bits j).toNat)
def bXor (k : IntKind) (i j : Int) : Int := k.wrap ((BitVec.ofInt k.bits i ^^^ BitVec.ofInt k.bits j).toNat)
theorem r_and (hA : FrG ds a n L) (hx : ov L x = some (.int k i)) (hy : ov L y = some (.int k j)) : (execOp a.eval ⟨dst, .binOp .and t x y t', ty, pos, aft, g⟩).run P w = .ok (.value (.int k (bAnd k i j))) w := by
  simp [execOp, hA.ev hx, hA.ev hy, binOp, eqGuard, Op.intBits, bAnd]
theorem r_or (hA : FrG ds a n L) (hx : ov L x = some (.int k i)) (hy : ov L y = some (.int k j)) : (execOp a.eval ⟨dst, .binOp .or t x y t', ty, pos, aft, g⟩).run P w = .ok (.value (.int k (bOr k i j))) w := by
  simp [execOp, hA.ev hx, hA.ev hy, binOp, eqGuard, Op.intBits, bOr]
theorem r_xor (hA : FrG ds a n L) (hx : ov L x = some (.int k i)) (hy : ov L y = some (.int k j)) : (execOp a.eval ⟨dst, .binOp .xor t x y t', ty, pos, aft, g⟩).run P w = .ok (.value (.int k (bXor k i j))) w := by
  simp [execOp, hA.ev hx, hA.ev hy, binOp, eqGuard, Op.intBits, bXor]
def bNot (k : IntKind) (i : Int) : Int := bXor k (if k.signed then -1 else k.max) i
theorem r_inv (hA : FrG ds a n L) (hx : ov L x = some (.int k i)) : (execOp a.eval ⟨dst, .unOp .xor t x, ty, pos, aft, g⟩).run P w = .ok (.value (.int k (bNot k i))) w := by
  simp [execOp, hA.ev hx, Op.unary, Op.intBits, bNot, bXor]
theorem r_neg (hA : FrG ds a n L) (hx : ov L x = some (.int k i)) : (execOp a.eval ⟨dst, .unOp .neg t x, ty, pos, aft, g⟩).run P w = .ok (.value (.int k (k.wrap (0 - i)))) w := by
  simp [execOp, hA.ev hx, Op.unary, Op.intArith]
theorem r_not {b : Bool} (hA : FrG ds a n L) (hx : ov L x = some (.bool b)) : (execOp a.eval ⟨dst, .unOp .not t x, ty, pos, aft, g⟩).run P w = .ok (.value (.bool (!b))) w := by
  simp [execOp, hA.ev hx, Op.unary]
def sL (k : IntKind) (i j : Int) : Int := k.wrap (i * 2 ^ min j.toNat k.bits)
def sR (k : IntKind) (i j : Int) : Int := i.fdiv (2 ^ min j.toNat k.bits)
theorem r_shl {k' : IntKind} (hA : FrG ds a n L) (hx : ov L x = some (.int k i)) (hy : ov L y = some (.int k' j)) (h : 0 ≤ j) : (execOp a.eval ⟨dst, .binOp .shl t x y t', ty, pos, aft, g⟩).run P w = .ok (.value (.int k (sL k i j))) w := by
  have h' : ¬ j < 0 := by omega
  simp [execOp, hA.ev hx, hA.ev hy, binOp, eqGuard, Op.shift, h', sL]
theorem r_shr {k' : IntKind} (hA : FrG ds a n L) (hx : ov L x = some (.int k i)) (hy : ov L y = some (.int k' j)) (h : 0 ≤ j) : (execOp a.eval ⟨dst, .binOp .shr t x y t', ty, pos, aft, g⟩).run P w = .ok (.value (.int k (sR k i j))) w := by
  have h' : ¬ j < 0 := by omega
  simp [execOp, hA.ev hx, hA.ev hy, binOp, eqGuard, Op.shift, h', sR]
theorem r_lss (hA : FrG ds a n L) (hx : ov L x = some (.int k i)) (hy : ov L y = some (.int k j)) : (execOp a.eval ⟨dst, .binOp .lss t x y t', ty, pos, aft, g⟩).run P w = .ok (.value (.bool (decide (i < j)))) w := by
  simp [execOp, hA.ev hx, hA.ev hy, binOp, eqGuard, Op.intCmp]
theorem r_leq (hA : FrG ds a n L) (hx : ov L x = some (.int k i)) (hy : ov L y = some (.int k j)) : (execOp a.eval ⟨dst, .binOp .leq t x y t', ty, pos, aft, g⟩).run P w = .ok (.value (.bool (decide (i ≤ j)))) w := by
  simp [execOp, hA.ev hx, hA.ev hy, binOp, eqGuard, Op.intCmp]
theorem r_gtr (hA : FrG ds a n L) (hx : ov L x = some (.int k i)) (hy : ov L y = some (.int k j)) : (execOp a.eval ⟨dst, .binOp .gtr t x y t', ty, pos, aft, g⟩).run P w = .ok (.value (.bool (decide (j < i)))) w := by
  simp [execOp, hA.ev hx, hA.ev hy, binOp, eqGuard, Op.intCmp]
theorem r_geq (hA : FrG ds a n L) (hx : ov L x = some (.int k i)) (hy : ov L y = some (.int k j)) : (execOp a.eval ⟨dst, .binOp .geq t x y t', ty, pos, aft, g⟩).run P w = .ok (.value (.bool (decide (j ≤ i)))) w := by
  simp [execOp, hA.ev hx, hA.ev hy, binOp, eqGuard, Op.intCmp]
theorem r_eql (hA : FrG ds a n L) (hx : ov L x = some (.int k i)) (hy : ov L y = some (.int k j)) : (execOp a.eval ⟨dst, .binOp .eql t x y t', ty, pos, aft, g⟩).run P w = .ok (.value (.bool (decide (i = j)))) w := by
  have e : (i == j) = decide (i = j) := by rw [Bool.eq_iff_iff]; simp
  simp [execOp, hA.ev hx, hA.ev hy, binOp, eqGuard, Op.intCmp, e]
theorem r_neq (hA : FrG ds a n L) (hx : ov L x = some (.int k i)) (hy : ov L y = some (.int k j)) : (execOp a.eval ⟨dst, .binOp .neq t x y t', ty, pos, aft, g⟩).run P w = .ok (.value (.bool (decide (i ≠ j)))) w := by
  have e : (i != j) = decide (i ≠ j) := by rw [Bool.eq_iff_iff]; simp
  simp [execOp, hA.ev hx, hA.ev hy, binOp, eqGuard, Op.intCmp, e]
theorem r_conv {k' : IntKind} {d0 : TypeDesc} (h0 : P.underlying t = some d0) (h1 : P.underlying t' = some (.int k')) (hA : FrG ds a n L) (hx : ov L x = some (.int k i)) :
    (execOp a.eval ⟨dst, .convert t t' x, ty, pos, aft, g⟩).run P w = .ok (.value (.int k' (k'.wrap i))) w := by
  simp [execOp, hA.ev hx, convert, run_underlying h0, run_underlying h1, Conv.intToInt]
theorem r_nilc {p : Addr} (hA : FrG ds a n L) (hx : ov L x = some (.pointer (some p))) : (execOp a.eval ⟨dst, .nilCheck x, ty, pos, aft, g⟩).run P w = .ok (.value (.pointer (some p))) w := by
  simp [execOp, hA.ev hx]
theorem r_extr {vs : List Value} {m : Nat} (hA : FrG ds a n L) (hx : ov L x = some (.tuple vs.toArray)) (hv : vs[m]? = some v) : (execOp a.eval ⟨dst, .extract x m, ty, pos, aft, g⟩).run P w = .ok (.value v) w := by
  simp [execOp, hA.ev hx, Instr.extract, hv]
theorem r_fld {b o m : Nat} {fs : Array Field} {f : Field} {fi : TypeInfo} (hu : P.underlying t = some (.struct fs)) (hf : fs[m]? = some f) (hi : P.info? f.type = some fi) (hz : Nat.beq fi.size 0 = false)
    (hA : FrG ds a n L) (hx : ov L x = some (.pointer (some ⟨b, o, none⟩))) :
    (execOp a.eval ⟨dst, .fieldAddr t x m, ty, pos, aft, g⟩).run P w = .ok (.value (.pointer (some ⟨b, o + f.offset, none⟩))) w := by
  have hz' : fi.size ≠ 0 := fun e => by rw [e] at hz; cases hz
  have e : (⟨b, o, none⟩ : Addr).add f.offset = ⟨b, o + f.offset, none⟩ := by
    unfold Addr.add
    split <;> simp_all
  simp [execOp, hA.ev hx, Instr.fieldAt, run_underlying hu, hf, Instr.sureAddr, fieldPlace, sizeOf, typeInfo, hi, hz', e]
theorem r_len {e : TypeId} {A : Option Addr} {m cp : Nat} (hu : P.underlying t = some (.slice e)) (hA : FrG ds a n L) (hx : ov L x = some (.slice A m cp)) :
    (execOp a.eval ⟨dst, .call { callee := .builtin .len, args := #[x], argTypes := #[t] }, ty, pos, aft, g⟩).run P w = .ok (.value (.int .i64 m)) w := by
  simp [execOp, resolve, invoke, builtin, hA.ev hx, Builtin.len_, run_underlying hu, goInt]
theorem r_ixs {e : TypeId} {ei : TypeInfo} {b o m cp : Nat} (hu : P.underlying t = some (.slice e)) (hi : P.info? e = some ei) (hA : FrG ds a n L) (hx : ov L x = some (.slice (some ⟨b, o, none⟩) m cp)) (hy : ov L y = some (.int k i)) (h0 : 0 ≤ i) (h1 : i < (m : Int)) :
    (execOp a.eval ⟨dst, .indexAddr t x y, ty, pos, aft, g⟩).run P w = .ok (.value (.pointer (some ⟨b, o + i.toNat * ei.size, none⟩))) w := by
  have e' : (⟨b, o, none⟩ : Addr).add (i.toNat * ei.size) = ⟨b, o + i.toNat * ei.size, none⟩ := by
    unfold Addr.add
    split <;> simp_all
  simp [execOp, hA.ev hx, hA.ev hy, Instr.indexAt, asIntOf, run_underlying hu, sizeOf, typeInfo, hi, h0, h1, e']
theorem r_ixa {e : TypeId} {ei : TypeInfo} {b o m : Nat} (hu : P.underlying t = some (.array m e)) (hi : P.info? e = some ei) (hA : FrG ds a n L) (hx : ov L x = some (.pointer (some ⟨b, o, none⟩))) (hy : ov L y = some (.int k i)) (h0 : 0 ≤ i) (h1 : i < (m : Int)) :
    (execOp a.eval ⟨dst, .indexAddr t x y, ty, pos, aft, g⟩).run P w = .ok (.value (.pointer (some ⟨b, o + i.toNat * ei.size, none⟩))) w := by
  have e' : (⟨b, o, none⟩ : Addr).add (i.toNat * ei.size) = ⟨b, o + i.toNat * ei.size, none⟩ := by
    unfold Addr.add
    split <;> simp_all
  simp [execOp, hA.ev hx, hA.ev hy, Instr.indexAt, asIntOf, run_underlying hu, sizeOf, typeInfo, hi, h0, h1, e', Instr.sureAddr]
end
end Go.Proofs.YtkfpmcplfodikaaDoor.K
namespace Go.Proofs.YtkfpmcplfodikaaDoor.K
open Go
abbrev Store := Nat → Option Obj
def Store.cell (μ : Store) (g i : Nat) : Option Value := match μ g with
  | some (.cells c _ _) => c[i]?
  | _ => none
def Store.le (μ ν : Store) : Prop := ∀ k o, μ k = some o → ν k = some o
theorem Store.le.refl (μ : Store) : μ.le μ := fun _ _ h => h
theorem Store.le.trans {μ ν ρ : Store} (h : μ.le ν) (h' : ν.le ρ) : μ.le ρ := fun k o e => h' k o (h k o e)
theorem Store.le.cell {μ ν : Store} (h : μ.le ν) {g i : Nat} {v : Value} (hc : μ.cell g i = some v) : ν.cell g i = some v := by
  unfold Store.cell at hc ⊢
  cases hm : μ g with
  | none => simp [hm] at hc
  | some o => rw [h _ _ hm]; simpa [hm] using hc
def Agr (μ : Store) (w : World) : Prop := ∀ k o, μ k = some o → w.heap[k]? = some o
theorem Agr.cell {μ : Store} {w : World} (h : Agr μ w) {g i : Nat} {v : Value} (hc : μ.cell g i = some v) : w.cell? ⟨g, i, none⟩ = some v := by
  unfold Store.cell at hc
  cases hm : μ g with
  | none => simp [hm] at hc
  | some o =>
    rw [hm] at hc
    cases o <;> simp at hc
    simp [World.cell?, h _ _ hm, hc]
def At (μ : Store) (g o : Nat) (cs : List Value) : Prop := ∀ j v, cs[j]? = some v → μ.cell g (o + j) = some v
theorem At.le {μ ν : Store} (h : μ.le ν) {g o : Nat} {cs : List Value} (ha : At μ g o cs) : At ν g o cs := fun j v e => h.cell (ha j v e)
theorem At.part {μ : Store} {g o : Nat} {A B C : List Value} (h : At μ g o (A ++ (B ++ C))) : At μ g (o + A.length) B := fun j v e => by
  have hj : j < B.length := by
    rcases Nat.lt_or_ge j B.length with h' | h'
    · exact h'
    · rw [List.getElem?_eq_none h'] at e; cases e
  have := h (A.length + j) v (by rw [List.getElem?_append_right (by omega), Nat.add_sub_cancel_left, List.getElem?_append_left hj]; exact e)
  rwa [← Nat.add_assoc] at this
structure It where
  foot : List Nat
  ok : World → Prop
  loc : ∀ w w' : World, (∀ g ∈ foot, w'.heap[g]? = w.heap[g]?) → ok w → ok w'
def cel (g : Nat) (chs : List (List Value)) (T : TypeId) : It where
  foot := [g]
  ok w := w.heap[g]? = some (.cells chs.flatten.toArray T (0, 0))
  loc w w' h hk := by rw [h g (by simp)]; exact hk
def row (e : TypeId) (size : Nat) (v : Value) (n : Nat) (xs : List Value) : It where
  foot := v.ownBlock.toList
  ok w := w.ownsRow 0 e size v n xs
  loc w w' h hk := by
    refine ⟨hk.1, ?_⟩
    rcases hk.2 with hn | ⟨g, cap, cur, rfl, hb, hg, r⟩
    · exact .inl hn
    · exact .inr ⟨g, cap, cur, rfl, hb, by rw [h g (by simp [Value.ownBlock])]; exact hg, r⟩
theorem sub_foot {l l' : List It} (h : l'.Sublist l) : (l'.flatMap (·.foot)).Sublist (l.flatMap (·.foot)) := by
  induction h with
  | slnil => exact List.Sublist.refl _
  | cons i _ ih => exact ih.trans (by rw [List.flatMap_cons]; exact List.sublist_append_right ..)
  | cons_cons i _ ih => rw [List.flatMap_cons, List.flatMap_cons]; exact (List.Sublist.refl _).append ih
structure Iv (W0 : World) (md : List Nat) (μ0 μ : Store) (its : List It) (w : World) : Prop where
  os : w.os = W0.os
  tape : w.tape = W0.tape
  out : w.output = W0.output
  size : W0.heap.size ≤ w.heap.size
  frame : ∀ k, k < W0.heap.size → k ∉ md → w.heap[k]? = W0.heap[k]?
  le : μ0.le μ
  agr : Agr μ w
  fresh : ∀ k o, μ k = some o → μ0 k = some o ∨ W0.heap.size ≤ k ∨ k ∈ md
  nodup : (its.flatMap (·.foot)).Nodup
  own : ∀ i ∈ its, i.ok w ∧ ∀ g ∈ i.foot, g < w.heap.size ∧ μ g = none ∧ (W0.heap.size ≤ g ∨ g ∈ md)
theorem Iv.start {μ : Store} {w : World} (h : Agr μ w) : Iv w [] μ μ [] w :=
  ⟨rfl, rfl, rfl, Nat.le_refl _, fun _ _ _ => rfl, Store.le.refl _, h, fun _ _ h => .inl h, by simp, by simp⟩
theorem Iv.start1 {μ : Store} {w : World} (h : Agr μ w) {i : It} (ho : i.ok w) (hn : i.foot.Nodup) (hg : ∀ g ∈ i.foot, g < w.heap.size ∧ μ g = none) : Iv w i.foot μ μ [i] w :=
  ⟨rfl, rfl, rfl, Nat.le_refl _, fun _ _ _ => rfl, Store.le.refl _, h, fun _ _ h => .inl h, by simpa using hn, fun j hj => by
    have : j = i := by simpa using hj
    subst this
    exact ⟨ho, fun g h => ⟨(hg g h).1, (hg g h).2, .inr h⟩⟩⟩
section
variable {W0 : World} {md : List Nat} {μ0 μ μ' : Store} {its its' : List It} {w w' : World}
theorem Iv.below (h : Iv W0 [] μ0 μ its w) : RowKit.Below W0.heap.size W0 w := ⟨h.os, h.tape, h.out, h.size, fun k hk => h.frame k hk (by simp)⟩
theorem Iv.drew (h : Iv W0 md μ0 μ its w) (n : Nat) : Iv W0 md μ0 μ its (w.drewN n) := by
  have e : (w.drewN n).heap = w.heap := rfl
  refine ⟨h.os, h.tape, h.out, h.size, h.frame, h.le, h.agr, h.fresh, h.nodup, fun i hi => ?_⟩
  obtain ⟨h1, h2⟩ := h.own i hi
  exact ⟨i.loc w _ (fun g _ => by rw [e]) h1, h2⟩
theorem Iv.drew1 (h : Iv W0 md μ0 μ its w) : Iv W0 md μ0 μ its { w with drawn := w.drawn + 1 } := by
  refine ⟨h.os, h.tape, h.out, h.size, h.frame, h.le, h.agr, h.fresh, h.nodup, fun i hi => ?_⟩
  obtain ⟨h1, h2⟩ := h.own i hi
  exact ⟨i.loc w _ (fun g _ => rfl) h1, h2⟩
theorem Iv.forget (h : Iv W0 md μ0 μ' its' w) (h0 : μ0.le μ) (h1 : μ.le μ') : Iv W0 md μ0 μ [] w :=
  ⟨h.os, h.tape, h.out, h.size, h.frame, h0, fun k o e => h.agr k o (h1 k o e), fun k o e => h.fresh k o (h1 k o e), by simp, by simp⟩
theorem Iv.forget0 (h : Iv W0 md μ0 μ' its' w) : Iv W0 md μ0 μ0 [] w := h.forget (Store.le.refl _) h.le
theorem Iv.drop (h : Iv W0 md μ0 μ its w) (hs : its'.Sublist its) : Iv W0 md μ0 μ its' w :=
  ⟨h.os, h.tape, h.out, h.size, h.frame, h.le, h.agr, h.fresh, h.nodup.sublist (sub_foot hs), fun i hi => h.own i (hs.subset hi)⟩
theorem Iv.less (h : Iv W0 md μ0 μ' its w) (h0 : μ0.le μ) (h1 : μ.le μ') : Iv W0 md μ0 μ its w :=
  ⟨h.os, h.tape, h.out, h.size, h.frame, h0, fun k o e => h.agr k o (h1 k o e), fun k o e => h.fresh k o (h1 k o e), h.nodup, fun i hi => ⟨(h.own i hi).1, fun g hg => by
    obtain ⟨a, b, c⟩ := (h.own i hi).2 g hg
    refine ⟨a, ?_, c⟩
    cases e : μ g with
    | none => rfl
    | some o => rw [h1 g o e] at b; cases b⟩⟩
theorem Iv.alloc (h : Iv W0 md μ0 μ its w) (o : Obj) (i : It) (hf : i.foot = [w.heap.size]) (ho : i.ok (w.alloc o)) : Iv W0 md μ0 μ (i :: its) (w.alloc o) := by
  have hb : ∀ k, k < w.heap.size → (w.alloc o).heap[k]? = w.heap[k]? := fun k hk => RowKit.Below.heap_alloc w o k hk
  have hsz : (w.alloc o).heap.size = w.heap.size + 1 := by show (w.heap.push o).size = _; simp
  refine ⟨h.os, h.tape, h.out, by rw [hsz]; have := h.size; omega, fun k hk hm => (hb k (Nat.lt_of_lt_of_le hk h.size)).trans (h.frame k hk hm), h.le, fun k o' e => ?_, h.fresh, ?_, ?_⟩
  · have := h.agr k o' e
    rw [hb k (Array.getElem?_eq_some_iff.1 this).1]
    exact this
  · simp only [List.flatMap_cons, hf, List.singleton_append, List.nodup_cons]
    refine ⟨fun hm => ?_, h.nodup⟩
    obtain ⟨j, hj, hg⟩ := List.mem_flatMap.1 hm
    have := ((h.own j hj).2 _ hg).1
    omega
  · intro j hj
    rcases List.mem_cons.1 hj with rfl | hj
    · refine ⟨ho, fun g hg => ?_⟩
      rw [hf] at hg
      have : g = w.heap.size := by simpa using hg
      subst this
      refine ⟨by rw [hsz]; omega, ?_, .inl h.size⟩
      cases e : μ w.heap.size with
      | none => rfl
      | some o' =>
        have := (Array.getElem?_eq_some_iff.1 (h.agr _ _ e)).1
        omega
    · obtain ⟨h1, h2⟩ := h.own j hj
      refine ⟨j.loc w _ (fun g hg => hb g (h2 g hg).1) h1, fun g hg => ?_⟩
      obtain ⟨a, b, c⟩ := h2 g hg
      exact ⟨by rw [hsz]; omega, b, c⟩
theorem Iv.upd (h : Iv W0 md μ0 μ its w) (j : Nat) (i i' : It) (hj : its[j]? = some i) (hos : w'.os = w.os) (htape : w'.tape = w.tape) (hout : w'.output = w.output) (hsz : w.heap.size ≤ w'.heap.size)
    (hb : ∀ k, k < w.heap.size → k ∉ i.foot → w'.heap[k]? = w.heap[k]?) (hf : ∀ g ∈ i'.foot, g ∈ i.foot ∨ w.heap.size ≤ g) (hfl : ∀ g ∈ i'.foot, g < w'.heap.size) (hn : i'.foot.Nodup) (ho : i'.ok w') : Iv W0 md μ0 μ (its.set j i') w' := by
  have hi : i ∈ its := List.mem_of_getElem? hj
  have hjl : j < its.length := (List.getElem?_eq_some_iff.1 hj).1
  have hsplit : its = its.take j ++ i :: its.drop (j + 1) := by
    have := (List.getElem?_eq_some_iff.1 hj).2
    rw [← this]
    simp
  have hset : its.set j i' = its.take j ++ i' :: its.drop (j + 1) := List.set_eq_take_append_cons_drop.trans (by rw [if_pos hjl])
  obtain ⟨hiok, hifoot⟩ := h.own i hi
  have hnd := h.nodup
  rw [hsplit, List.flatMap_append, List.flatMap_cons] at hnd
  have hdis : ∀ k ∈ its.take j ++ its.drop (j + 1), ∀ g ∈ k.foot, g ∉ i.foot := by
    intro k hk g hg hgi
    rw [List.nodup_append, List.nodup_append] at hnd
    obtain ⟨_, ⟨_, _, h2⟩, h3⟩ := hnd
    rcases List.mem_append.1 hk with hk | hk
    · exact h3 g (List.mem_flatMap.2 ⟨k, hk, hg⟩) g (List.mem_append_left _ hgi) rfl
    · exact h2 g hgi g (List.mem_flatMap.2 ⟨k, hk, hg⟩) rfl
  have hmem : ∀ k ∈ its.take j ++ its.drop (j + 1), k ∈ its := by
    intro k hk
    rw [hsplit]
    rcases List.mem_append.1 hk with hk | hk
    · exact List.mem_append_left _ hk
    · exact List.mem_append_right _ (List.mem_cons_of_mem _ hk)
  refine ⟨hos.trans h.os, htape.trans h.tape, hout.trans h.out, Nat.le_trans h.size hsz, fun k hk hm => ?_, h.le, fun k o e => ?_, h.fresh, ?_, ?_⟩
  · rw [hb k (Nat.lt_of_lt_of_le hk h.size) (fun hki => ?_)]
    · exact h.frame k hk hm
    · rcases (hifoot k hki).2.2 with h' | h'
      · omega
      · exact hm h'
  · have hk := h.agr k o e
    rw [hb k (Array.getElem?_eq_some_iff.1 hk).1 (fun hki => by have := (hifoot k hki).2.1; rw [e] at this; cases this)]
    exact hk
  · rw [hset, List.flatMap_append, List.flatMap_cons]
    rw [List.nodup_append, List.nodup_append] at hnd ⊢
    obtain ⟨n1, ⟨_, n2, d2⟩, d1⟩ := hnd
    have hnew : ∀ k ∈ its.take j ++ its.drop (j + 1), ∀ g ∈ k.foot, g ∉ i'.foot := by
      intro k hk g hg hg'
      rcases hf g hg' with h' | h'
      · exact hdis k hk g hg h'
      · have := ((h.own k (hmem k hk)).2 g hg).1; omega
    refine ⟨n1, ⟨hn, n2, fun g hg g' hg' e => ?_⟩, fun g hg g' hg' e => ?_⟩
    · subst e
      obtain ⟨k, hk, hgk⟩ := List.mem_flatMap.1 hg'
      exact hnew k (List.mem_append_right _ hk) g hgk hg
    · subst e
      obtain ⟨k, hk, hgk⟩ := List.mem_flatMap.1 hg
      rcases List.mem_append.1 hg' with hg' | hg'
      · exact hnew k (List.mem_append_left _ hk) g hgk hg'
      · exact d1 g hg g (List.mem_append_right _ hg') rfl
  · intro k hk
    rw [hset] at hk
    rcases List.mem_append.1 hk with hk' | hk'
    · obtain ⟨h1, h2⟩ := h.own k (hmem k (List.mem_append_left _ hk'))
      exact ⟨k.loc w _ (fun g hg => hb g (h2 g hg).1 (hdis k (List.mem_append_left _ hk') g hg)) h1, fun g hg => ⟨Nat.lt_of_lt_of_le (h2 g hg).1 hsz, (h2 g hg).2⟩⟩
    · rcases List.mem_cons.1 hk' with rfl | hk'
      · refine ⟨ho, fun g hg => ⟨hfl g hg, ?_⟩⟩
        rcases hf g hg with h' | h'
        · exact ⟨(hifoot g h').2.1, (hifoot g h').2.2⟩
        · refine ⟨?_, .inl (Nat.le_trans h.size h')⟩
          cases e : μ g with
          | none => rfl
          | some o =>
            have := (Array.getElem?_eq_some_iff.1 (h.agr g o e)).1
            omega
      · obtain ⟨h1, h2⟩ := h.own k (hmem k (List.mem_append_right _ hk'))
        exact ⟨k.loc w _ (fun g hg => hb g (h2 g hg).1 (hdis k (List.mem_append_right _ hk') g hg)) h1, fun g hg => ⟨Nat.lt_of_lt_of_le (h2 g hg).1 hsz, (h2 g hg).2⟩⟩
theorem Iv.call (h : Iv W0 md μ0 μ its w) (h' : Iv w [] μ μ' its' w') : Iv W0 md μ0 μ' (its' ++ its) w' := by
  refine ⟨h'.os.trans h.os, h'.tape.trans h.tape, h'.out.trans h.out, Nat.le_trans h.size h'.size, fun k hk hm => (h'.frame k (Nat.lt_of_lt_of_le hk h.size) (by simp)).trans (h.frame k hk hm), h.le.trans h'.le, h'.agr, fun k o e => ?_, ?_, ?_⟩
  · rcases h'.fresh k o e with e' | e' | e'
    · exact h.fresh k o e'
    · exact .inr (.inl (Nat.le_trans h.size e'))
    · simp at e'
  · rw [List.flatMap_append, List.nodup_append]
    refine ⟨h'.nodup, h.nodup, fun g hg g' hg' e => ?_⟩
    subst e
    obtain ⟨i, hi, hgi⟩ := List.mem_flatMap.1 hg
    obtain ⟨j, hj, hgj⟩ := List.mem_flatMap.1 hg'
    have h1 := ((h'.own i hi).2 g hgi).2.2
    have h2 := ((h.own j hj).2 g hgj).1
    simp at h1
    omega
  · intro i hi
    rcases List.mem_append.1 hi with hi | hi
    · refine ⟨(h'.own i hi).1, fun g hg => ?_⟩
      obtain ⟨a, b, c⟩ := (h'.own i hi).2 g hg
      refine ⟨a, b, ?_⟩
      simp at c
      exact .inl (Nat.le_trans h.size c)
    · obtain ⟨h1, h2⟩ := h.own i hi
      refine ⟨i.loc w _ (fun g hg => h'.frame g (h2 g hg).1 (by simp)) h1, fun g hg => ?_⟩
      obtain ⟨a, b, c⟩ := h2 g hg
      refine ⟨Nat.lt_of_lt_of_le a h'.size, ?_, c⟩
      cases e : μ' g with
      | none => rfl
      | some o =>
        rcases h'.fresh g o e with e' | e' | e'
        · rw [b] at e'; cases e'
        · omega
        · simp at e'
theorem Iv.call1 (h : Iv W0 md μ0 μ its w) (j : Nat) {i : It} (hj : its[j]? = some i) (h' : Iv w i.foot μ μ' its' w') : Iv W0 md μ0 μ' (its' ++ its.eraseIdx j) w' := by
  have hi : i ∈ its := List.mem_of_getElem? hj
  have hsplit : its = its.take j ++ i :: its.drop (j + 1) := by
    have := (List.getElem?_eq_some_iff.1 hj).2
    rw [← this]
    simp
  have her : its.eraseIdx j = its.take j ++ its.drop (j + 1) := List.eraseIdx_eq_take_drop_succ ..
  obtain ⟨hiok, hifoot⟩ := h.own i hi
  have hnd := h.nodup
  rw [hsplit, List.flatMap_append, List.flatMap_cons] at hnd
  have hdis : ∀ k ∈ its.eraseIdx j, ∀ g ∈ k.foot, g ∉ i.foot := by
    intro k hk g hg hgi
    rw [her] at hk
    rw [List.nodup_append, List.nodup_append] at hnd
    obtain ⟨_, ⟨_, _, h2⟩, h3⟩ := hnd
    rcases List.mem_append.1 hk with hk | hk
    · exact h3 g (List.mem_flatMap.2 ⟨k, hk, hg⟩) g (List.mem_append_left _ hgi) rfl
    · exact h2 g hgi g (List.mem_flatMap.2 ⟨k, hk, hg⟩) rfl
  have hmem : ∀ k ∈ its.eraseIdx j, k ∈ its := fun k hk => List.mem_of_mem_eraseIdx hk
  have hnd' : ((its.eraseIdx j).flatMap (·.foot)).Nodup := h.nodup.sublist (sub_foot (List.eraseIdx_sublist its j))
  refine ⟨h'.os.trans h.os, h'.tape.trans h.tape, h'.out.trans h.out, Nat.le_trans h.size h'.size, fun k hk hm => ?_, h.le.trans h'.le, h'.agr, fun k o e => ?_, ?_, ?_⟩
  · have hki : k ∉ i.foot := fun e => by
      rcases (hifoot k e).2.2 with h1 | h1
      · omega
      · exact hm h1
    exact (h'.frame k (Nat.lt_of_lt_of_le hk h.size) hki).trans (h.frame k hk hm)
  · rcases h'.fresh k o e with e' | e' | e'
    · exact h.fresh k o e'
    · exact .inr (.inl (Nat.le_trans h.size e'))
    · exact .inr (hifoot k e').2.2
  · rw [List.flatMap_append, List.nodup_append]
    refine ⟨h'.nodup, hnd', fun x hx x' hx' e => ?_⟩
    subst e
    obtain ⟨k, hk, hxk⟩ := List.mem_flatMap.1 hx
    obtain ⟨l, hl, hxl⟩ := List.mem_flatMap.1 hx'
    have h1 := ((h'.own k hk).2 x hxk).2.2
    have h2 := ((h.own l (hmem l hl)).2 x hxl).1
    rcases h1 with h1 | h1
    · omega
    · exact hdis l hl x hxl h1
  · intro k hk
    rcases List.mem_append.1 hk with hk | hk
    · refine ⟨(h'.own k hk).1, fun x hx => ?_⟩
      obtain ⟨a, b, c⟩ := (h'.own k hk).2 x hx
      refine ⟨a, b, ?_⟩
      rcases c with c | c
      · exact .inl (Nat.le_trans h.size c)
      · exact (hifoot x c).2.2
    · obtain ⟨h1, h2⟩ := h.own k (hmem k hk)
      refine ⟨k.loc w _ (fun x hx => h'.frame x (h2 x hx).1 (hdis k hk x hx)) h1, fun x hx => ?_⟩
      obtain ⟨a, b, c⟩ := h2 x hx
      refine ⟨Nat.lt_of_lt_of_le a h'.size, ?_, c⟩
      cases e : μ' x with
      | none => rfl
      | some o =>
        rcases h'.fresh x o e with e' | e' | e'
        · rw [b] at e'; cases e'
        · omega
        · exact absurd e' (hdis k hk x hx)
theorem Iv.item (h : Iv W0 md μ0 μ its w) {j : Nat} {i : It} (hj : its[j]? = some i) : i.ok w ∧ i.foot.Nodup ∧ ∀ g ∈ i.foot, g < w.heap.size ∧ μ g = none := by
  have hi := List.mem_of_getElem? hj
  refine ⟨(h.own i hi).1, ?_, fun g hg => ⟨((h.own i hi).2 g hg).1, ((h.own i hi).2 g hg).2.1⟩⟩
  have hnd := h.nodup
  have hsplit : its = its.take j ++ i :: its.drop (j + 1) := by
    have := (List.getElem?_eq_some_iff.1 hj).2
    rw [← this]
    simp
  rw [hsplit, List.flatMap_append, List.flatMap_cons, List.nodup_append, List.nodup_append] at hnd
  exact hnd.2.1.1
theorem Iv.freeze (h : Iv W0 md μ0 μ its w) (j : Nat) {i : It} {g : Nat} {o : Obj} (hj : its[j]? = some i) (hf : i.foot = [g]) (ho : w.heap[g]? = some o) :
    ∃ μ', μ.le μ' ∧ μ' g = some o ∧ Iv W0 md μ0 μ' (its.eraseIdx j) w := by
  have hi : i ∈ its := List.mem_of_getElem? hj
  obtain ⟨hiok, hifoot⟩ := h.own i hi
  have hgi := hifoot g (by rw [hf]; simp)
  have hsplit : its = its.take j ++ i :: its.drop (j + 1) := by
    have := (List.getElem?_eq_some_iff.1 hj).2
    rw [← this]
    simp
  have her : its.eraseIdx j = its.take j ++ its.drop (j + 1) := List.eraseIdx_eq_take_drop_succ ..
  have hnd := h.nodup
  rw [hsplit, List.flatMap_append, List.flatMap_cons, hf] at hnd
  have hdis : ∀ k ∈ its.eraseIdx j, g ∉ k.foot := by
    intro k hk hg
    rw [her] at hk
    rw [List.nodup_append, List.nodup_append] at hnd
    obtain ⟨_, ⟨_, _, h2⟩, h3⟩ := hnd
    rcases List.mem_append.1 hk with hk | hk
    · exact h3 g (List.mem_flatMap.2 ⟨k, hk, hg⟩) g (List.mem_append_left _ (by simp)) rfl
    · exact h2 g (by simp) g (List.mem_flatMap.2 ⟨k, hk, hg⟩) rfl
  have hle : μ.le (fun k => if k = g then some o else μ k) := fun k o' e => by
    by_cases hk : k = g
    · subst hk; rw [hgi.2.1] at e; cases e
    · simp [hk, e]
  refine ⟨fun k => if k = g then some o else μ k, hle, by simp, h.os, h.tape, h.out, h.size, h.frame, h.le.trans hle, fun k o' e => ?_, fun k o' e => ?_, h.nodup.sublist (sub_foot (List.eraseIdx_sublist its j)), fun k hk => ?_⟩
  · by_cases hk : k = g
    · subst hk
      simp only [if_pos] at e
      cases e
      exact ho
    · simp only [if_neg hk] at e
      exact h.agr k o' e
  · by_cases hk : k = g
    · subst hk; exact .inr hgi.2.2
    · simp only [if_neg hk] at e
      exact h.fresh k o' e
  · obtain ⟨h1, h2⟩ := h.own k (List.mem_of_mem_eraseIdx hk)
    refine ⟨h1, fun x hx => ?_⟩
    obtain ⟨a, b, c⟩ := h2 x hx
    refine ⟨a, ?_, c⟩
    have : x ≠ g := fun e => hdis k hk (e ▸ hx)
    simp [this, b]
theorem Iv.sel (h : Iv W0 md μ0 μ its w) (ix : List Nat) (hn : ix.Nodup) {its' : List It} (he : ix.filterMap (its[·]?) = its') : Iv W0 md μ0 μ its' w := by
  subst he
  have hp : ∀ (i j : Nat) (x y : It), its[i]? = some x → its[j]? = some y → i ≠ j → ∀ g ∈ x.foot, g ∉ y.foot := by
    intro i j x y hx hy hij g hg hg'
    have hw : ∀ (i j : Nat) (x y : It), i < j → its[i]? = some x → its[j]? = some y → g ∈ x.foot → g ∈ y.foot → False := by
      intro i j x y hlt hx hy hg hg'
      have hsplit : its = its.take j ++ its.drop j := by simp
      have hnd := h.nodup
      rw [hsplit, List.flatMap_append, List.nodup_append] at hnd
      refine hnd.2.2 g (List.mem_flatMap.2 ⟨x, ?_, hg⟩) g (List.mem_flatMap.2 ⟨y, ?_, hg'⟩) rfl
      · exact List.mem_of_getElem? (i := i) (by rw [List.getElem?_take, if_pos hlt]; exact hx)
      · exact List.mem_of_getElem? (i := 0) (by rw [List.getElem?_drop]; exact hy)
    rcases Nat.lt_or_gt_of_ne hij with h' | h'
    · exact hw i j x y h' hx hy hg hg'
    · exact hw j i y x h' hy hx hg' hg
  have hone : ∀ (i : Nat) (x : It), its[i]? = some x → x.foot.Nodup := by
    intro i x hx
    have hnd := h.nodup
    have hsplit : its = its.take i ++ x :: its.drop (i + 1) := by
      have := (List.getElem?_eq_some_iff.1 hx).2
      rw [← this]
      simp
    rw [hsplit, List.flatMap_append, List.flatMap_cons, List.nodup_append, List.nodup_append] at hnd
    exact hnd.2.1.1
  refine ⟨h.os, h.tape, h.out, h.size, h.frame, h.le, h.agr, h.fresh, ?_, fun i hi => ?_⟩
  · induction ix with
    | nil => simp
    | cons i ix ih =>
      rw [List.nodup_cons] at hn
      rw [List.filterMap_cons]
      cases hx : its[i]? with
      | none => exact ih hn.2
      | some x =>
        simp only [List.flatMap_cons, List.nodup_append]
        refine ⟨hone i x hx, ih hn.2, fun g hg g' hg' e => ?_⟩
        subst e
        obtain ⟨y, hy, hgy⟩ := List.mem_flatMap.1 hg'
        obtain ⟨j, hj, hjy⟩ := List.mem_filterMap.1 hy
        exact hp i j x y hx hjy (fun e => hn.1 (e ▸ hj)) g hg hgy
  · obtain ⟨j, _, hj⟩ := List.mem_filterMap.1 hi
    exact h.own i (List.mem_of_getElem? hj)
end
end Go.Proofs.YtkfpmcplfodikaaDoor.K
namespace Go.Proofs.YtkfpmcplfodikaaDoor.K
open Go
inductive Els {α : Type} (RE : α → List Value → Prop) (sz : Nat) : List α → List Value → Prop
  | nil : Els RE sz [] []
  | cons {x : α} {c cs : List Value} {xs : List α} : RE x c → c.length = sz → Els RE sz xs cs → Els RE sz (x :: xs) (c ++ cs)
section
variable {α : Type} {RE RE' : α → List Value → Prop} {sz : Nat} {xs ys : List α} {cs ds : List Value}
theorem Els.len (h : Els RE sz xs cs) : cs.length = xs.length * sz := by
  induction h with
  | nil => simp
  | cons _ h2 _ ih => simp [h2, ih, Nat.add_mul, Nat.add_comm]
theorem Els.mono (h : Els RE sz xs cs) (hm : ∀ x c, RE x c → RE' x c) : Els RE' sz xs cs := by
  induction h with
  | nil => exact .nil
  | cons h1 h2 _ ih => exact .cons (hm _ _ h1) h2 ih
theorem Els.app (h : Els RE sz xs cs) (k : Els RE sz ys ds) : Els RE sz (xs ++ ys) (cs ++ ds) := by
  induction h with
  | nil => exact k
  | cons h1 h2 _ ih => rw [List.append_assoc]; exact .cons h1 h2 ih
theorem Els.one {x : α} {c : List Value} (h1 : RE x c) (h2 : c.length = sz) : Els RE sz [x] c := by
  have := Els.cons h1 h2 (Els.nil (RE := RE) (sz := sz))
  rwa [List.append_nil] at this
theorem Els.at_ (h : Els RE sz xs cs) : ∀ {i : Nat} {x : α}, xs[i]? = some x → ∃ A c B, cs = A ++ (c ++ B) ∧ A.length = i * sz ∧ c.length = sz ∧ RE x c := by
  induction h with
  | nil => intro i x hx; simp at hx
  | @cons y c cs ys h1 h2 h3 ih =>
    intro i x hx
    cases i with
    | zero =>
      have : y = x := by simpa using hx
      subst this
      exact ⟨[], c, cs, rfl, by simp, h2, h1⟩
    | succ i =>
      obtain ⟨A, c', B, e, hA, hc, hr⟩ := ih (by simpa using hx)
      refine ⟨c ++ A, c', B, by rw [e, List.append_assoc], ?_, hc, hr⟩
      rw [List.length_append, h2, hA, Nat.add_mul, Nat.one_mul, Nat.add_comm]
theorem Els.take (h : Els RE sz xs cs) : ∀ m, Els RE sz (xs.take m) (cs.take (m * sz)) := by
  induction h with
  | nil => intro m; simp; exact .nil
  | @cons y c cs ys h1 h2 h3 ih =>
    intro m
    cases m with
    | zero => simp; exact .nil
    | succ m =>
      rw [List.take_succ_cons, Nat.succ_mul, Nat.add_comm, List.take_append, List.take_of_length_le (l := c) (by rw [h2]; exact Nat.le_add_right _ _), h2, Nat.add_sub_cancel_left]
      exact .cons h1 h2 (ih m)
theorem Els.drop (h : Els RE sz xs cs) : ∀ m, Els RE sz (xs.drop m) (cs.drop (m * sz)) := by
  induction h with
  | nil => intro m; simp; exact .nil
  | @cons y c cs ys h1 h2 h3 ih =>
    intro m
    cases m with
    | zero => simp; exact .cons h1 h2 h3
    | succ m =>
      rw [List.drop_succ_cons, Nat.succ_mul, Nat.add_comm, List.drop_append, List.drop_of_length_le (l := c) (by rw [h2]; exact Nat.le_add_right _ _), h2, Nat.add_sub_cancel_left, List.nil_append]
      exact ih m
end
def sb : Value → Nat
  | .slice (some a) _ _ => a.block
  | _ => 0
def so : Value → Nat
  | .slice (some a) _ _ => a.off
  | _ => 0
def SlV (μ : Store) (v : Value) (n : Nat) (cs : List Value) : Prop :=
  ∃ A cp, v = .slice A n cp ∧ n ≤ cp ∧ cp ≤ maxLen ∧ (n ≠ 0 → A = some ⟨sb v, so v, none⟩) ∧ (n ≠ 0 → At μ (sb v) (so v) cs)
def Slc {α : Type} (RE : α → List Value → Prop) (sz : Nat) (μ : Store) (v : Value) (xs : List α) : Prop :=
  ∃ cs, Els RE sz xs cs ∧ SlV μ v xs.length cs
theorem SlV.le {μ ν : Store} (h : μ.le ν) {v : Value} {n : Nat} {cs : List Value} (hs : SlV μ v n cs) : SlV ν v n cs := by
  obtain ⟨A, cp, h1, h2, h3, h4, h5⟩ := hs
  exact ⟨A, cp, h1, h2, h3, h4, fun hn => (h5 hn).le h⟩
def InR : IntKind → Int → Prop
  | .i8, n => -128 ≤ n ∧ n < 128
  | .i16, n => -32768 ≤ n ∧ n < 32768
  | .i32, n => -2147483648 ≤ n ∧ n < 2147483648
  | .i64, n => -9223372036854775808 ≤ n ∧ n < 9223372036854775808
  | .u8, n => 0 ≤ n ∧ n < 256
  | .u16, n => 0 ≤ n ∧ n < 65536
  | .u32, n => 0 ≤ n ∧ n < 4294967296
  | .u64, n => 0 ≤ n ∧ n < 18446744073709551616
def RI (k : IntKind) (x : Int) (c : List Value) : Prop := c = [[.int k x]].flatten ∧ InR k x
def av (k : IntKind) (m : Nat) (xs : List Int) : List Value := (List.range m).map fun i => .int k (xs.getD i 0)
theorem av_len (k : IntKind) (m : Nat) (xs : List Int) : (av k m xs).length = m := by simp [av]
theorem av_get (k : IntKind) (m : Nat) (xs : List Int) {i : Nat} (h : i < m) : (av k m xs)[i]? = some (.int k (xs.getD i 0)) := by simp [av, h]
theorem av_set (k : IntKind) (m : Nat) (xs : List Int) (i : Nat) (x : Int) (hm : xs.length = m) : (av k m xs).set i (.int k x) = av k m (xs.set i x) := by
  apply List.ext_getElem?
  intro j
  rw [List.getElem?_set]
  by_cases hj : j < m
  · by_cases e : i = j
    · subst e
      rw [if_pos rfl, if_pos (by simpa [av_len] using hj), av_get _ _ _ hj]
      simp [List.getD, hm, hj]
    · rw [if_neg e, av_get _ _ _ hj, av_get _ _ _ hj]
      simp [List.getD, e]
  · have h1 : (av k m (xs.set i x))[j]? = none := List.getElem?_eq_none (by rw [av_len]; omega)
    have h2 : (av k m xs)[j]? = none := List.getElem?_eq_none (by rw [av_len]; omega)
    rw [h1, h2]
    split
    · rw [if_neg (by rw [av_len]; omega)]
    · rfl
theorem av_map (k : IntKind) (m : Nat) (xs : List Int) (hm : xs.length = m) : av k m xs = xs.map (.int k) := by
  apply List.ext_getElem?
  intro j
  by_cases hj : j < m
  · rw [av_get _ _ _ hj]
    simp [List.getD, hm, hj]
  · rw [List.getElem?_eq_none (by rw [av_len]; omega), List.getElem?_eq_none (by simp; omega)]
def Arr (k : IntKind) (m : Nat) (xs : List Int) : Prop := xs.length = m ∧ ∀ x ∈ xs, InR k x
def RA (k : IntKind) (m : Nat) (xs : List Int) (c : List Value) : Prop := c = [av k m xs].flatten ∧ Arr k m xs
theorem wrap_in (k : IntKind) (x : Int) : InR k (k.wrap x) := by
  cases k <;> simp [InR, IntKind.wrap, IntKind.signed, IntKind.bits] <;> omega
theorem wrap_id {k : IntKind} {x : Int} (h : InR k x) : k.wrap x = x := by
  cases k <;> simp [InR, IntKind.wrap, IntKind.signed, IntKind.bits] at * <;> omega
theorem arr_set {k : IntKind} {m : Nat} {xs : List Int} (h : Arr k m xs) (i : Nat) {x : Int} (hx : InR k x) : Arr k m (xs.set i x) :=
  ⟨by simpa using h.1, fun y hy => by rcases List.mem_or_eq_of_mem_set hy with h' | h'; exact h.2 y h'; exact h' ▸ hx⟩
theorem arr_get {k : IntKind} {m : Nat} {xs : List Int} (h : Arr k m xs) (i : Nat) : InR k (xs.getD i 0) := by
  rcases Nat.lt_or_ge i xs.length with h' | h'
  · have e : xs.getD i 0 = xs[i] := by simp [List.getD, h']
    rw [e]
    exact h.2 _ (List.getElem_mem h')
  · have e : xs.getD i 0 = 0 := by simp [List.getD, List.getElem?_eq_none h']
    rw [e]
    cases k <;> simp [InR]
theorem arr_zero (k : IntKind) (m : Nat) : Arr k m (List.replicate m 0) := ⟨by simp, fun x hx => by rw [List.eq_of_mem_replicate hx]; cases k <;> simp [InR]⟩
theorem getD_some {α : Type} {xs : List α} {i : Int} (d : α) (h0 : 0 ≤ i) (h1 : i < (xs.length : Int)) : xs[i.toNat]? = some (xs.getD i.toNat d) := by
  have : i.toNat < xs.length := by omega
  simp [List.getD, this]
theorem slc_nil {α : Type} (RE : α → List Value → Prop) (sz : Nat) (μ : Store) : Slc RE sz μ (.slice none 0 0) [] :=
  ⟨[], .nil, none, 0, rfl, Nat.le_refl _, by simp [maxLen], fun h => absurd rfl h, fun h => absurd rfl h⟩
def isAggD : TypeDesc → Bool
  | .struct _ | .array _ _ => true
  | _ => false
section
variable {P : Program} {W0 : World} {md : List Nat} {μ0 μ : Store} {its : List It} {w : World} {ds : List Deferred} {a : Act} {n : Nat} {L : List (Nat × Value)} {dst : Option Nat} {ty t T : TypeId} {pos : String} {aft : Array Edge} {gd : Option (Nat × Bool)} {x y : Operand} {v : Value} {g o : Nat}
theorem add_eq (g o k : Nat) : (⟨g, o, none⟩ : Addr).add k = ⟨g, o + k, none⟩ := by
  unfold Addr.add
  split <;> simp_all
theorem Iv.cel_ok (hI : Iv W0 md μ0 μ its w) {j : Nat} {chs : List (List Value)} (hj : its[j]? = some (cel g chs T)) : w.heap[g]? = some (.cells chs.flatten.toArray T (0, 0)) :=
  (hI.own _ (List.mem_of_getElem? hj)).1
theorem cell_mid {A B C : List Value} (hg : w.heap[g]? = some (.cells (A ++ (B ++ C) : List Value).toArray T (0, 0))) {j : Nat} {u : Value} (hu : B[j]? = some u) : w.cell? ((⟨g, A.length, none⟩ : Addr).add j) = some u := by
  rw [add_eq]
  have hj : j < B.length := by
    rcases Nat.lt_or_ge j B.length with h' | h'
    · exact h'
    · rw [List.getElem?_eq_none h'] at hu; cases hu
  simp only [World.cell?, hg]
  simp only [Option.isSome_none, Bool.false_eq_true, if_false, List.getElem?_toArray]
  rw [List.getElem?_append_right (by omega), Nat.add_sub_cancel_left, List.getElem?_append_left hj]
  exact hu
theorem run_loadVar_agg {cs : List Value} {d : TypeDesc} (hu : P.underlying t = some d) (hd : isAggD d = true) (hs : (P.info? t).map (·.size) = some cs.length) (p : Addr)
    (h : ∀ j u, cs[j]? = some u → w.cell? (p.add j) = some u) : (loadVar t p).run P w = .ok (.agg cs.toArray) w := by
  have hl := run_loadCells_list (P := P) w p cs h
  cases hq : P.info? t with
  | none => simp [hq] at hs
  | some i =>
    have hsz : i.size = cs.length := by simpa [hq] using hs
    have hagg : (isAgg t).run P w = .ok true w := by
      unfold isAgg
      rw [Sem.run_bind, run_underlying hu w]
      cases d <;> simp_all [isAggD]
    simp [loadVar, Sem.run_bind, hagg, sizeOf, typeInfo, hq, hsz, hl]
theorem run_loadVar_one {d : TypeDesc} (hu : P.underlying t = some d) (hd : isAggD d = false) (p : Addr) (h : w.cell? p = some v) : (loadVar t p).run P w = .ok v w := by
  have hagg : (isAgg t).run P w = .ok false w := by
    unfold isAgg
    rw [Sem.run_bind, run_underlying hu w]
    cases d <;> simp_all [isAggD]
  simp [loadVar, Sem.run_bind, hagg, run_load, h]
theorem r_ldA {d : TypeDesc} {j mm : Nat} (A B C : List (List Value)) (hu : P.underlying t = some d) (hd : isAggD d = true) (hs0 : (P.info? t).map (·.size) = some mm) (hs1 : B.flatten.length = mm)
    (hI : Iv W0 md μ0 μ its w) (hj : its[j]? = some (cel g (A ++ (B ++ C)) T)) (hA : FrG ds a n L) (hx : ov L x = some (.pointer (some ⟨g, o, none⟩))) (ho : A.flatten.length = o) :
    (execOp a.eval ⟨dst, .load t x, ty, pos, aft, gd⟩).run P w = .ok (.value (.agg B.flatten.toArray)) w := by
  have hc : ∀ j u, B.flatten[j]? = some u → w.cell? ((⟨g, o, none⟩ : Addr).add j) = some u := fun j u hu => by
    subst ho
    have hg := hI.cel_ok hj
    rw [List.flatten_append, List.flatten_append] at hg
    exact cell_mid hg hu
  simp [execOp, hA.ev hx, Instr.loadAt, Instr.sureAddr, run_loadVar_agg (P := P) hu hd (hs0.trans (congrArg some hs1.symm)) _ hc]
theorem r_ld1 {d : TypeDesc} {j : Nat} (A C : List (List Value)) (hu : P.underlying t = some d) (hd : isAggD d = false)
    (hI : Iv W0 md μ0 μ its w) (hj : its[j]? = some (cel g (A ++ ([v] :: C)) T)) (hA : FrG ds a n L) (hx : ov L x = some (.pointer (some ⟨g, o, none⟩))) (ho : A.flatten.length = o) :
    (execOp a.eval ⟨dst, .load t x, ty, pos, aft, gd⟩).run P w = .ok (.value v) w := by
  have this : w.cell? ⟨g, o, none⟩ = some v := by
    subst ho
    have hg := hI.cel_ok hj
    rw [List.flatten_append, List.flatten_cons] at hg
    have := cell_mid hg (j := 0) (u := v) (by simp)
    simpa only [add_eq, Nat.add_zero] using this
  simp [execOp, hA.ev hx, Instr.loadAt, Instr.sureAddr, run_loadVar_one (P := P) hu hd _ this]
theorem r_ldE {d : TypeDesc} {j m i : Nat} {k : IntKind} {xs : List Int} (A C : List (List Value)) (hu : P.underlying t = some d) (hd : isAggD d = false)
    (hI : Iv W0 md μ0 μ its w) (hj : its[j]? = some (cel g (A ++ (av k m xs :: C)) T)) (hA : FrG ds a n L) (hx : ov L x = some (.pointer (some ⟨g, o, none⟩))) (ho : A.flatten.length + i = o) (hi : i < m) :
    (execOp a.eval ⟨dst, .load t x, ty, pos, aft, gd⟩).run P w = .ok (.value (.int k (xs.getD i 0))) w := by
  have this : w.cell? ⟨g, o, none⟩ = some (.int k (xs.getD i 0)) := by
    subst ho
    have hg := hI.cel_ok hj
    rw [List.flatten_append, List.flatten_cons] at hg
    have := cell_mid hg (j := i) (u := .int k (xs.getD i 0)) (av_get k m xs hi)
    simpa only [add_eq] using this
  simp [execOp, hA.ev hx, Instr.loadAt, Instr.sureAddr, run_loadVar_one (P := P) hu hd _ this]
theorem At.cellq {cs : List Value} (hm : At μ g o cs) (hr : Agr μ w) {j : Nat} {u : Value} (hu : cs[j]? = some u) : w.cell? ((⟨g, o, none⟩ : Addr).add j) = some u := by
  rw [add_eq]
  exact hr.cell (hm j u hu)
theorem r_ldmA {d : TypeDesc} {b mm : Nat} (A B C : List (List Value)) (hu : P.underlying t = some d) (hd : isAggD d = true) (hs0 : (P.info? t).map (·.size) = some mm) (hs1 : B.flatten.length = mm)
    (hr : Agr μ w) (hm : At μ g b (A ++ (B ++ C)).flatten) (hA : FrG ds a n L) (hx : ov L x = some (.pointer (some ⟨g, o, none⟩))) (ho : b + A.flatten.length = o) :
    (execOp a.eval ⟨dst, .load t x, ty, pos, aft, gd⟩).run P w = .ok (.value (.agg B.flatten.toArray)) w := by
  have hc : ∀ j u, B.flatten[j]? = some u → w.cell? ((⟨g, o, none⟩ : Addr).add j) = some u := fun j u hu => by
    subst ho
    rw [List.flatten_append, List.flatten_append] at hm
    exact hm.part.cellq hr hu
  simp [execOp, hA.ev hx, Instr.loadAt, Instr.sureAddr, run_loadVar_agg (P := P) hu hd (hs0.trans (congrArg some hs1.symm)) _ hc]
theorem r_ldm1 {d : TypeDesc} {b : Nat} (A C : List (List Value)) (hu : P.underlying t = some d) (hd : isAggD d = false)
    (hr : Agr μ w) (hm : At μ g b (A ++ ([v] :: C)).flatten) (hA : FrG ds a n L) (hx : ov L x = some (.pointer (some ⟨g, o, none⟩))) (ho : b + A.flatten.length = o) :
    (execOp a.eval ⟨dst, .load t x, ty, pos, aft, gd⟩).run P w = .ok (.value v) w := by
  have this : w.cell? ⟨g, o, none⟩ = some v := by
    subst ho
    rw [List.flatten_append, List.flatten_cons] at hm
    have := hm.part.cellq hr (j := 0) (u := v) (by simp)
    simpa only [add_eq, Nat.add_zero] using this
  simp [execOp, hA.ev hx, Instr.loadAt, Instr.sureAddr, run_loadVar_one (P := P) hu hd _ this]
theorem SlV.form {m : Nat} {cs : List Value} (h : SlV μ v m cs) : ∃ A cp, v = .slice A m cp := let ⟨A, cp, e, _⟩ := h; ⟨A, cp, e⟩
theorem r_slen {m : Nat} {cs : List Value} {e : TypeId} (hu : P.underlying t = some (.slice e)) (hv : SlV μ v m cs) (hA : FrG ds a n L) (hx : ov L x = some v) :
    (execOp a.eval ⟨dst, .call { callee := .builtin .len, args := #[x], argTypes := #[t] }, ty, pos, aft, gd⟩).run P w = .ok (.value (.int .i64 m)) w := by
  obtain ⟨A, cp, rfl⟩ := hv.form
  exact r_len hu hA hx
theorem r_six {m s : Nat} {cs : List Value} {e : TypeId} {k : IntKind} {i : Int} (hu : P.underlying t = some (.slice e)) (hs : (P.info? e).map (·.size) = some s) (hv : SlV μ v m cs) (hA : FrG ds a n L) (hx : ov L x = some v) (hy : ov L y = some (.int k i)) (h0 : 0 ≤ i) (h1 : i < (m : Int)) :
    (execOp a.eval ⟨dst, .indexAddr t x y, ty, pos, aft, gd⟩).run P w = .ok (.value (.pointer (some ⟨sb v, so v + i.toNat * s, none⟩))) w := by
  obtain ⟨A, cp, e1, _, _, h4, _⟩ := hv
  have h4' := h4 (by omega)
  cases hq : P.info? e with
  | none => simp [hq] at hs
  | some ei =>
    have hs' : ei.size = s := by simpa [hq] using hs
    subst hs'
    rw [h4'] at e1
    exact r_ixs hu hq hA (hx.trans (congrArg some e1)) hy h0 h1
theorem Slc.elem {α : Type} {RE : α → List Value → Prop} {sz : Nat} {xs : List α} (h : Slc RE sz μ v xs) {i : Nat} {z : α} (hz : xs[i]? = some z) :
    ∃ c, RE z c ∧ c.length = sz ∧ At μ (sb v) (so v + i * sz) c := by
  obtain ⟨cs, hE, A, cp, _, _, _, _, h5⟩ := h
  obtain ⟨X, c, Y, e, hX, hc, hr⟩ := hE.at_ hz
  have hlt : i < xs.length := (List.getElem?_eq_some_iff.1 hz).1
  have h5' := h5 (by omega)
  rw [e] at h5'
  have := h5'.part
  rw [hX] at this
  exact ⟨c, hr, hc, this⟩
theorem Slc.elem1 {α : Type} {RE : α → List Value → Prop} {xs : List α} (h : Slc RE 1 μ v xs) {i : Nat} {z : α} (hz : xs[i]? = some z) :
    ∃ c, RE z c ∧ c.length = 1 ∧ At μ (sb v) (so v + i) c := by
  have := h.elem hz
  rwa [Nat.mul_one] at this
theorem Slc.sv {α : Type} {RE : α → List Value → Prop} {sz : Nat} {xs : List α} (h : Slc RE sz μ v xs) : ∃ cs, SlV μ v xs.length cs := let ⟨cs, _, h2⟩ := h; ⟨cs, h2⟩
theorem Slc.le {α : Type} {RE RE' : α → List Value → Prop} {sz : Nat} {xs : List α} {ν : Store} (h : Slc RE sz μ v xs) (hm : ∀ x c, RE x c → RE' x c) (hl : μ.le ν) : Slc RE' sz ν v xs :=
  let ⟨cs, h1, h2⟩ := h; ⟨cs, h1.mono hm, h2.le hl⟩
theorem r_ixar {m s : Nat} {e : TypeId} {k : IntKind} {i : Int} {b : Nat} (hu : P.underlying t = some (.array m e)) (hs : (P.info? e).map (·.size) = some s) (hA : FrG ds a n L) (hx : ov L x = some (.pointer (some ⟨b, o, none⟩))) (hy : ov L y = some (.int k i)) (h0 : 0 ≤ i) (h1 : i < (m : Int)) :
    (execOp a.eval ⟨dst, .indexAddr t x y, ty, pos, aft, gd⟩).run P w = .ok (.value (.pointer (some ⟨b, o + i.toNat * s, none⟩))) w := by
  cases hq : P.info? e with
  | none => simp [hq] at hs
  | some ei =>
    have hs' : ei.size = s := by simpa [hq] using hs
    subst hs'
    exact r_ixa hu hq hA hx hy h0 h1
theorem r_ixar1 {m : Nat} {e : TypeId} {k : IntKind} {i : Int} {b : Nat} (hu : P.underlying t = some (.array m e)) (hs : (P.info? e).map (·.size) = some 1) (hA : FrG ds a n L) (hx : ov L x = some (.pointer (some ⟨b, o, none⟩))) (hy : ov L y = some (.int k i)) (h0 : 0 ≤ i) (h1 : i < (m : Int)) :
    (execOp a.eval ⟨dst, .indexAddr t x y, ty, pos, aft, gd⟩).run P w = .ok (.value (.pointer (some ⟨b, o + i.toNat, none⟩))) w := by
  have := r_ixar (P := P) (w := w) (dst := dst) (ty := ty) (pos := pos) (aft := aft) (gd := gd) hu hs hA hx hy h0 h1
  rwa [Nat.mul_one] at this
theorem r_six1 {m : Nat} {cs : List Value} {e : TypeId} {k : IntKind} {i : Int} (hu : P.underlying t = some (.slice e)) (hs : (P.info? e).map (·.size) = some 1) (hv : SlV μ v m cs) (hA : FrG ds a n L) (hx : ov L x = some v) (hy : ov L y = some (.int k i)) (h0 : 0 ≤ i) (h1 : i < (m : Int)) :
    (execOp a.eval ⟨dst, .indexAddr t x y, ty, pos, aft, gd⟩).run P w = .ok (.value (.pointer (some ⟨sb v, so v + i.toNat, none⟩))) w := by
  have := r_six (P := P) (w := w) (dst := dst) (ty := ty) (pos := pos) (aft := aft) (gd := gd) hu hs hv hA hx hy h0 h1
  rwa [Nat.mul_one] at this
theorem r_fd {b k z m : Nat} {fs : Array Field} {f : Field} (hu : P.underlying t = some (.struct fs)) (hf : fs[m]? = some f) (hz : (P.info? f.type).map (·.size) = some (z + 1)) (hA : FrG ds a n L) (hx : ov L x = some (.pointer (some ⟨b, o, none⟩))) (hk : o + f.offset = k) :
    (execOp a.eval ⟨dst, .fieldAddr t x m, ty, pos, aft, gd⟩).run P w = .ok (.value (.pointer (some ⟨b, k, none⟩))) w := by
  cases hq : P.info? f.type with
  | none => simp [hq] at hz
  | some ei =>
    have hs' : ei.size = z + 1 := by simpa [hq] using hz
    subst hk
    exact r_fld hu hf hq (by rw [hs']; rfl) hA hx
end
section
variable {P : Program} {Q : Exit → AW} {ops : Array Oper} {rest : List Oper} {W0 : World} {md : List Nat} {μ0 μ : Store} {its : List It} {w : World} {ds : List Deferred} {a : Act} {n : Nat} {L : List (Nat × Value)} {d : Nat} {dst : Option Nat} {ty t T : TypeId} {pos : String} {aft : Array Edge} {x y : Operand} {v u : Value} {g o : Nat}
theorem wpl_val {op : Op} {w' : World} (h : (execOp a.eval ⟨dst, op, ty, pos, aft, none⟩).run P w = .ok (.value v) w') (k : wpList P ops Q rest (a.put dst v) w') : wpList P ops Q (⟨dst, op, ty, pos, aft, none⟩ :: rest) a w :=
  wpList_plain rfl fun K hK => by
    unfold Oper.wp
    rw [h]
    exact hK _ _ k
theorem wpl_skip {op : Op} {w' : World} (h : (execOp a.eval ⟨dst, op, ty, pos, aft, none⟩).run P w = .ok .skip w') (k : wpList P ops Q rest (a.put dst undef) w') : wpList P ops Q (⟨dst, op, ty, pos, aft, none⟩ :: rest) a w :=
  wpList_plain rfl fun K hK => by
    unfold Oper.wp
    rw [h]
    exact hK _ _ k
theorem o_box (chs : List (List Value)) (hI : Iv W0 md μ0 μ its w) (hA : FrG ds a n L) (hx : ov L x = some v) (hc : v.cells = chs.flatten.toArray) (hd : Nat.ble (d + 1) n = true)
    (k : ∀ g a w, FrG ds a n ((d, .pointer (some ⟨g, 0, none⟩)) :: L) → Iv W0 md μ0 μ (cel g chs T :: its) w → W0.heap.size ≤ g → wpList P ops Q rest a w) : wpList P ops Q (⟨some d, .box T x, ty, pos, aft, none⟩ :: rest) a w := by
  have hr : (execOp a.eval ⟨some d, .box T x, ty, pos, aft, none⟩).run P w = .ok (.value (.pointer (some ⟨w.heap.size, 0, none⟩))) (w.alloc (.cells chs.flatten.toArray T)) := by
    simp [execOp, hA.ev hx, Instr.box, newVar, newRow, newObj, hc, Sem.run]
  exact wpl_val hr (k _ _ _ (hA.put hd _) (hI.alloc _ _ rfl (by show _ = _; rw [heap_alloc_new])) hI.size)
theorem o_new (chs : List (List Value)) (hz : ∃ z, (P.info? T).map (·.zero) = some (some z) ∧ z.cells = chs.flatten.toArray) (hI : Iv W0 md μ0 μ its w) (hA : FrG ds a n L) (hd : Nat.ble (d + 1) n = true)
    (k : ∀ g a w, FrG ds a n ((d, .pointer (some ⟨g, 0, none⟩)) :: L) → Iv W0 md μ0 μ (cel g chs T :: its) w → W0.heap.size ≤ g → wpList P ops Q rest a w) : wpList P ops Q (⟨some d, .alloc T, ty, pos, aft, none⟩ :: rest) a w := by
  obtain ⟨z, hz, hc⟩ := hz
  cases hq : P.info? T with
  | none => simp [hq] at hz
  | some ti =>
    have hz' : ti.zero = some z := by simpa [hq] using hz
    have hr : (execOp a.eval ⟨some d, .alloc T, ty, pos, aft, none⟩).run P w = .ok (.value (.pointer (some ⟨w.heap.size, 0, none⟩))) (w.alloc (.cells chs.flatten.toArray T)) := by
      simp [execOp, Instr.alloc, zeroValue, typeInfo, hq, hz', newVar, newRow, newObj, hc, Sem.run]
    exact wpl_val hr (k _ _ _ (hA.put hd _) (hI.alloc _ _ rfl (by show _ = _; rw [heap_alloc_new])) hI.size)
theorem run_storeVar_row {A B B' C : List Value} (hs : (P.info? t).map (·.size) = some B'.length) (hB : B'.length = B.length) (hv : u.cells = B'.toArray) (h1 : ∀ c ∈ B', c.oneCell' = true) (hg : w.heap[g]? = some (.cells (A ++ (B ++ C)).toArray T (0, 0))) :
    (storeVar t ⟨g, A.length, none⟩ u).run P w = .ok () (w.setRow g (A ++ (B' ++ C)).toArray) := by
  cases hq : P.info? t with
  | none => simp [hq] at hs
  | some ti =>
    have hz' : ti.size = B'.length := by simpa [hq] using hs
    have hst := run_storeCells_at P g A.length T B' 0 _ w hg (by simp; omega) h1
    have e1 : (A ++ (B ++ C)).take A.length = A := by simp
    have e2 : (A ++ (B ++ C)).drop (A.length + B'.length) = C := by rw [← List.drop_drop, List.drop_left, hB, List.drop_left]
    simp only [Nat.add_zero, e1, e2, List.append_assoc] at hst
    simp [storeVar, hv, sizeOf, typeInfo, hq, hz', hst]
theorem Iv.setRow (hI : Iv W0 md μ0 μ its w) {j : Nat} {chs chs' : List (List Value)} (hj : its[j]? = some (cel g chs T)) : Iv W0 md μ0 μ (its.set j (cel g chs' T)) (w.setRow g chs'.flatten.toArray) := by
  have hg := hI.cel_ok hj
  have hlt : g < w.heap.size := (Array.getElem?_eq_some_iff.1 hg).1
  refine hI.upd j _ (cel g chs' T) hj rfl rfl rfl (by simp) (fun k _ hk => setRow_other w g k _ (by simpa [cel] using hk)) (fun g' hg' => .inl hg') (fun g' hg' => ?_) (by simp [cel]) (setRow_heap w g _ _ T _ hg)
  have : g' = g := by simpa [cel] using hg'
  subst this
  simpa using hlt
theorem o_st {j mm : Nat} (A B B' C : List (List Value)) (hs0 : (P.info? t).map (·.size) = some mm) (hs1 : B'.flatten.length = mm) (hB : B'.flatten.length = B.flatten.length) (h1 : ∀ c ∈ B'.flatten, c.oneCell' = true)
    (hI : Iv W0 md μ0 μ its w) (hj : its[j]? = some (cel g (A ++ (B ++ C)) T)) (hA : FrG ds a n L) (hx : ov L x = some (.pointer (some ⟨g, o, none⟩))) (hy : ov L y = some u) (hc : u.cells = B'.flatten.toArray) (ho : A.flatten.length = o)
    (k : ∀ w, Iv W0 md μ0 μ (its.set j (cel g (A ++ (B' ++ C)) T)) w → wpList P ops Q rest a w) : wpList P ops Q (⟨none, .store t x y, ty, pos, aft, none⟩ :: rest) a w := by
  have hst : (storeVar t ⟨g, o, none⟩ u).run P w = .ok () (w.setRow g (A ++ (B' ++ C)).flatten.toArray) := by
    subst ho
    have hg := hI.cel_ok hj
    rw [List.flatten_append, List.flatten_append] at hg
    rw [List.flatten_append, List.flatten_append]
    exact run_storeVar_row (P := P) (hs0.trans (congrArg some hs1.symm)) hB hc h1 hg
  refine wpl_skip (w' := w.setRow g (A ++ (B' ++ C)).flatten.toArray) ?_ (k _ (hI.setRow hj))
  simp [execOp, hA.ev hx, hA.ev hy, Instr.storeAt, Instr.sureAddr, hst, -List.flatten_append]
theorem o_stE {j m i : Nat} {k : IntKind} {z : Int} {xs : List Int} (A C : List (List Value)) (hs : (P.info? t).map (·.size) = some 1) (hm : xs.length = m)
    (hI : Iv W0 md μ0 μ its w) (hj : its[j]? = some (cel g (A ++ (av k m xs :: C)) T)) (hA : FrG ds a n L) (hx : ov L x = some (.pointer (some ⟨g, o, none⟩))) (hy : ov L y = some (.int k z)) (ho : A.flatten.length + i = o) (hi : i < m)
    (kk : ∀ w, Iv W0 md μ0 μ (its.set j (cel g (A ++ (av k m (xs.set i z) :: C)) T)) w → wpList P ops Q rest a w) : wpList P ops Q (⟨none, .store t x y, ty, pos, aft, none⟩ :: rest) a w := by
  have hl := av_len k m xs
  have e1 : av k m xs = (av k m xs).take i ++ ([Value.int k (xs.getD i 0)] ++ (av k m xs).drop (i + 1)) := by
    have hg2 := av_get k m xs hi
    obtain ⟨h1, h2⟩ := List.getElem?_eq_some_iff.1 hg2
    rw [← h2]
    simp
  have e2 : av k m (xs.set i z) = (av k m xs).take i ++ ([Value.int k z] ++ (av k m xs).drop (i + 1)) := by
    rw [← av_set k m xs i z hm, List.set_eq_take_append_cons_drop, if_pos (by omega)]
    rfl
  have e0 : (A ++ (av k m xs :: C)).flatten = (A.flatten ++ (av k m xs).take i) ++ ([Value.int k (xs.getD i 0)] ++ ((av k m xs).drop (i + 1) ++ C.flatten)) := by
    rw [List.flatten_append, List.flatten_cons]
    conv => lhs; rw [e1]
    simp only [List.append_assoc]
  have e3 : (A ++ (av k m (xs.set i z) :: C)).flatten = (A.flatten ++ (av k m xs).take i) ++ ([Value.int k z] ++ ((av k m xs).drop (i + 1) ++ C.flatten)) := by
    rw [List.flatten_append, List.flatten_cons, e2]
    simp only [List.append_assoc]
  have hlen : (A.flatten ++ (av k m xs).take i).length = o := by rw [List.length_append, List.length_take, hl, ← ho, Nat.min_eq_left (Nat.le_of_lt hi)]
  have hst : (storeVar t ⟨g, o, none⟩ (.int k z)).run P w = .ok () (w.setRow g (A ++ (av k m (xs.set i z) :: C)).flatten.toArray) := by
    have hg := hI.cel_ok hj
    rw [e0] at hg
    rw [e3, ← hlen]
    exact run_storeVar_row (P := P) (t := t) (u := .int k z) (B := [Value.int k (xs.getD i 0)]) (B' := [Value.int k z]) hs rfl rfl (by simp [Value.oneCell']) hg
  refine wpl_skip (w' := w.setRow g (A ++ (av k m (xs.set i z) :: C)).flatten.toArray) ?_ (kk _ (hI.setRow hj))
  simp [execOp, hA.ev hx, hA.ev hy, Instr.storeAt, Instr.sureAddr, hst, -List.flatten_append]
def CalleeF (P : Program) (f : FuncId) : Prop := ∃ fn, P.funcs[f]? = some fn ∧ (fn.name == "runtime.NumGoroutine") = false ∧ fn.body.isNone = false
def ovs (L : List (Nat × Value)) : List Operand → Option (List Value)
  | [] => some []
  | x :: xs => match ov L x, ovs L xs with
    | some v, some vs => some (v :: vs)
    | _, _ => none
theorem FrG.evs (h : FrG ds a n L) : ∀ {xs : List Operand} {vs : List Value}, ovs L xs = some vs → xs.map a.eval = vs
  | [], vs, e => by simpa [ovs] using e
  | x :: xs, vs, e => by
    simp only [ovs] at e
    cases h1 : ov L x with
    | none => simp [h1] at e
    | some v =>
      cases h2 : ovs L xs with
      | none => simp [h1, h2] at e
      | some us =>
        simp [h1, h2] at e
        subst e
        simp [h.ev h1, h.evs h2]
theorem run_call {f : FuncId} {xs : List Operand} {vs : List Value} {ats : Array TypeId} {gd : Option (Nat × Bool)} (hf : CalleeF P f) (hA : FrG ds a n L) (hv : ovs L xs = some vs) :
    (execOp a.eval ⟨dst, .call { callee := .value (.func f), args := xs.toArray, argTypes := ats }, ty, pos, aft, gd⟩).run P w = .ok (.enter f vs.toArray) w := by
  obtain ⟨fn, h1, h2, h3⟩ := hf
  have h4 := hA.evs hv
  show (callFunc f (#[] ++ xs.toArray.map a.eval ++ #[])).run P w = _
  have h2' : fn.name ≠ "runtime.NumGoroutine" := by simpa using h2
  have h3' : fn.body ≠ none := fun e => by rw [e] at h3; cases h3
  simp [callFunc, h1, h2', h3', h4, program, Sem.run]
theorem o_call {f : FuncId} {xs : List Operand} {vs : List Value} {ats : Array TypeId} (Z : Value → World → Prop) (hf : CalleeF P f) (hA : FrG ds a n L) (hv : ovs L xs = some vs) (hc : Calls P f vs.toArray w fun e w' => ∃ v, e = .returned v ∧ Z v w')
    (hd : Nat.ble (d + 1) n = true) (k : ∀ v a w', Z v w' → FrG ds a n ((d, v) :: L) → wpList P ops Q rest a w') :
    wpList P ops Q (⟨some d, .call { callee := .value (.func f), args := xs.toArray, argTypes := ats }, ty, pos, aft, none⟩ :: rest) a w :=
  wpList_plain rfl fun K hK => by
    unfold Oper.wp
    rw [run_call hf hA hv]
    exact hc.mono fun e w' ⟨v, he, hz⟩ => by subst he; exact hK _ _ (k v _ _ hz (hA.put hd v))
theorem o_callp {f : FuncId} {xs : List Operand} {vs : List Value} {ats : Array TypeId} {Z : Prop} (hf : CalleeF P f) (hA : FrG ds a n L) (hv : ovs L xs = some vs) (hI : Iv W0 md μ0 μ its w) (hc : Calls P f vs.toArray w fun e w' => ∃ v, e = .returned v ∧ v = u ∧ Z ∧ Iv w [] μ μ [] w')
    (hd : Nat.ble (d + 1) n = true) (k : ∀ a w', Z → Iv W0 md μ0 μ its w' → FrG ds a n ((d, u) :: L) → wpList P ops Q rest a w') :
    wpList P ops Q (⟨some d, .call { callee := .value (.func f), args := xs.toArray, argTypes := ats }, ty, pos, aft, none⟩ :: rest) a w :=
  o_call (fun v w' => v = u ∧ Z ∧ Iv w [] μ μ [] w') hf hA hv hc hd fun v a w' ⟨e, hz, h'⟩ hA => by subst e; exact k a w' hz (hI.call h') hA
end
section
variable {P : Program} {ds : List Deferred} {a : Act} {w : World} {n : Nat} {L : List (Nat × Value)} {v : Value} {fn : Func} {Post : Ending → World → Prop}
def RetP (P : Program) (fn : Func) (Post : Ending → World → Prop) : AW := fun a w => a.defers = [] ∧ ∃ v, (results fn a.tmps).run P w = .ok v w ∧ Post (.returned v) w
theorem enter {f : FuncId} {c : Code} {args : List Value} {m : Nat} (hf : P.funcs[f]? = some fn) (hb : fn.body = some c) (hm : fn.ntmps = m) (hn : Nat.ble args.length m = true)
    (h : ∀ a, FrG [] a m (fr0 0 args) → c.wp P (PQ (RetP P fn Post) [] (RetP P fn Post)) a w) : Calls P f args.toArray w Post := by
  refine calls_of_wp hf hb (wp_mono (h _ ?_) fun e a w hq => ?_)
  · subst hm
    have := FrG.start args.toArray fn.ntmps (by simpa using hn)
    simpa using this
  · cases e with
    | normal => exact hq
    | ret => exact hq
    | exit i => obtain ⟨M, hM, _⟩ := hq; simp at hM
    | _ => exact hq.elim
theorem ret1 {t : Nat} (hA : FrG [] a n L) (hr : fn.results = #[.tmp t]) (hv : lk L t = some v) (h : Post (.returned v) w) : RetP P fn Post a w := by
  refine ⟨hA.d, v, ?_, h⟩
  have := hA.g t v hv
  rw [results_tmp hr]
  simp [this]
theorem ret0 (hA : FrG [] a n L) (hr : fn.results = #[]) (h : Post (.returned (.tuple #[])) w) : RetP P fn Post a w :=
  ⟨hA.d, _, results_none hr _ _ _, h⟩
theorem ret2 {t u : Nat} {v' : Value} (hA : FrG [] a n L) (hr : fn.results = #[.tmp t, .tmp u]) (hv : lk L t = some v) (hv' : lk L u = some v') (h : Post (.returned (.tuple #[v, v'])) w) : RetP P fn Post a w := by
  refine ⟨hA.d, _, ?_, h⟩
  have h1 := hA.g t v hv
  have h2 := hA.g u v' hv'
  rw [results_tmp2 hr]
  simp [h1, h2]
theorem retc {W0 : World} {md : List Nat} {μ0 μ : Store} {its : List It} {t T mm : Nat} {d : TypeDesc} {j g : Nat} {chs : List (List Value)} (hu : P.underlying T = some d) (hd : isAggD d = true) (hs0 : (P.info? T).map (·.size) = some mm) (hs1 : chs.flatten.length = mm)
    (hI : Iv W0 md μ0 μ its w) (hj : its[j]? = some (cel g chs T)) (hA : FrG [] a n L) (hr : fn.results = #[.cell t T]) (hv : lk L t = some (.pointer (some ⟨g, 0, none⟩))) (h : Post (.returned (.agg chs.flatten.toArray)) w) : RetP P fn Post a w := by
  refine ⟨hA.d, _, ?_, h⟩
  have h1 := hA.g t _ hv
  have hg := hI.cel_ok hj
  have hl := run_loadVar_agg (P := P) (w := w) hu hd (hs0.trans (congrArg some hs1.symm)) ⟨g, 0, none⟩ (fun j u hu => by
    rw [add_eq]
    simp only [World.cell?, hg, Nat.zero_add]
    simpa using hu)
  simp [results, hr, h1, asAddr, hl]
end
end Go.Proofs.YtkfpmcplfodikaaDoor.K
namespace Go.Proofs.YtkfpmcplfodikaaDoor.K
open Go
section
variable {P : Program} {ops : Array Oper} {rest : List Oper} {W0 : World} {md : List Nat} {μ0 μ : Store} {its : List It} {w : World} {ds : List Deferred} {a : Act} {n : Nat} {L : List (Nat × Value)} {d : Nat} {ty : TypeId} {pos : String} {aft : Array Edge} {v : Value} {op : Op}
  {C : World → Prop} {Q : Act → Prop} {N R : AW} {E : List (Nat × AW)}
theorem qtp (hA : FrG ds a n L) (h : ∀ w, C w → (execOp a.eval ⟨some d, op, ty, pos, aft, none⟩).run P w = .ok (.value v) w) (hd : Nat.ble (d + 1) n = true)
    (k : ∀ a, FrG ds a n ((d, v) :: L) → wpQuiet P ops C Q rest a) : wpQuiet P ops C Q (⟨some d, op, ty, pos, aft, none⟩ :: rest) a :=
  wpQuiet_step fun K hK => by
    rw [if_pos (show Region.wanted ⟨some d, op, ty, pos, aft, none⟩ (yielded ops a.tmps) = true from rfl)]
    refine ⟨v, fun w hw => ?_, hK _ (k _ (hA.put hd v))⟩
    unfold Oper.quietAt
    rw [h w hw]
    exact ⟨rfl, rfl⟩
theorem qcall {f : FuncId} {xs : List Operand} {vs : List Value} {ats : Array TypeId} (hf : CalleeF P f) (hA : FrG ds a n L) (hv : ovs L xs = some vs) (hc : ∀ w, C w → Calls P f vs.toArray w fun e w' => e = .returned v ∧ C w') (hd : Nat.ble (d + 1) n = true)
    (k : ∀ a, FrG ds a n ((d, v) :: L) → wpQuiet P ops C Q rest a) : wpQuiet P ops C Q (⟨some d, .call { callee := .value (.func f), args := xs.toArray, argTypes := ats }, ty, pos, aft, none⟩ :: rest) a :=
  wpQuiet_step fun K hK => by
    rw [if_pos (show Region.wanted ⟨some d, .call { callee := .value (.func f), args := xs.toArray, argTypes := ats }, ty, pos, aft, none⟩ (yielded ops a.tmps) = true from rfl)]
    refine ⟨v, fun w hw => ?_, hK _ (k _ (hA.put hd v))⟩
    unfold Oper.quietAt
    rw [run_call hf hA hv]
    exact ⟨rfl, hc w hw⟩
theorem q_nil (h : Q a) : wpQuiet P ops C Q [] a := h
theorem plq {f : FuncId} {vs : List Value} {u : Value} {Z : Prop} {w : World} (hc : Calls P f vs.toArray w fun e w' => ∃ v, e = .returned v ∧ v = u ∧ Z ∧ Iv w [] μ μ [] w') (hI : Iv W0 md μ0 μ its w) :
    Calls P f vs.toArray w fun e w' => e = .returned u ∧ Iv W0 md μ0 μ its w' :=
  hc.mono fun e w' ⟨v, he, hv, _, h'⟩ => ⟨by rw [he, hv], hI.call h'⟩
theorem w_draw {id : Nat} {l : List Oper} (hm : P.follows .mixedOrders = true) (hB : Region.lexB .any l.toArray = true) (hI : Iv W0 md μ0 μ its w)
    (h : wpQuiet P l.toArray (fun w => Iv W0 md μ0 μ its w) (fun a => ∀ w, Iv W0 md μ0 μ its w → N a w) l a) : (Code.region id l.toArray true).wp P (PQ N E R) a w :=
  wp_region_quiet (C := fun w => Iv W0 md μ0 μ its w) hm hB hI.drew1 h
end
theorem bind_some {α β : Type} {o : Option α} {f : α → Option β} {r : β} (h : o.bind f = some r) : ∃ x, o = some x ∧ f x = some r := by
  cases o with
  | none => cases h
  | some x => exact ⟨x, rfl, h⟩
theorem guard_some {α : Type} {c : Prop} [Decidable c] {o : Option α} {r : α} (h : (if c then o else none) = some r) : c ∧ o = some r := by
  by_cases hc : c
  · rw [if_pos hc] at h; exact ⟨hc, h⟩
  · rw [if_neg hc] at h; cases h
theorem bT {α β : Type} {c : Prop} [Decidable c] {A B : Option α} {K : α → Option β} {r : β} (h : (if c then A else B).bind K = some r) (hc : c) : A.bind K = some r := by rwa [if_pos hc] at h
theorem bF {α β : Type} {c : Prop} [Decidable c] {A B : Option α} {K : α → Option β} {r : β} (h : (if c then A else B).bind K = some r) (hc : ¬ c) : B.bind K = some r := by rwa [if_neg hc] at h
theorem bG {α β : Type} {c : Prop} [Decidable c] {A : Option α} {K : α → Option β} {r : β} (h : (if c then A else none).bind K = some r) : c ∧ A.bind K = some r := by
  by_cases hc : c
  · rw [if_pos hc] at h; exact ⟨hc, h⟩
  · rw [if_neg hc] at h; cases h
theorem bB {α β γ : Type} {o : Option α} {f : α → Option β} {K : β → Option γ} {r : γ} (h : (o.bind f).bind K = some r) : ∃ x, o = some x ∧ (f x).bind K = some r := by
  cases o with
  | none => cases h
  | some x => exact ⟨x, rfl, h⟩
theorem bI {α : Type} {o : Option α} {r : α} (h : o = some r) : o.bind some = some r := by rw [h]; rfl
theorem nT {b : Bool} (h : (!b) = true) : b = false := by cases b <;> first | rfl | cases h
theorem nF {b : Bool} (h : (!b) = false) : b = true := by cases b <;> first | rfl | cases h
theorem ft {b : Bool} (h : b = false) : ¬ b = true := by rw [h]; exact Bool.false_ne_true
def loopN {σ ρ : Type} (step : σ → Option (σ ⊕ ρ)) : Nat → σ → Option ρ
  | 0, _ => none
  | n + 1, s => match step s with
    | none => none
    | some (.inl s') => loopN step n s'
    | some (.inr r) => some r
open Classical in
noncomputable def loopO {σ ρ : Type} (step : σ → Option (σ ⊕ ρ)) (s : σ) : Option ρ :=
  if h : ∃ n r, loopN step n s = some r then some (h.choose_spec.choose) else none
section
variable {σ ρ : Type} {step : σ → Option (σ ⊕ ρ)} {s : σ} {r : ρ}
theorem loopN_mono {n : Nat} : ∀ {s : σ}, loopN step n s = some r → ∀ m, n ≤ m → loopN step m s = some r := by
  induction n with
  | zero => intro s h; cases h
  | succ n ih =>
    intro s h m hm
    obtain ⟨m, rfl⟩ : ∃ k, m = k + 1 := ⟨m - 1, by omega⟩
    simp only [loopN] at h ⊢
    cases hs : step s with
    | none => rw [hs] at h; cases h
    | some x =>
      rw [hs] at h
      cases x with
      | inl s' => exact ih h m (by omega)
      | inr r' => exact h
theorem loopN_one {n m : Nat} {r' : ρ} (h : loopN step n s = some r) (h' : loopN step m s = some r') : r = r' := by
  have h1 := loopN_mono h (max n m) (Nat.le_max_left _ _)
  have h2 := loopN_mono h' (max n m) (Nat.le_max_right _ _)
  rw [h1] at h2
  exact Option.some.inj h2
theorem loopO_of {n : Nat} (h : loopN step n s = some r) : loopO step s = some r := by
  unfold loopO
  have hx : ∃ n r, loopN step n s = some r := ⟨n, r, h⟩
  rw [dif_pos hx]
  exact congrArg some (loopN_one hx.choose_spec.choose_spec h)
theorem loopO_some (h : loopO step s = some r) : ∃ n, loopN step n s = some r := by
  unfold loopO at h
  split at h
  · rename_i hx
    have := Option.some.inj h
    subst this
    exact ⟨_, hx.choose_spec.choose_spec⟩
  · cases h
theorem loopO_eq : loopO step s = match step s with
    | none => none
    | some (.inl s') => loopO step s'
    | some (.inr r) => some r := by
  cases hs : step s with
  | none =>
    simp only
    cases h : loopO step s with
    | none => rfl
    | some r =>
      obtain ⟨n, hn⟩ := loopO_some h
      cases n with
      | zero => cases hn
      | succ n => simp only [loopN, hs] at hn; cases hn
  | some x =>
    cases x with
    | inr r => exact loopO_of (n := 1) (by simp [loopN, hs])
    | inl s' =>
      simp only
      cases h' : loopO step s' with
      | some r =>
        obtain ⟨n, hn⟩ := loopO_some h'
        exact loopO_of (n := n + 1) (by simpa [loopN, hs] using hn)
      | none =>
        cases h : loopO step s with
        | none => rfl
        | some r =>
          obtain ⟨n, hn⟩ := loopO_some h
          cases n with
          | zero => cases hn
          | succ n =>
            simp only [loopN, hs] at hn
            rw [loopO_of hn] at h'
            cases h'
theorem loopO_inl {s' : σ} (h : step s = some (.inl s')) : loopO step s = loopO step s' := by rw [loopO_eq, h]
theorem loopO_inr (h : step s = some (.inr r)) : loopO step s = some r := by rw [loopO_eq, h]
theorem loopN_bind {n : Nat} (h : loopN step n s = some r) : ∃ m, n = m + 1 ∧ (step s).bind (fun x => Sum.elim (loopN step m) some x) = some r := by
  cases n with
  | zero => cases h
  | succ n =>
    refine ⟨n, rfl, ?_⟩
    simp only [loopN] at h
    cases hs : step s with
    | none => rw [hs] at h; cases h
    | some x =>
      rw [hs] at h
      cases x with
      | inl s' => exact h
      | inr r' => exact h
end
end Go.Proofs.YtkfpmcplfodikaaDoor.K
namespace Go.Proofs.YtkfpmcplfodikaaDoor.K
open Go
set_option linter.unusedVariables false
set_option linter.unusedSimpArgs false
section
variable {P : Program} {W0 : World} {md : List Nat} {μ0 μ : Store} {its : List It} {w : World} {ds : List Deferred} {a : Act} {n : Nat} {L : List (Nat × Value)} {dst : Option Nat} {ty t T e : TypeId} {pos : String} {aft : Array Edge} {gd : Option (Nat × Bool)} {x y : Operand} {v : Value} {g o sz m : Nat} {cs : List Value}
theorem Iv.row_ok (hI : Iv W0 md μ0 μ its w) {j : Nat} (hj : its[j]? = some (row e sz v m cs)) : w.ownsRow 0 e sz v m cs := (hI.own _ (List.mem_of_getElem? hj)).1
theorem own_form (h : w.ownsRow 0 e sz v m cs) : ∃ A cp, v = .slice A m cp ∧ m ≤ cp ∧ cp ≤ maxLen ∧ (m ≠ 0 → A = some ⟨sb v, so v, none⟩ ∧ so v = 0) := by
  rcases h.2 with ⟨rfl, rfl⟩ | ⟨g, cap, cur, rfl, _, _, h1, h2, _⟩
  · exact ⟨none, 0, rfl, Nat.le_refl _, by simp [maxLen], fun h => absurd rfl h⟩
  · exact ⟨_, _, rfl, h1, h2, fun _ => ⟨rfl, rfl⟩⟩
theorem own_cells (h : w.ownsRow 0 e sz v m cs) {j : Nat} {u : Value} (hu : cs[j]? = some u) : w.cell? ⟨sb v, so v + j, none⟩ = some u := by
  rcases h.2 with ⟨rfl, rfl⟩ | ⟨g, cap, cur, rfl, _, _⟩
  · have := h.1
    simp only [Nat.zero_mul] at this
    rw [List.eq_nil_of_length_eq_zero this] at hu
    simp at hu
  · have := h.cells (g := g) rfl j u hu
    rw [add_eq] at this
    exact this
theorem r_rlen {j : Nat} {xs : Nat} (hu : P.underlying t = some (.slice e)) (hI : Iv W0 md μ0 μ its w) (hj : its[j]? = some (row T sz v m cs)) (hA : FrG ds a n L) (hx : ov L x = some v) :
    (execOp a.eval ⟨dst, .call { callee := .builtin .len, args := #[x], argTypes := #[t] }, ty, pos, aft, gd⟩).run P w = .ok (.value (.int .i64 m)) w := by
  obtain ⟨A, cp, e1, _⟩ := own_form (hI.row_ok hj)
  exact r_len hu hA (hx.trans (congrArg some e1))
theorem r_rix {j : Nat} {k : IntKind} {i : Int} (hu : P.underlying t = some (.slice e)) (hs : (P.info? e).map (·.size) = some sz) (hI : Iv W0 md μ0 μ its w) (hj : its[j]? = some (row T sz v m cs)) (hA : FrG ds a n L) (hx : ov L x = some v) (hy : ov L y = some (.int k i)) (h0 : 0 ≤ i) (h1 : i < (m : Int)) :
    (execOp a.eval ⟨dst, .indexAddr t x y, ty, pos, aft, gd⟩).run P w = .ok (.value (.pointer (some ⟨sb v, so v + i.toNat * sz, none⟩))) w := by
  obtain ⟨A, cp, e1, _, _, h4⟩ := own_form (hI.row_ok hj)
  have h4' := (h4 (by omega)).1
  cases hq : P.info? e with
  | none => simp [hq] at hs
  | some ei =>
    have hs' : ei.size = sz := by simpa [hq] using hs
    subst hs'
    rw [h4'] at e1
    exact r_ixs hu hq hA (hx.trans (congrArg some e1)) hy h0 h1
theorem r_rld1 {d : TypeDesc} {j q : Nat} {u : Value} (hu : P.underlying t = some d) (hd : isAggD d = false) (hI : Iv W0 md μ0 μ its w) (hj : its[j]? = some (row T sz v m cs)) (hc : cs[q]? = some u) (hA : FrG ds a n L) (hx : ov L x = some (.pointer (some ⟨sb v, o, none⟩))) (ho : so v + q = o) :
    (execOp a.eval ⟨dst, .load t x, ty, pos, aft, gd⟩).run P w = .ok (.value u) w := by
  subst ho
  have := own_cells (hI.row_ok hj) hc
  simp [execOp, hA.ev hx, Instr.loadAt, Instr.sureAddr, run_loadVar_one (P := P) hu hd _ this]
theorem r_rldA {d : TypeDesc} {j q mm : Nat} {A B C : List Value} (hu : P.underlying t = some d) (hd : isAggD d = true) (hs0 : (P.info? t).map (·.size) = some mm) (hs1 : B.length = mm) (hI : Iv W0 md μ0 μ its w) (hj : its[j]? = some (row T sz v m cs)) (hc : cs = A ++ (B ++ C)) (hq : A.length = q) (hA : FrG ds a n L) (hx : ov L x = some (.pointer (some ⟨sb v, o, none⟩))) (ho : so v + q = o) :
    (execOp a.eval ⟨dst, .load t x, ty, pos, aft, gd⟩).run P w = .ok (.value (.agg B.toArray)) w := by
  have h : ∀ i u, B[i]? = some u → w.cell? ((⟨sb v, o, none⟩ : Addr).add i) = some u := fun i u hi => by
    rw [add_eq, ← ho, Nat.add_assoc]
    have hlt : i < B.length := by
      rcases Nat.lt_or_ge i B.length with h' | h'
      · exact h'
      · rw [List.getElem?_eq_none h'] at hi; cases hi
    exact own_cells (hI.row_ok hj) (by rw [hc, ← hq, List.getElem?_append_right (by omega), Nat.add_sub_cancel_left, List.getElem?_append_left hlt]; exact hi)
  simp [execOp, hA.ev hx, Instr.loadAt, Instr.sureAddr, run_loadVar_agg (P := P) hu hd (hs0.trans (congrArg some hs1.symm)) _ h]
end
theorem els_int {k : IntKind} {xs : List Int} (h : ∀ x ∈ xs, InR k x) : Els (RI k) 1 xs (xs.map (.int k)) := by
  induction xs with
  | nil => exact .nil
  | cons x xs ih => exact .cons (c := [.int k x]) ⟨rfl, h x (by simp)⟩ rfl (ih fun y hy => h y (by simp [hy]))
theorem els_av {k : IntKind} {m : Nat} {xs : List Int} (h : Arr k m xs) : Els (RI k) 1 xs [av k m xs].flatten := by
  have := els_int h.2
  rw [← av_map k m xs h.1] at this
  simpa using this
theorem one_av (k : IntKind) (m : Nat) (xs : List Int) : ∀ c ∈ av k m xs, c.oneCell' = true := by
  intro c hc
  obtain ⟨x, _, rfl⟩ := List.mem_map.1 hc
  rfl
theorem Els.ones {α : Type} {RE : α → List Value → Prop} {sz : Nat} {xs : List α} {cs : List Value} (h : Els RE sz xs cs) (h1 : ∀ x c, RE x c → ∀ u ∈ c, u.oneCell' = true) : ∀ u ∈ cs, u.oneCell' = true := by
  induction h with
  | nil => simp
  | cons hr _ _ ih =>
    intro u hu
    rcases List.mem_append.1 hu with hu | hu
    · exact h1 _ _ hr u hu
    · exact ih u hu
theorem one_RI (k : IntKind) : ∀ x c, RI k x c → ∀ u ∈ c, u.oneCell' = true := by
  rintro x c ⟨rfl, _⟩ u hu
  simp at hu
  subst hu
  rfl
theorem one_RA (k : IntKind) (m : Nat) : ∀ x c, RA k m x c → ∀ u ∈ c, u.oneCell' = true := by
  rintro x c ⟨rfl, _⟩ u hu
  simp at hu
  exact one_av k m x u hu
theorem one_sl {μ : Store} {v : Value} {n : Nat} {cs : List Value} (h : SlV μ v n cs) : v.oneCell' = true := by
  obtain ⟨A, cp, rfl, _⟩ := h
  rfl
theorem arr_lit {k : IntKind} {m : Nat} {xs : List Int} (h : xs.length = m) (hx : ∀ x ∈ xs, InR k x) : Arr k m xs := ⟨h, hx⟩
theorem fl_nil : ∀ c ∈ ([] : List (List Value)).flatten, c.oneCell' = true := by simp
theorem fl_cons {x : List Value} {xs : List (List Value)} (h : ∀ c ∈ x, c.oneCell' = true) (hs : ∀ c ∈ xs.flatten, c.oneCell' = true) : ∀ c ∈ (x :: xs).flatten, c.oneCell' = true := by
  intro c hc
  rw [List.flatten_cons] at hc
  rcases List.mem_append.1 hc with hc | hc
  · exact h c hc
  · exact hs c hc
theorem oneC {v : Value} (h : v.oneCell' = true) : ∀ c ∈ [v], c.oneCell' = true := by
  intro c hc
  have : c = v := by simpa using hc
  subst this
  exact h
theorem tmod_in {k : IntKind} {x : Int} (h : InR k x) (y : Int) : InR k (Int.tmod x y) := by
  have h1 : (Int.tmod x y).natAbs ≤ x.natAbs := by rw [Int.natAbs_tmod]; exact Nat.mod_le _ _
  have h2 : 0 ≤ x → 0 ≤ Int.tmod x y := fun h => Int.tmod_nonneg y h
  have h3 : x ≤ 0 → Int.tmod x y ≤ 0 := fun h => by
    have := Int.tmod_nonneg y (a := -x) (by omega)
    rw [Int.neg_tmod] at this
    omega
  cases k <;> simp only [InR] at * <;> omega
theorem sR_in {k : IntKind} {x : Int} (hs : k.signed = false) (h : InR k x) (y : Int) : InR k (sR k x y) := by
  unfold sR
  generalize min y.toNat k.bits = n
  have hp : (0 : Int) < 2 ^ n := Int.pow_pos (by decide)
  have e : x.fdiv (2 ^ n) = x / 2 ^ n := Int.fdiv_eq_ediv_of_nonneg x (Int.le_of_lt hp)
  rw [e]
  have h1 : 0 ≤ x → 0 ≤ x / 2 ^ n := fun h => Int.ediv_nonneg h (Int.le_of_lt hp)
  have h2 : 0 ≤ x → x / 2 ^ n ≤ x := fun h => Int.ediv_le_self _ h
  cases k <;> first | (simp [IntKind.signed] at hs; done) | (simp only [InR] at *; omega)
theorem Iv.row_in {W0 : World} {md : List Nat} {μ0 μ : Store} {its : List It} {w : World} (hI : Iv W0 md μ0 μ its w) {j e sz m : Nat} {v : Value} {cs : List Value} (hj : its[j]? = some (row e sz v m cs)) : InR .i64 (m : Int) := by
  obtain ⟨A, cp, _, h1, h2, _⟩ := own_form (hI.row_ok hj)
  simp only [maxLen] at h2
  exact ⟨by omega, by omega⟩
theorem eqIn_nil {P : Program} {w : World} {t e : TypeId} (d : Nat) (A : Option Addr) (m cp : Nat) (hu : P.underlying t = some (.slice e)) : (Op.equalIn (d + 1) t (.slice A m cp) (.slice none 0 0)).run P w = .ok A.isNone w := by
  cases A <;> simp [Op.equalIn, run_underlying hu]
def inb : IntKind → Int → Bool
  | .i8, n => decide (-128 ≤ n) && decide (n < 128)
  | .i16, n => decide (-32768 ≤ n) && decide (n < 32768)
  | .i32, n => decide (-2147483648 ≤ n) && decide (n < 2147483648)
  | .i64, n => decide (-9223372036854775808 ≤ n) && decide (n < 9223372036854775808)
  | .u8, n => decide (0 ≤ n) && decide (n < 256)
  | .u16, n => decide (0 ≤ n) && decide (n < 65536)
  | .u32, n => decide (0 ≤ n) && decide (n < 4294967296)
  | .u64, n => decide (0 ≤ n) && decide (n < 18446744073709551616)
theorem in_lit (k : IntKind) (x : Int) (h : inb k x = true) : InR k x := by
  cases k <;> simpa [inb, InR] using h
theorem r_eqlb {P : Program} {w : World} {ds : List Deferred} {a : Act} {n : Nat} {L : List (Nat × Value)} {dst : Option Nat} {ty t t' : TypeId} {pos : String} {aft : Array Edge} {g : Option (Nat × Bool)} {x y : Operand} {b c : Bool} (hu : P.underlying t = some .bool) (hA : FrG ds a n L) (hx : ov L x = some (.bool b)) (hy : ov L y = some (.bool c)) :
    (execOp a.eval ⟨dst, .binOp .eql t x y t', ty, pos, aft, g⟩).run P w = .ok (.value (.bool (decide (b = c)))) w := by
  have e : (b == c) = decide (b = c) := by cases b <;> cases c <;> rfl
  simp [execOp, hA.ev hx, hA.ev hy, eqGuard, run_eql_bool w t b c hu, e]
theorem r_neqb {P : Program} {w : World} {ds : List Deferred} {a : Act} {n : Nat} {L : List (Nat × Value)} {dst : Option Nat} {ty t t' : TypeId} {pos : String} {aft : Array Edge} {g : Option (Nat × Bool)} {x y : Operand} {b c : Bool} (hu : P.underlying t = some .bool) (hA : FrG ds a n L) (hx : ov L x = some (.bool b)) (hy : ov L y = some (.bool c)) :
    (execOp a.eval ⟨dst, .binOp .neq t x y t', ty, pos, aft, g⟩).run P w = .ok (.value (.bool (decide (b ≠ c)))) w := by
  have e : (b != c) = decide (b ≠ c) := by cases b <;> cases c <;> rfl
  have h : (binOp .neq t (.bool b) (.bool c)).run P w = .ok (.bool (b != c)) w := by
    have h1 := run_equalIn_bool w 9999 t b c hu
    simp only [binOp, Op.equal, Op.maxDepth]
    rw [Sem.run_bind, h1]
    rfl
  simp [execOp, hA.ev hx, hA.ev hy, eqGuard, h, e]
theorem r_eqnil {P : Program} {w : World} {ds : List Deferred} {a : Act} {n : Nat} {L : List (Nat × Value)} {dst : Option Nat} {ty t t' e : TypeId} {pos : String} {aft : Array Edge} {g : Option (Nat × Bool)} {x y : Operand} {A : Option Addr} {m cp : Nat} (hu : P.underlying t = some (.slice e)) (hA : FrG ds a n L) (hx : ov L x = some (.slice A m cp)) (hy : ov L y = some (.slice none 0 0)) :
    (execOp a.eval ⟨dst, .binOp .eql t x y t', ty, pos, aft, g⟩).run P w = .ok (.value (.bool A.isNone)) w := by
  have h := eqIn_nil (P := P) (w := w) 9999 A m cp hu
  have hb : (binOp .eql t (.slice A m cp) (.slice none 0 0)).run P w = .ok (.bool A.isNone) w := by
    simp only [binOp, Op.equal, Op.maxDepth]
    rw [Sem.run_bind, h]
    rfl
  simp [execOp, hA.ev hx, hA.ev hy, eqGuard, hb]
section
variable {P : Program} {Q : Exit → AW} {ops : Array Oper} {rest : List Oper} {W0 : World} {md : List Nat} {μ0 μ : Store} {its : List It} {w : World} {ds : List Deferred} {a : Act} {n : Nat} {L : List (Nat × Value)} {d : Nat} {dst : Option Nat} {ty t T e : TypeId} {pos : String} {aft : Array Edge} {x y : Operand} {v u vx : Value} {g o sz m mx by_ : Nat} {cs news : List Value}
theorem run_app {i : TypeInfo} {z : Value} (ht : P.underlying t = some (.slice e)) (hi : P.info? e = some i) (hz : i.zero = some z) (hsize : i.size = sz) (hzs : z.cells.size = sz) (hby : i.bytes = by_)
    (hown : w.ownsRow 0 e sz v m cs) {ad : Addr} {c : Nat} (hl : news.length = mx * sz) (hnews : ∀ j u, news[j]? = some u → w.cell? (ad.add j) = some u) (h1 : ∀ u ∈ news, u.oneCell' = true)
    (h63 : m + mx ≤ maxLen) (hb : (m + mx) * by_ ≤ 140737488355328) :
    ∃ v' w', (Builtin.append_ #[t, t] ty #[v, .slice (some ad) mx c]).run P w = .ok v' w' ∧ w'.ownsRow 0 e sz v' (m + mx) (cs ++ news) ∧ w.grownBy w' v.ownBlock ∧ (∀ k, v'.ownBlock = some k → v.ownBlock = some k ∨ w.heap.size ≤ k) ∧ (∀ k, v'.ownBlock = some k → k < w'.heap.size) := by
  subst hsize
  subst hby
  have hsmall : m + mx ≤ 9223372036854775807 := by simp only [maxLen] at h63; omega
  have hlen : (cs ++ news).length = (m + mx) * i.size := by rw [List.length_append, hown.1, hl, Nat.add_mul]
  have grown : ∀ (old : Nat), old < m + mx → ∀ (row : Option Nat),
      (w.drew.alloc (.cells (cs.toArray ++ news.toArray ++ Builtin.zeroCells z.cells (grownCap w (m + mx) old e - (m + mx))) e)).ownsRow 0 e i.size
        (.slice (some ⟨w.heap.size, 0, none⟩) (m + mx) (grownCap w (m + mx) old e)) (m + mx) (cs ++ news) ∧
      w.grownBy (w.drew.alloc (.cells (cs.toArray ++ news.toArray ++ Builtin.zeroCells z.cells (grownCap w (m + mx) old e - (m + mx))) e)) row := by
    intro old ho row
    have hge := grownCap_ge w (m + mx) old e
    have hcm : grownCap w (m + mx) old e ≤ maxLen := grownCap_le_maxLen w (m + mx) old e h63
    refine ⟨⟨hlen, .inr ⟨w.heap.size, _, _, rfl, Nat.zero_le _, heap_alloc_new w.drew _, hge, hcm, ?_, ?_⟩⟩, ⟨rfl, rfl, rfl, by simp, fun k hk _ => RowKit.Below.heap_alloc w.drew _ k hk⟩⟩
    · simp only [Array.size_append, List.size_toArray, size_zeroCells, hzs, hown.1, hl, ← Nat.add_mul]
      congr 1
      omega
    · simp only [Array.toList_append, List.append_assoc]
      rw [← List.append_assoc, ← hlen]
      exact List.take_left
  have hnewsz : ∀ (o : Obj), (w.drew.alloc o).heap.size = w.heap.size + 1 := fun o => by show (w.heap.push o).size = _; simp
  rcases hown.2 with ⟨rfl, rfl⟩ | ⟨g, cap, cur, rfl, hbg, hg, hnc, hcm, hcs, htake⟩
  · have hx : cs = [] := List.eq_nil_of_length_eq_zero (by simpa using hown.1)
    subst hx
    by_cases hm : mx = 0
    · subst hm
      have hn : news = [] := List.eq_nil_of_length_eq_zero (by simpa using hl)
      subst hn
      refine ⟨.slice none 0 0, w, ?_, World.ownsRow_nil w 0 e i.size, ⟨rfl, rfl, rfl, Nat.le_refl _, fun _ _ _ => rfl⟩, fun k hk => by simp [Value.ownBlock] at hk, fun k hk => by simp [Value.ownBlock] at hk⟩
      simp [Builtin.append_, run_underlying ht, sizeOf, typeInfo, hi, Builtin.lenOf, Builtin.firstCells, loadCells, loadCellsFrom]
    · have hr := run_append_nil (P := P) w t ty e i z ht hi hz ad mx c news hl hnews (by omega) (by omega) (by have hb' := hb; simp only [Nat.zero_add] at hb'; omega)
      have hgr := grown 0 (by omega) (Value.ownBlock (.slice none 0 0))
      simp only [Nat.zero_add, List.nil_append, Array.empty_append] at hgr ⊢
      exact ⟨_, _, hr, hgr.1, hgr.2, fun k hk => .inr (by simp [Value.ownBlock] at hk; omega), fun k hk => by rw [hnewsz]; simp [Value.ownBlock] at hk; omega⟩
  · have hglt : g < w.heap.size := (Array.getElem?_eq_some_iff.1 hg).1
    by_cases hroom : m + mx ≤ cap
    · have hfit : m * i.size + news.length ≤ cur.size := by rw [hl, hcs, ← Nat.add_mul]; exact Nat.mul_le_mul_right _ hroom
      have hr := run_append_room (P := P) w t ty e i ht hi g m cap cur hg ad mx c news hl hnews h1 hroom hfit
      refine ⟨_, _, hr, ⟨hlen, .inr ⟨g, cap, _, rfl, hbg, setRow_heap w g cur _ e _ hg, hroom, hcm, ?_, ?_⟩⟩, ⟨rfl, rfl, rfl, by simp, fun k _ hk => setRow_other w g k _ (fun e => hk (by simp [Value.ownBlock, e]))⟩, fun k hk => .inl hk, fun k hk => ?_⟩
      · simp only [List.size_toArray, List.length_append, List.length_take, List.length_drop, Array.length_toList]
        omega
      · rw [htake, ← hlen]
        exact List.take_left
      · simp [Value.ownBlock] at hk
        subst hk
        simpa using hglt
    · have holds : ∀ j u, cs[j]? = some u → w.cell? ((⟨g, 0, none⟩ : Addr).add j) = some u := hown.cells (g := g) rfl
      have hr := run_append_grow (P := P) w t ty e i z ht hi hz ⟨g, 0, none⟩ m cap cs hown.1 holds ad mx c news hl hnews (by omega) (by omega) (growslice_fits (by omega) hb)
      have hgr := grown cap (by omega) (Value.ownBlock (.slice (some ⟨g, 0, none⟩) m cap))
      exact ⟨_, _, hr, hgr.1, hgr.2, fun k hk => .inr (by simp [Value.ownBlock] at hk; omega), fun k hk => by rw [hnewsz]; simp [Value.ownBlock] at hk; omega⟩
def TyE (P : Program) (e : TypeId) (sz by_ : Nat) : Prop := ∃ i z, P.info? e = some i ∧ i.zero = some z ∧ i.size = sz ∧ z.cells.size = sz ∧ i.bytes = by_
theorem TyE.of (h1 : (P.info? e).map (·.size) = some sz) (h2 : (P.info? e).map (·.bytes) = some by_) (h3 : ∃ z, (P.info? e).map (·.zero) = some (some z) ∧ z.cells.size = sz) : TyE P e sz by_ := by
  obtain ⟨z, h3, h4⟩ := h3
  cases hq : P.info? e with
  | none => simp [hq] at h1
  | some i => exact ⟨i, z, hq, by simpa [hq] using h3, by simpa [hq] using h1, h4, by simpa [hq] using h2⟩
theorem run_app0 {i : TypeInfo} (ht : P.underlying t = some (.slice e)) (hi : P.info? e = some i) (hown : w.ownsRow 0 e sz v m cs) (c : Nat) :
    (Builtin.append_ #[t, t] ty #[v, .slice none 0 c]).run P w = .ok v w := by
  rcases hown.2 with ⟨rfl, rfl⟩ | ⟨g, cap, cur, rfl, hbg, hg, hnc, hcm, hcs, htake⟩
  · simp [Builtin.append_, run_underlying ht, sizeOf, typeInfo, hi, Builtin.lenOf, Builtin.firstCells]
  · simp [Builtin.append_, run_underlying ht, sizeOf, typeInfo, hi, Builtin.lenOf, Builtin.firstCells, hnc, storeCells]
theorem o_app {j : Nat} (hte : TyE P e sz by_) (ht : P.underlying t = some (.slice e)) (hI : Iv W0 md μ0 μ its w) (hj : its[j]? = some (row e sz v m cs)) (hA : FrG ds a n L) (hx : ov L x = some v) (hy : ov L y = some vx)
    (hf : ∃ A cp, vx = .slice A mx cp ∧ (mx ≠ 0 → ∃ ad, A = some ad ∧ ∀ j u, news[j]? = some u → w.cell? (ad.add j) = some u)) (hl : news.length = mx * sz) (h1 : ∀ u ∈ news, u.oneCell' = true)
    (h63 : m + mx ≤ maxLen) (hb : (m + mx) * by_ ≤ 140737488355328) (hd : Nat.ble (d + 1) n = true)
    (k : ∀ v' a w, FrG ds a n ((d, v') :: L) → Iv W0 md μ0 μ (its.set j (row e sz v' (m + mx) (cs ++ news))) w → wpList P ops Q rest a w) :
    wpList P ops Q (⟨some d, .call { callee := .builtin .append, args := #[x, y], argTypes := #[t, t] }, ty, pos, aft, none⟩ :: rest) a w := by
  obtain ⟨i, z, hi, hz, hsize, hzs, hby⟩ := hte
  obtain ⟨A, cp, rfl, hA2⟩ := hf
  have hown := hI.row_ok hj
  have main : ∃ v' w', (Builtin.append_ #[t, t] ty #[v, .slice A mx cp]).run P w = .ok v' w' ∧ w'.ownsRow 0 e sz v' (m + mx) (cs ++ news) ∧ w.grownBy w' v.ownBlock ∧ (∀ k, v'.ownBlock = some k → v.ownBlock = some k ∨ w.heap.size ≤ k) ∧ (∀ k, v'.ownBlock = some k → k < w'.heap.size) := by
    cases A with
    | some ad =>
      by_cases h0 : mx = 0
      · subst h0
        have hn : news = [] := List.eq_nil_of_length_eq_zero (by simpa using hl)
        subst hn
        exact run_app ht hi hz hsize hzs hby hown (by simp) (fun j u hu => by simp at hu) (by simp) h63 hb
      · obtain ⟨ad', e1, h2⟩ := hA2 h0
        cases e1
        exact run_app ht hi hz hsize hzs hby hown hl h2 h1 h63 hb
    | none =>
      have h0 : mx = 0 := by
        rcases Nat.eq_zero_or_pos mx with h | h
        · exact h
        · obtain ⟨ad, e1, _⟩ := hA2 (by omega); cases e1
      subst h0
      have hn : news = [] := List.eq_nil_of_length_eq_zero (by simpa using hl)
      subst hn
      refine ⟨v, w, run_app0 ht hi hown cp, by simpa using hown, ⟨rfl, rfl, rfl, Nat.le_refl _, fun _ _ _ => rfl⟩, fun k hk => .inl hk, fun k hk => ?_⟩
      exact ((hI.own _ (List.mem_of_getElem? hj)).2 k (by simp [row, hk])).1
  obtain ⟨v', w', hr, ho', hg, hb1, hb2⟩ := main
  refine wpl_val (v := v') (w' := w') ?_ (k v' _ w' (hA.put hd v') (hI.upd j _ (row e sz v' (m + mx) (cs ++ news)) hj hg.os hg.tape hg.output hg.size (fun k hk hn => hg.block k hk (fun e => hn (by simp [row, ← e]))) (fun g hg' => ?_) (fun g hg' => ?_) ?_ ho'))
  · simp only [execOp, resolve, invoke, builtin, Sem.run_bind, Sem.run_pure, Result.andThen_ok, List.map_toArray, List.map_cons, List.map_nil, hA.ev hx, hA.ev hy, hr]
  · have : v'.ownBlock = some g := by simpa [row] using hg'
    rcases hb1 g this with h' | h'
    · exact .inl (by simp [row, h'])
    · exact .inr h'
  · exact hb2 g (by simpa [row] using hg')
  · cases h : v'.ownBlock <;> simp [row, h]
theorem o_appL {α : Type} {xs ys : List α} {j : Nat} (hte : TyE P e sz by_) (ht : P.underlying t = some (.slice e)) (hI : Iv W0 md μ0 μ its w) (hj : its[j]? = some (row e sz v xs.length cs)) (hA : FrG ds a n L) (hx : ov L x = some v) (hy : ov L y = some vx)
    (hf : ∃ A cp, vx = .slice A ys.length cp ∧ (ys.length ≠ 0 → ∃ ad, A = some ad ∧ ∀ j u, news[j]? = some u → w.cell? (ad.add j) = some u)) (hl : news.length = ys.length * sz) (h1 : ∀ u ∈ news, u.oneCell' = true)
    (h63 : xs.length + ys.length ≤ maxLen) (hb : (xs.length + ys.length) * by_ ≤ 140737488355328) (hd : Nat.ble (d + 1) n = true)
    (k : ∀ v' a w, FrG ds a n ((d, v') :: L) → Iv W0 md μ0 μ (its.set j (row e sz v' (xs ++ ys).length (cs ++ news))) w → wpList P ops Q rest a w) :
    wpList P ops Q (⟨some d, .call { callee := .builtin .append, args := #[x, y], argTypes := #[t, t] }, ty, pos, aft, none⟩ :: rest) a w :=
  o_app hte ht hI hj hA hx hy hf hl h1 h63 hb hd fun v' a w hA hI => k v' a w hA (by rw [List.length_append]; exact hI)
theorem src_sl (hr : Agr μ w) (h : SlV μ vx mx news) (hl : news.length = mx * sz) : ∃ A cp, vx = .slice A mx cp ∧ (mx ≠ 0 → ∃ ad, A = some ad ∧ ∀ j u, news[j]? = some u → w.cell? (ad.add j) = some u) := by
  obtain ⟨A, cp, e1, _, _, h4, h5⟩ := h
  exact ⟨A, cp, e1, fun h0 => ⟨_, h4 h0, fun j u hu => (h5 h0).cellq hr hu⟩⟩
theorem src_row {j : Nat} (hI : Iv W0 md μ0 μ its w) (hj : its[j]? = some (row T sz vx mx news)) : ∃ A cp, vx = .slice A mx cp ∧ (mx ≠ 0 → ∃ ad, A = some ad ∧ ∀ j u, news[j]? = some u → w.cell? (ad.add j) = some u) := by
  have hown := hI.row_ok hj
  obtain ⟨A, cp, e1, _, _, h4⟩ := own_form hown
  refine ⟨A, cp, e1, fun h0 => ⟨_, (h4 h0).1, fun j u hu => ?_⟩⟩
  rw [add_eq]
  exact own_cells hown hu
theorem Iv.nilRow (hI : Iv W0 md μ0 μ its w) (e sz : Nat) : Iv W0 md μ0 μ (row e sz (.slice none 0 0) 0 [] :: its) w := by
  refine ⟨hI.os, hI.tape, hI.out, hI.size, hI.frame, hI.le, hI.agr, hI.fresh, by simpa [row, Value.ownBlock] using hI.nodup, fun i hi => ?_⟩
  rcases List.mem_cons.1 hi with rfl | hi
  · exact ⟨World.ownsRow_nil w 0 e sz, fun g hg => by simp [row, Value.ownBlock] at hg⟩
  · exact hI.own i hi
theorem Iv.freezeRow (hI : Iv W0 md μ0 μ its w) (j : Nat) (hj : its[j]? = some (row e sz v m cs)) : ∃ μ', μ.le μ' ∧ SlV μ' v m cs ∧ Iv W0 md μ0 μ' (its.eraseIdx j) w := by
  have hown := hI.row_ok hj
  rcases hown.2 with ⟨rfl, rfl⟩ | ⟨g, cap, cur, rfl, hbg, hg, hnc, hcm, hcs, htake⟩
  · exact ⟨μ, Store.le.refl _, ⟨none, 0, rfl, Nat.le_refl _, by simp [maxLen], fun h => absurd rfl h, fun h => absurd rfl h⟩, hI.drop (List.eraseIdx_sublist its j)⟩
  · obtain ⟨μ', h1, h2, h3⟩ := hI.freeze j hj (g := g) (by simp [row, Value.ownBlock]) hg
    refine ⟨μ', h1, ⟨_, _, rfl, hnc, hcm, fun _ => rfl, fun _ i u hu => ?_⟩, h3⟩
    simp only [sb, so, Nat.zero_add, Store.cell, h2]
    rw [← htake, List.getElem?_take] at hu
    split at hu
    · simpa using hu
    · cases hu
theorem Iv.freezeCel (hI : Iv W0 md μ0 μ its w) (j : Nat) {chs : List (List Value)} (hj : its[j]? = some (cel g chs T)) : ∃ μ', μ.le μ' ∧ At μ' g 0 chs.flatten ∧ Iv W0 md μ0 μ' (its.eraseIdx j) w := by
  obtain ⟨μ', h1, h2, h3⟩ := hI.freeze j hj (g := g) rfl (hI.cel_ok hj)
  refine ⟨μ', h1, fun i u hu => ?_, h3⟩
  simp only [Nat.zero_add, Store.cell, h2]
  simpa using hu
end
section
variable {P : Program} {W0 : World} {md : List Nat} {μ0 μ : Store} {its : List It} {ds : List Deferred} {a : Act} {n : Nat} {L : List (Nat × Value)} {dst : Option Nat} {ty t T e : TypeId} {pos : String} {aft : Array Edge} {gd : Option (Nat × Bool)} {x lo hi : Operand} {v : Value} {g o sz m : Nat} {cs : List Value}
def loOf (L : List (Nat × Value)) : Option Operand → Option Int
  | none => some 0
  | some x => match ov L x with
    | some (.int _ i) => some i
    | _ => none
def hiOf (L : List (Nat × Value)) (m : Nat) : Option Operand → Option Int
  | none => some m
  | some x => match ov L x with
    | some (.int _ i) => some i
    | _ => none
theorem loOf_some {L : List (Nat × Value)} {x : Operand} {i : Int} (h : loOf L (some x) = some i) : ∃ k, ov L x = some (.int k i) := by
  simp only [loOf] at h
  cases hv : ov L x with
  | none => rw [hv] at h; cases h
  | some v => rw [hv] at h; cases v <;> simp at h; exact ⟨_, by rw [h]⟩
theorem hiOf_some {L : List (Nat × Value)} {m : Nat} {x : Operand} {i : Int} (h : hiOf L m (some x) = some i) : ∃ k, ov L x = some (.int k i) := by
  simp only [hiOf] at h
  cases hv : ov L x with
  | none => rw [hv] at h; cases h
  | some v => rw [hv] at h; cases v <;> simp at h; exact ⟨_, by rw [h]⟩
theorem run_bounds (b : Bool) {L : List (Nat × Value)} {m cp : Nat} {l h : Option Operand} {i j : Int} (hA : FrG ds a n L) (hl : loOf L l = some i) (hh : hiOf L m h = some j) (h0 : 0 ≤ i) (h1 : i ≤ j) (h2 : j ≤ (cp : Int)) (w : World) :
    (Instr.sliceBounds b m cp (l.map a.eval) (h.map a.eval) none).run P w = .ok (i.toNat, j.toNat, cp) w := by
  have ej : ((j.toNat : Nat) : Int) = j := Int.toNat_of_nonneg (by omega)
  cases l with
  | none =>
    have : i = 0 := by simpa [loOf] using hl.symm
    subst this
    cases h with
    | none =>
      have : j = m := by simpa [hiOf] using hh.symm
      subst this
      simp [Instr.sliceBounds]
    | some y =>
      obtain ⟨k, hk⟩ := hiOf_some hh
      simp [Instr.sliceBounds, hA.ev hk, run_sliceBound, (by omega : 0 ≤ j), h2]
  | some x =>
    obtain ⟨k', hk'⟩ := loOf_some hl
    cases h with
    | none =>
      have : j = m := by simpa [hiOf] using hh.symm
      subst this
      simp [Instr.sliceBounds, hA.ev hk', run_sliceBound, h0, h1]
    | some y =>
      obtain ⟨k, hk⟩ := hiOf_some hh
      simp [Instr.sliceBounds, hA.ev hk, hA.ev hk', run_sliceBound, (by omega : 0 ≤ j), h2, h0, ej, h1]
theorem r_sl {α : Type} {RE : α → List Value → Prop} {xs : List α} {l h : Option Operand} {i j : Int} (ht : P.underlying t = some (.slice e)) (hs : (P.info? e).map (·.size) = some sz) (hv : Slc RE sz μ v xs) (hA : FrG ds a n L) (hx : ov L x = some v)
    (hl : loOf L l = some i) (hh : hiOf L xs.length h = some j) (h0 : 0 ≤ i) (h1 : i ≤ j) (h2 : j ≤ (xs.length : Int)) :
    ∃ v', Slc RE sz μ v' ((xs.take j.toNat).drop i.toNat) ∧ ∀ (dst : Option Nat) (ty : TypeId) (pos : String) (aft : Array Edge) (gd : Option (Nat × Bool)) (w : World), (execOp a.eval ⟨dst, .slice t x l h none, ty, pos, aft, gd⟩).run P w = .ok (.value v') w := by
  obtain ⟨cs, hE, A, cp, e1, h3, h4, h5, h6⟩ := hv
  have hlen := hE.len
  have el : ((xs.take j.toNat).drop i.toNat).length = j.toNat - i.toNat := by simp; omega
  have hE' := (hE.take j.toNat).drop i.toNat
  refine ⟨.slice (if cp = i.toNat then A else A.map (·.add (i.toNat * sz))) (j.toNat - i.toNat) (cp - i.toNat), ⟨_, hE', ?_⟩, fun dst ty pos aft gd w => ?_⟩
  · rw [el]
    refine ⟨_, _, rfl, by omega, by omega, fun hn => ?_, fun hn => ?_⟩
    · have hA' := h5 (by omega)
      rw [if_neg (by omega)]
      simp [hA', sb, so, add_eq]
    · have hA' := h5 (by omega)
      have h6' := h6 (by omega)
      have e2 : cs = cs.take (i.toNat * sz) ++ ((cs.take (j.toNat * sz)).drop (i.toNat * sz) ++ cs.drop (j.toNat * sz)) := by
        have e3 : cs.take (i.toNat * sz) = (cs.take (j.toNat * sz)).take (i.toNat * sz) := by
          rw [List.take_take, Nat.min_eq_left (Nat.mul_le_mul_right _ (by omega))]
        rw [← List.append_assoc, e3, List.take_append_drop, List.take_append_drop]
      rw [e2] at h6'
      have h7 := h6'.part
      have e4 : (cs.take (i.toNat * sz)).length = i.toNat * sz := by
        rw [List.length_take, hlen, Nat.min_eq_left (Nat.mul_le_mul_right _ (by omega))]
      rw [e4] at h7
      rw [if_neg (by omega)]
      simp only [hA', Option.map_some, add_eq, sb, so]
      exact h7
  · cases hq : P.info? e with
    | none => simp [hq] at hs
    | some ei =>
      have hs' : ei.size = sz := by simpa [hq] using hs
      subst hs'
      have hb := run_bounds (P := P) true hA hl (m := xs.length) (cp := cp) hh h0 h1 (by omega) w
      have e3 : a.eval x = .slice A xs.length cp := (hA.ev hx).trans e1
      simp [execOp, Instr.sliceAt, e3, run_underlying ht, Instr.slice, hb, sizeOf, typeInfo, hq]
end
theorem cells_sl {μ : Store} {v : Value} {n : Nat} {cs : List Value} (h : SlV μ v n cs) : v.cells = [[v]].flatten.toArray := by
  obtain ⟨A, cp, rfl, _⟩ := h
  rfl
section
variable {P : Program} {Q : Exit → AW} {ops : Array Oper} {rest : List Oper} {W0 : World} {md : List Nat} {μ0 μ : Store} {its : List It} {w : World} {ds : List Deferred} {a : Act} {n : Nat} {L : List (Nat × Value)} {d : Nat} {ty t T e : TypeId} {pos : String} {aft : Array Edge} {x y : Operand} {v u : Value} {g o sz by_ : Nat} {cs : List Value}
end
def RowOK (μ : Store) (w : World) (e sz : Nat) (v : Value) (n : Nat) (cs : List Value) : Prop := (row e sz v n cs).ok w ∧ (row e sz v n cs).foot.Nodup ∧ ∀ g ∈ (row e sz v n cs).foot, g < w.heap.size ∧ μ g = none
theorem RowOK.start {μ : Store} {w : World} {e sz : Nat} {v : Value} {n : Nat} {cs : List Value} (h : RowOK μ w e sz v n cs) (hμ : Agr μ w) : Iv w (row e sz v n cs).foot μ μ [row e sz v n cs] w := Iv.start1 hμ h.1 h.2.1 h.2.2
section
variable {P : Program} {Q : Exit → AW} {ops : Array Oper} {rest : List Oper} {W0 : World} {md : List Nat} {μ0 μ : Store} {its : List It} {w : World} {ds : List Deferred} {a : Act} {n : Nat} {L : List (Nat × Value)} {d : Nat} {dst : Option Nat} {ty t T e : TypeId} {pos : String} {aft : Array Edge} {gd : Option (Nat × Bool)} {sz by_ : Nat}
def plOK (P : Program) : List Field → List (Nat × Nat) → Prop
  | [], [] => True
  | f :: fs, (o, s) :: pl => f.offset = o ∧ (P.info? f.type).map (·.size) = some s ∧ plOK P fs pl
  | _, _ => False
theorem run_places {fs : List Field} {pl : List (Nat × Nat)} (h : plOK P fs pl) : (fs.mapM fun f => Prod.mk f.offset <$> sizeOf f.type).run P w = .ok pl w := by
  induction fs generalizing pl with
  | nil =>
    cases pl with
    | nil => simp
    | cons p pl => exact h.elim
  | cons f fs ih =>
    cases pl with
    | nil => exact h.elim
    | cons p pl =>
      obtain ⟨o, s⟩ := p
      obtain ⟨h1, h2, h3⟩ := h
      have := ih h3
      cases hq : P.info? f.type with
      | none => simp [hq] at h2
      | some i =>
        have h2' : i.size = s := by simpa [hq] using h2
        rw [List.mapM_cons]
        simp [sizeOf, typeInfo, hq, h1, h2'] at this ⊢
        simp [this]
def pvs (L : List (Nat × Value)) : List (Nat × Operand) → Option (List (Nat × Value))
  | [] => some []
  | (i, x) :: xs => match ov L x, pvs L xs with
    | some v, some vs => some ((i, v) :: vs)
    | _, _ => none
theorem FrG.pvs (h : FrG ds a n L) : ∀ {xs : List (Nat × Operand)} {vs : List (Nat × Value)}, pvs L xs = some vs → xs.map (fun (i, x) => (i, a.eval x)) = vs
  | [], vs, e => by simpa [K.pvs] using e
  | (i, x) :: xs, vs, e => by
    simp only [K.pvs] at e
    cases h1 : ov L x with
    | none => simp [h1] at e
    | some v =>
      cases h2 : K.pvs L xs with
      | none => simp [h1, h2] at e
      | some us =>
        simp [h1, h2] at e
        subst e
        simp [h.ev h1, h.pvs h2]
theorem r_bldS {fs : List Field} {pl : List (Nat × Nat)} {parts : List (Nat × Operand)} {pv : List (Nat × Value)} {zc cs : Array Value} (hz : ∃ z, (P.info? t).map (·.zero) = some (some z) ∧ z.cells = zc) (hu : P.underlying t = some (.struct fs.toArray)) (hpl : plOK P fs pl) (hA : FrG ds a n L) (hp : pvs L parts = some pv)
    (hf : Instr.fill (fun i => pl.toArray[i]?) zc pv = some cs) : (execOp a.eval ⟨dst, .build t parts.toArray, ty, pos, aft, gd⟩).run P w = .ok (.value (.agg cs)) w := by
  obtain ⟨z, hz, rfl⟩ := hz
  cases hq : P.info? t with
  | none => simp [hq] at hz
  | some ti =>
    have hz' : ti.zero = some z := by simpa [hq] using hz
    have hp' := hA.pvs hp
    have hpr := run_places (P := P) (w := w) hpl
    have hf : Instr.fill (fun i => pl[i]?) z.cells pv = some cs := by simpa using hf
    simp [execOp, Instr.build, zeroValue, typeInfo, program, hp', Sem.run, hq, hz', run_underlying hu, hpr, hf]
theorem r_bldA {mm : Nat} {parts : List (Nat × Operand)} {pv : List (Nat × Value)} {zc cs : Array Value} (hz : ∃ z, (P.info? t).map (·.zero) = some (some z) ∧ z.cells = zc) (hu : P.underlying t = some (.array mm e)) (hs : (P.info? e).map (·.size) = some sz) (hA : FrG ds a n L) (hp : pvs L parts = some pv)
    (hf : Instr.fill (fun i => some (i * sz, sz)) zc pv = some cs) : (execOp a.eval ⟨dst, .build t parts.toArray, ty, pos, aft, gd⟩).run P w = .ok (.value (.agg cs)) w := by
  obtain ⟨z, hz, rfl⟩ := hz
  cases hq : P.info? t with
  | none => simp [hq] at hz
  | some ti =>
    cases hq' : P.info? e with
    | none => simp [hq'] at hs
    | some ei =>
      have hs' : ei.size = sz := by simpa [hq'] using hs
      subst hs'
      have hz' : ti.zero = some z := by simpa [hq] using hz
      have hp' := hA.pvs hp
      simp [execOp, Instr.build, zeroValue, typeInfo, program, hp', Sem.run, hq, hz', run_underlying hu, hf, sizeOf, hq']
theorem o_bsl {mm : Nat} {parts : List (Nat × Operand)} {pv : List (Nat × Value)} (cs : List Value) {z0 : Array Value} (hte : TyE P e sz by_) (hz : ∃ z, (P.info? e).map (·.zero) = some (some z) ∧ z.cells = z0) (hu : P.underlying t = some (.slice e)) (hI : Iv W0 md μ0 μ its w) (hA : FrG ds a n L) (hp : pvs L parts = some pv)
    (hpos : Nat.ble 1 sz = true) (hbig : Nat.ble (mm * sz) 16777216 = true) (hlen : cs.length = mm * sz)
    (hf : Instr.fill (fun i => some (i * sz, sz)) ((Array.range (mm * sz)).map ((if mm * sz = 0 then #[] else z0)[· % (if mm * sz = 0 then #[] else z0).size]!)) pv = some cs.toArray) (hd : Nat.ble (d + 1) n = true)
    (k : ∀ g a w, FrG ds a n ((d, .slice (some ⟨g, 0, none⟩) mm mm) :: L) → Iv W0 md μ0 μ (row e sz (.slice (some ⟨g, 0, none⟩) mm mm) mm cs :: its) w → wpList P ops Q rest a w) :
    wpList P ops Q (⟨some d, .buildSlice t mm parts.toArray, ty, pos, aft, none⟩ :: rest) a w := by
  obtain ⟨z, hz, rfl⟩ := hz
  obtain ⟨i, z', hi, hz1, hsz, hz2, hby⟩ := hte
  subst hsz
  have hzz : i.zero = some z := by simpa [hi] using hz
  have hp' := hA.pvs hp
  have hbig : ¬ mm * i.size > 16777216 := by have := Nat.le_of_ble_eq_true hbig; omega
  have hmm : mm ≤ maxLen := by
    have h0 : 0 < i.size := Nat.le_of_ble_eq_true hpos
    have : mm ≤ mm * i.size := Nat.le_mul_of_pos_right _ h0
    simp only [maxLen]
    omega
  have hr : (execOp a.eval ⟨some d, .buildSlice t mm parts.toArray, ty, pos, aft, none⟩).run P w = .ok (.value (.slice (some ⟨w.heap.size, 0, none⟩) mm mm)) (w.alloc (.cells cs.toArray e)) := by
    by_cases h0 : mm = 0
    · subst h0
      have hcs : cs = [] := List.eq_nil_of_length_eq_zero (by simpa using hlen)
      subst hcs
      simp [Array.range_zero'] at hf
      simp [execOp, Instr.buildSlice, typeInfo, program, hp', Sem.run, run_underlying hu, sizeOf, hi, hf, newRow, Array.range_zero']
    · have h1 : mm * i.size ≠ 0 := Nat.mul_ne_zero h0 (by have := Nat.le_of_ble_eq_true hpos; omega)
      simp only [h1, if_false] at hf
      have h2 : i.size ≠ 0 := by have := Nat.le_of_ble_eq_true hpos; omega
      simp [execOp, Instr.buildSlice, zeroValue, typeInfo, program, hp', Sem.run, run_underlying hu, sizeOf, hi, hzz, h1, hbig, hf, newRow]
  refine wpl_val hr (k _ _ _ (hA.put hd _) (hI.alloc _ _ (by simp [row, Value.ownBlock]) ?_))
  refine ⟨hlen, .inr ⟨w.heap.size, mm, _, rfl, Nat.zero_le _, heap_alloc_new w _, Nat.le_refl _, hmm, by simpa using hlen, ?_⟩⟩
  simp [← hlen]
def iMin (a b : Int) : Int := if b < a then b else a
theorem r_min {x y : Operand} {ts : Array TypeId} {k : IntKind} {i j : Int} (hA : FrG ds a n L) (hx : ov L x = some (.int k i)) (hy : ov L y = some (.int k j)) :
    (execOp a.eval ⟨dst, .call { callee := .builtin .min, args := #[x, y], argTypes := ts }, ty, pos, aft, gd⟩).run P w = .ok (.value (.int k (iMin i j))) w := by
  simp [execOp, resolve, invoke, builtin, hA.ev hx, hA.ev hy, Builtin.min_, Builtin.min2, iMin]
end
def inRB : IntKind → Int → Bool
  | .i8, n => decide (-128 ≤ n) && decide (n < 128)
  | .i16, n => decide (-32768 ≤ n) && decide (n < 32768)
  | .i32, n => decide (-2147483648 ≤ n) && decide (n < 2147483648)
  | .i64, n => decide (-9223372036854775808 ≤ n) && decide (n < 9223372036854775808)
  | .u8, n => decide (0 ≤ n) && decide (n < 256)
  | .u16, n => decide (0 ≤ n) && decide (n < 65536)
  | .u32, n => decide (0 ≤ n) && decide (n < 4294967296)
  | .u64, n => decide (0 ≤ n) && decide (n < 18446744073709551616)
theorem inRB_in {k : IntKind} {n : Int} (h : inRB k n = true) : InR k n := by
  cases k <;> simp only [inRB, Bool.and_eq_true, decide_eq_true_eq] at h <;> exact h
theorem all_in {k : IntKind} {xs : List Int} (h : xs.all (inRB k) = true) : ∀ x ∈ xs, InR k x := fun x hx => inRB_in (List.all_eq_true.1 h x hx)
def numbered (k : IntKind) (xs : List Int) : List (Nat × Value) := (List.range xs.length).zip (xs.map (.int k))
end Go.Proofs.YtkfpmcplfodikaaDoor.K
namespace Go.Proofs.YtkfpmcplfodikaaDoor.K
open Go
section
variable {P : Program} {ops : Array Oper} {Q : Exit → Act → World → Prop} {I I' : World → Prop} {T : List Nat} {l : Array Bool}
def waitsL (ops : Array Oper) : Nat → Nat → Nat → Bool
  | 0, _, _ => false
  | f + 1, t, i => match ops[t]? with
    | some o => o.after.any fun e => Region.binds .any e && (e.on == i || waitsL ops f e.on i)
    | none => false
def Shut (ops : Array Oper) (l : Array Bool) : Prop :=
  ∀ (j : Nat) (oj : Oper), ops[j]? = some oj → l.getD j false = true → ∀ e ∈ oj.after, Region.binds .any e = true → l.getD e.on false = true
def shutB (ops : Array Oper) (l : Array Bool) : Bool :=
  (List.range ops.size).all fun j => !l.getD j false || match ops[j]? with
    | some oj => oj.after.all fun e => !Region.binds .any e || l.getD e.on false
    | none => true
theorem shut_of (h : shutB ops l = true) : Shut ops l := by
  intro j oj hj hl e he hb
  have hlt : j < ops.size := (Array.getElem?_eq_some_iff.1 hj).1
  have h1 := List.all_eq_true.1 h j (List.mem_range.2 hlt)
  rw [hl, hj] at h1
  simp only [Bool.not_true, Bool.false_or] at h1
  have h2 := Array.all_eq_true'.1 h1 e he
  rw [hb] at h2
  simpa using h2
theorem waitsL_not {i : Nat} (hs : Shut ops l) (hi : l.getD i false = false) : ∀ (f t : Nat), waitsL ops f t i = true → l.getD t false = false ∧ t ∉ Region.ready .any ops l
  | 0, t, h => by cases h
  | f + 1, t, h => by
    unfold waitsL at h
    split at h
    case h_2 => cases h
    rename_i o ho
    obtain ⟨e, he, hb⟩ := Array.any_eq_true'.1 h
    simp only [Bool.and_eq_true, Bool.or_eq_true, beq_iff_eq] at hb
    have hn : l.getD e.on false = false := by
      rcases hb.2 with h1 | h1
      · rw [h1]; exact hi
      · exact (waitsL_not hs hi f e.on h1).1
    refine ⟨?_, fun hr => ?_⟩
    · cases hl : l.getD t false with
      | false => rfl
      | true =>
        have := hs t o ho hl e he hb.1
        rw [hn] at this
        cases this
    · obtain ⟨_, o', ho', hall⟩ := mem_ready.1 hr
      have : o' = o := Option.some.inj (ho'.symm.trans ho)
      subst this
      have := hall e he hb.1
      rw [hn] at this
      cases this
theorem Shut.set {i : Nat} (hs : Shut ops l) (hi : i ∈ Region.ready .any ops l) : Shut ops (l.setIfInBounds i true) := by
  obtain ⟨_, oi, hoi, hall⟩ := mem_ready.1 hi
  intro j oj hj hl e he hb
  by_cases hij : i = j
  · subst hij
    have : oj = oi := Option.some.inj (hj.symm.trans hoi)
    subst this
    exact getD_set_true (hall e he hb)
  · rw [getD_set_ne false hij] at hl
    exact getD_set_true (hs j oj hj hl e he hb)
theorem getD_tf {l : Array Bool} {i : Nat} (h : l.getD i true = false) : l.getD i false = false := by
  rcases Nat.lt_or_ge i l.size with h' | h'
  · simp [h'] at h ⊢; exact h
  · simp [Array.getElem?_eq_none h'] at h
def wrote (T : List Nat) (l : Array Bool) : Bool := T.any (l.getD · false)
theorem wrote_set {i : Nat} (h : wrote T (l.setIfInBounds i true) = true) (hi : T.contains i = false) : wrote T l = true := by
  obtain ⟨t, ht, hl⟩ := List.any_eq_true.1 h
  have hne : i ≠ t := fun e => by subst e; rw [List.contains_iff_mem.2 ht] at hi; cases hi
  rw [getD_set_ne false hne] at hl
  exact List.any_eq_true.2 ⟨t, ht, hl⟩
def wpG (P : Program) (ops : Array Oper) (Q : Exit → Act → World → Prop) (T : List Nat) (I : World → Prop) : Nat → Array Bool → Act → World → Prop
  | 0, l, a, w => Region.ready .any ops l = [] ∧ Q .normal a w
  | f + 1, l, a, w =>
    (Region.ready .any ops l = [] → Q .normal a w) ∧
    ∀ i ∈ Region.ready .any ops l, wpOp P ops Q i (fun a' w' => (wrote T (l.setIfInBounds i true) = true ∨ I w') ∧ wpG P ops Q T I f (l.setIfInBounds i true) a' w') a w
theorem wpAny_of_G : ∀ (f : Nat) (l : Array Bool) (a : Act) (w : World), wpG P ops Q T I f l a w → wpAny P .any ops Q f l a w
  | 0, _, _, _, h => h
  | f + 1, _, _, _, h => ⟨h.1, fun i hi => wpOp_mono (fun a' w' h' => wpAny_of_G f _ a' w' h'.2) (h.2 i hi)⟩
theorem g_mono (hI : ∀ w, I' w → I w) : ∀ (f : Nat) (l : Array Bool) (a : Act) (w : World), wpG P ops Q T I' f l a w → wpG P ops Q T I f l a w
  | 0, _, _, _, h => h
  | f + 1, _, _, _, h => ⟨h.1, fun i hi => wpOp_mono (fun a' w' h' => ⟨h'.1.imp id (hI w'), g_mono hI f _ a' w' h'.2⟩) (h.2 i hi)⟩
theorem g_first {i : Nat} {oi : Oper} {v : Value} (hi : ops[i]? = some oi) (hsel : ∀ (j : Nat) (o : Oper) cs b, ops[j]? = some o → o.op ≠ .select cs b)
    (hQ : ∀ c a w, Q (.panic c) (a.put oi.dst v) w → Q (.panic c) a w) (hT : T.contains i = false) (hW : ∀ t ∈ T, ∃ f, waitsL ops f t i = true) :
    ∀ (f : Nat) (l : Array Bool) (a : Act) (w : World), Shut ops l → wrote T l = false →
      (∀ j oj, ops[j]? = some oj → j ≠ i → l.getD j true = false → (∀ e ∈ oj.after, Region.binds .any e = true → e.on ≠ i) → oi.apart ops oj = true) →
      i ∈ Region.ready .any ops l → YieldsIf P ops I oi v a → I w →
      wpG P ops Q T I f (l.setIfInBounds i true) (a.put oi.dst v) w → wpG P ops Q T I (f + 1) l a w := by
  intro f
  induction f with
  | zero =>
    intro l a w _ _ _ hr hy hS H
    refine ⟨fun h => (by rw [h] at hr; cases hr), fun j hj => ?_⟩
    by_cases hji : j = i
    · subst hji; exact hy.wpOp hi hS ⟨.inr hS, H⟩
    · have := ready_mono hj hji
      rw [H.1] at this
      cases this
  | succ f ih =>
    intro l a w hsh hnw hfree hr hy hS H
    refine ⟨fun h => (by rw [h] at hr; cases hr), fun j hj => ?_⟩
    by_cases hji : j = i
    · subst hji; exact hy.wpOp hi hS ⟨.inr hS, H⟩
    · have h1 := H.2 j (ready_mono hj hji)
      obtain ⟨hjun, oj, hoj, hall⟩ := mem_ready.1 hj
      have hiun := (mem_ready.1 hr).1
      have hnot : ∀ e ∈ oj.after, Region.binds .any e = true → e.on ≠ i := fun e he hb heq => by
        have h1 := hall e he hb
        rw [heq, getD_tf hiun] at h1
        cases h1
      have hjT : T.contains j = false := by
        cases hc : T.contains j with
        | false => rfl
        | true =>
          obtain ⟨f', hf'⟩ := hW j (List.contains_iff_mem.1 hc)
          exact absurd hj (waitsL_not hsh (getD_tf hiun) f' j hf').2
      have h2 := wpOp_putIf hoj (hfree j oj hoj hji hjun hnot) (fun cs b => hsel i oi cs b hi) (fun cs b => hsel j oj cs b hoj) hQ hy h1
      have hfree' : ∀ k ok, ops[k]? = some ok → k ≠ i → (l.setIfInBounds j true).getD k true = false →
          (∀ e ∈ ok.after, Region.binds .any e = true → e.on ≠ i) → oi.apart ops ok = true := fun k ok hk hki hun hno => by
        refine hfree k ok hk hki ?_ hno
        by_cases hjk : j = k
        · subst hjk; exact hjun
        · rw [getD_set_ne true hjk] at hun; exact hun
      have hnw' : wrote T (l.setIfInBounds j true) = false := by
        cases hc : wrote T (l.setIfInBounds j true) with
        | false => rfl
        | true => rw [wrote_set hc hjT] at hnw; cases hnw
      refine wpOp_mono (fun a' w' h3 => ?_) h2
      have hw' : I w' := by
        rcases h3.2.1 with h4 | h4
        · rw [wrote_set (wrote_set h4 hjT) hT] at hnw; cases hnw
        · exact h4
      refine ⟨.inr hw', ih (l.setIfInBounds j true) a' w' (hsh.set hj) hnw' hfree' (ready_mono hr (Ne.symm hji)) h3.1 hw' ?_⟩
      rw [Array.setIfInBounds_comm _ _ hji]
      exact h3.2.2
theorem g_weak {i : Nat} {oi : Oper} {v : Value} (hi : ops[i]? = some oi) (hsel : ∀ (j : Nat) (o : Oper) cs b, ops[j]? = some o → o.op ≠ .select cs b)
    (hQ : ∀ c a w, Q (.panic c) (a.put oi.dst v) w → Q (.panic c) a w) (hT : T.contains i = false) :
    ∀ (f : Nat) (l : Array Bool) (a : Act) (w : World), (wrote T l = true ∨ I w) →
      (∀ j oj, ops[j]? = some oj → j ≠ i → l.getD j true = false → (∀ e ∈ oj.after, Region.binds .any e = true → e.on ≠ i) → oi.apart ops oj = true) →
      i ∈ Region.ready .any ops l → YieldsIf P ops (fun _ => True) oi v a →
      wpG P ops Q T I f (l.setIfInBounds i true) (a.put oi.dst v) w → wpG P ops Q T I (f + 1) l a w := by
  have up : ∀ {l : Array Bool} {k : Nat}, wrote T l = true → wrote T (l.setIfInBounds k true) = true := by
    intro l k h
    obtain ⟨t, ht, hl⟩ := List.any_eq_true.1 h
    exact List.any_eq_true.2 ⟨t, ht, getD_set_true hl⟩
  intro f
  induction f with
  | zero =>
    intro l a w hS _ hr hy H
    refine ⟨fun h => (by rw [h] at hr; cases hr), fun j hj => ?_⟩
    by_cases hji : j = i
    · subst hji; exact hy.wpOp hi trivial ⟨hS.imp up id, H⟩
    · have := ready_mono hj hji
      rw [H.1] at this
      cases this
  | succ f ih =>
    intro l a w hS hfree hr hy H
    refine ⟨fun h => (by rw [h] at hr; cases hr), fun j hj => ?_⟩
    by_cases hji : j = i
    · subst hji; exact hy.wpOp hi trivial ⟨hS.imp up id, H⟩
    · have h1 := H.2 j (ready_mono hj hji)
      obtain ⟨hjun, oj, hoj, hall⟩ := mem_ready.1 hj
      have hiun := (mem_ready.1 hr).1
      have hnot : ∀ e ∈ oj.after, Region.binds .any e = true → e.on ≠ i := fun e he hb heq => by
        have h1 := hall e he hb
        rw [heq, getD_tf hiun] at h1
        cases h1
      have h2 := wpOp_putIf hoj (hfree j oj hoj hji hjun hnot) (fun cs b => hsel i oi cs b hi) (fun cs b => hsel j oj cs b hoj) hQ hy h1
      have hfree' : ∀ k ok, ops[k]? = some ok → k ≠ i → (l.setIfInBounds j true).getD k true = false →
          (∀ e ∈ ok.after, Region.binds .any e = true → e.on ≠ i) → oi.apart ops ok = true := fun k ok hk hki hun hno => by
        refine hfree k ok hk hki ?_ hno
        by_cases hjk : j = k
        · subst hjk; exact hjun
        · rw [getD_set_ne true hjk] at hun; exact hun
      refine wpOp_mono (fun a' w' h3 => ?_) h2
      have hw' : wrote T (l.setIfInBounds j true) = true ∨ I w' := by
        rcases h3.2.1 with h4 | h4
        · rw [Array.setIfInBounds_comm _ _ (Ne.symm hji)] at h4
          exact .inl (wrote_set h4 hT)
        · exact .inr h4
      refine ⟨hw', ih (l.setIfInBounds j true) a' w' hw' hfree' (ready_mono hr (Ne.symm hji)) h3.1 ?_⟩
      rw [Array.setIfInBounds_comm _ _ hji]
      exact h3.2.2
end
section
variable {P : Program} {ops : Array Oper} {N R : AW} {E : List (Nat × AW)} {I I' : World → Prop} {T : List Nat} {l : Array Bool} {f i d n : Nat} {L : List (Nat × Value)} {ds : List Deferred} {a : Act} {w : World} {v : Value} {op : Op} {ty : TypeId} {pos : String} {aft : Array Edge} {gd : Option (Nat × Bool)} {dst : Option Nat}
theorem wp_pq {N' : AW} {o : Oper} {K : Act → World → Prop} (h : o.wp P a w K (PQ N' E R)) : o.wp P a w K (PQ N E R) := by
  unfold Oper.wp at *
  generalize (execOp a.eval o).run P w = r at *
  cases r with
  | ok n w' =>
    cases n <;> simp only [Oper.upon] at h ⊢ <;>
      first
        | exact h
        | exact Calls.mono h (fun e w'' he => by cases e <;> exact he)
        | exact Rows.mono h (fun _ _ he => he)
  | halt x w' => cases x <;> simp only [Oper.upon] at h ⊢ <;> exact h
theorem g_forced {o : Oper} (hi : ops[i]? = some o) (hr : Region.ready .any ops l = [i])
    (h : wpList P ops (PQ (fun a' w' => (wrote T (l.setIfInBounds i true) = true ∨ I w') ∧ wpG P ops (PQ N E R) T I f (l.setIfInBounds i true) a' w') E R) [o] a w) : wpG P ops (PQ N E R) T I (f + 1) l a w := by
  refine ⟨fun h0 => (by rw [h0] at hr; cases hr), fun j hj => ?_⟩
  rw [hr] at hj
  obtain rfl : j = i := by simpa using hj
  unfold wpOp
  simp only [hi]
  unfold wpList at h
  split
  · rename_i hw
    rw [if_pos hw] at h
    rcases h with h | ⟨_, _, _, h⟩
    · exact .inl (wp_pq h)
    · exact h.elim
  · rename_i hw
    rw [if_neg hw] at h
    exact h
def weakB (ops : Array Oper) (T : List Nat) (l : Array Bool) (i : Nat) : Bool :=
  Region.noSelect ops && Region.free .any ops l i && (Region.ready .any ops l).contains i && !T.contains i
def takeB (ops : Array Oper) (T : List Nat) (l : Array Bool) (i : Nat) : Bool :=
  weakB ops T l i && shutB ops l && !wrote T l && T.all (waitsL ops 12 · i)
theorem g_take (hA : FrG ds a n L) (hi : ops[i]? = some ⟨some d, op, ty, pos, aft, gd⟩) (hw : Region.wanted ⟨some d, op, ty, pos, aft, gd⟩ (yielded ops a.tmps) = true) (hB : takeB ops T l i = true) (hI : I w)
    (h : ∀ w, I w → (execOp a.eval ⟨some d, op, ty, pos, aft, gd⟩).run P w = .ok (.value v) w) (hd : Nat.ble (d + 1) n = true)
    (k : ∀ a, FrG ds a n ((d, v) :: L) → wpG P ops (PQ N E R) T I f (l.setIfInBounds i true) a w) : wpG P ops (PQ N E R) T I (f + 1) l a w := by
  simp only [takeB, weakB, Bool.and_eq_true, Bool.not_eq_true', List.all_eq_true] at hB
  obtain ⟨⟨⟨⟨⟨⟨h1, h2⟩, h3⟩, h4⟩, h5⟩, h6⟩, h7⟩ := hB
  exact g_first (v := v) hi (Region.noSelect_spec h1) (fun c a w h => h) h4 (fun t ht => ⟨_, h7 t ht⟩) f l a w (shut_of h5) h6 (Region.free_spec hi h2) (by simpa using h3) (.inl ⟨hw, h⟩) hI (k _ (hA.put hd v))
theorem g_easy (hA : FrG ds a n L) (hi : ops[i]? = some ⟨some d, op, ty, pos, aft, gd⟩) (hw : Region.wanted ⟨some d, op, ty, pos, aft, gd⟩ (yielded ops a.tmps) = true) (hB : weakB ops T l i = true) (hI : wrote T l = true ∨ I w)
    (h : ∀ w, (execOp a.eval ⟨some d, op, ty, pos, aft, gd⟩).run P w = .ok (.value v) w) (hd : Nat.ble (d + 1) n = true)
    (k : ∀ a, FrG ds a n ((d, v) :: L) → wpG P ops (PQ N E R) T I f (l.setIfInBounds i true) a w) : wpG P ops (PQ N E R) T I (f + 1) l a w := by
  simp only [weakB, Bool.and_eq_true, Bool.not_eq_true'] at hB
  obtain ⟨⟨⟨h1, h2⟩, h3⟩, h4⟩ := hB
  exact g_weak (v := v) hi (Region.noSelect_spec h1) (fun c a w h => h) h4 f l a w hI (Region.free_spec hi h2) (by simpa using h3) (.inl ⟨hw, fun w _ => h w⟩) (k _ (hA.put hd v))
theorem w_any {id : Nat} {l : List Oper} {W0 : World} {md : List Nat} {μ0 μ : Store} {its : List It} (T : List Nat) (hm : P.follows .mixedOrders = true) (hI : Iv W0 md μ0 μ its w)
    (h : ∀ w, Iv W0 md μ0 μ its w → wpG P l.toArray (PQ N E R) T (fun w => Iv W0 md μ0 μ its w) l.toArray.size (Array.replicate l.toArray.size false) a w) : (Code.region id l.toArray true).wp P (PQ N E R) a w :=
  wp_region_any hm (wpAny_of_G _ _ _ _ (h _ hI.drew1))
theorem g_nil (hr : Region.ready .any ops l = []) (h : N a w) : wpG P ops (PQ N E R) T I 0 l a w := ⟨hr, h⟩
end
end Go.Proofs.YtkfpmcplfodikaaDoor.K
namespace Go.Proofs.YtkfpmcplfodikaaDoor.K
open Go
def many (its : List It) : It where
  foot := its.flatMap (·.foot)
  ok w := ∀ i ∈ its, i.ok w
  loc w w' h hk i hi := i.loc w w' (fun g hg => h g (List.mem_flatMap.2 ⟨i, hi, hg⟩)) (hk i hi)
section
variable {W0 : World} {md : List Nat} {μ0 μ μ' : Store} {its its1 its1' its2 : List It} {w w' : World}
theorem Iv.pack (h : Iv W0 md μ0 μ (its1 ++ its2) w) : Iv W0 md μ0 μ (many its1 :: its2) w :=
  ⟨h.os, h.tape, h.out, h.size, h.frame, h.le, h.agr, h.fresh, by simpa [many] using h.nodup, fun i hi => by
    rcases List.mem_cons.1 hi with rfl | hi
    · refine ⟨fun j hj => (h.own j (List.mem_append_left _ hj)).1, fun g hg => ?_⟩
      obtain ⟨j, hj, hgj⟩ := List.mem_flatMap.1 hg
      exact (h.own j (List.mem_append_left _ hj)).2 g hgj
    · exact h.own i (List.mem_append_right _ hi)⟩
theorem Iv.unpack (h : Iv W0 md μ0 μ (many its1 :: its2) w) : Iv W0 md μ0 μ (its1 ++ its2) w :=
  ⟨h.os, h.tape, h.out, h.size, h.frame, h.le, h.agr, h.fresh, by simpa [many] using h.nodup, fun i hi => by
    rcases List.mem_append.1 hi with hi | hi
    · obtain ⟨h1, h2⟩ := h.own (many its1) (by simp)
      exact ⟨h1 i hi, fun g hg => h2 g (List.mem_flatMap.2 ⟨i, hi, hg⟩)⟩
    · exact h.own i (List.mem_cons_of_mem _ hi)⟩
def Its (μ : Store) (w : World) (its : List It) : Prop := (many its).ok w ∧ (many its).foot.Nodup ∧ ∀ g ∈ (many its).foot, g < w.heap.size ∧ μ g = none
theorem Iv.handed (h : Iv W0 md μ0 μ (its1 ++ its2) w) : Its μ w its1 := h.pack.item (j := 0) rfl
theorem Iv.startN (h : Agr μ w) (hs : Its μ w its) : Iv w (many its).foot μ μ its w := by
  have := (Iv.start1 h hs.1 hs.2.1 hs.2.2)
  simpa using this.unpack (its2 := [])
theorem Iv.callN (h : Iv W0 md μ0 μ (its1 ++ its2) w) (h' : Iv w (many its1).foot μ μ' its1' w') : Iv W0 md μ0 μ' (its1' ++ its2) w' := by
  simpa using h.pack.call1 0 rfl h'
end
end Go.Proofs.YtkfpmcplfodikaaDoor.K
namespace Go.Proofs.YtkfpmcplfodikaaDoor.K
open Go
set_option linter.unusedVariables false
set_option linter.unusedSimpArgs false
theorem bN {α β : Type} {K : α → Option β} {r : β} (h : (none : Option α).bind K = some r) : False := by cases h
theorem beqd {α : Type} [DecidableEq α] [BEq α] [LawfulBEq α] (a b : α) : (a == b) = decide (a = b) := by
  by_cases h : a = b
  · simp [h]
  · simp [h]
section
variable {P : Program} {d : Nat} {t e : TypeId} {k k' : IntKind} {i j : Int} {A B : Array Value}
def EqV (P : Program) (d : Nat) (t : TypeId) (X Y : Value) (b : Bool) : Prop := ∀ w, (Op.equalIn d t X Y).run P w = .ok b w
def EqF (P : Program) (d : Nat) (A B : Array Value) (fs : List Field) (b : Bool) : Prop := ∀ w, (Op.eqFields d A B fs).run P w = .ok b w
theorem eqv_int (hu : P.underlying t = some (.int k')) : EqV P (d + 1) t (.int k i) (.int k j) (decide (i = j)) := fun w => by
  rw [run_equalIn_int w d t k k' i j hu, K.beqd]
theorem run_isAgg_no {k0 : TypeDesc} (hu : P.underlying t = some k0) (h : isAggD k0 = false) (w : World) : (isAgg t).run P w = .ok false w := by
  unfold isAgg
  rw [Sem.run_bind, run_underlying hu w]
  cases k0 <;> simp_all [isAggD]
theorem run_isAgg_yes {k0 : TypeDesc} (hu : P.underlying t = some k0) (h : isAggD k0 = true) (w : World) : (isAgg t).run P w = .ok true w := by
  unfold isAgg
  rw [Sem.run_bind, run_underlying hu w]
  cases k0 <;> simp_all [isAggD]
theorem run_part1 {k0 : TypeDesc} {o : Nat} {v : Value} (hu : P.underlying t = some k0) (h : isAggD k0 = false) (hv : A[o]? = some v) (w : World) : (part t A o).run P w = .ok v w := by
  simp [part, Sem.run_bind, run_isAgg_no hu h, hv]
theorem run_partA {k0 : TypeDesc} {o m : Nat} {X : List Value} (hu : P.underlying t = some k0) (h : isAggD k0 = true) (hs : (P.info? t).map (·.size) = some m) (hv : (A.toList.drop o).take m = X) (w : World) : (part t A o).run P w = .ok (.agg X.toArray) w := by
  cases hq : P.info? t with
  | none => simp [hq] at hs
  | some q =>
    have hs' : q.size = m := by simpa [hq] using hs
    have e : A.extract o (o + m) = X.toArray := by
      rw [← hv]
      apply Array.ext'
      simp [List.extract_eq_take_drop]
    simp [part, Sem.run_bind, run_isAgg_yes hu h, sizeOf, typeInfo, hq, hs', e]
theorem part1 {k0 : TypeDesc} {o : Nat} {v : Value} (P1 P3 : List (List Value)) (hu : P.underlying t = some k0) (h : isAggD k0 = false) (ho : P1.flatten.length = o) (w : World) : (part t (P1 ++ ([v] :: P3)).flatten.toArray o).run P w = .ok v w := by
  refine run_part1 hu h ?_ w
  subst ho
  simp
theorem partA {k0 : TypeDesc} {o m : Nat} (P1 P2 P3 : List (List Value)) (hu : P.underlying t = some k0) (h : isAggD k0 = true) (hs : (P.info? t).map (·.size) = some m) (hm : P2.flatten.length = m) (ho : P1.flatten.length = o) (w : World) :
    (part t (P1 ++ (P2 ++ P3)).flatten.toArray o).run P w = .ok (.agg P2.flatten.toArray) w := by
  refine run_partA hu h hs ?_ w
  subst ho
  subst hm
  simp
theorem eqItems_int (he : P.underlying e = some (.int k')) {f g : Nat → Int} : ∀ (is : List Nat), (∀ i ∈ is, A[i]? = some (.int k (f i)) ∧ B[i]? = some (.int k (g i))) → ∀ w, (Op.eqItems (d + 1) e 1 A B is).run P w = .ok (decide (∀ i ∈ is, f i = g i)) w
  | [], _, w => by simp [Op.eqItems]
  | i :: is, h, w => by
    obtain ⟨h1, h2⟩ := h i (by simp)
    have p1 := run_part1 (P := P) he (A := A) rfl h1 w
    have p2 := run_part1 (P := P) he (A := B) rfl h2 w
    have ih := eqItems_int he is (fun i hi => h i (by simp [hi])) w
    simp only [Op.eqItems, Sem.run_bind, Nat.mul_one, p1, p2, Result.andThen_ok, run_equalIn_int w d e k k' _ _ he]
    by_cases hh : f i = g i
    · simp [hh, ih]
    · simp [hh]
theorem cells_one (hs : (P.info? e).map (·.size) = some 1) : P.cellsOf e = 1 := by simp [Program.cellsOf, hs]
theorem eqv_arr {n : Nat} {xs ys : List Int} (hu : P.underlying t = some (.array n e)) (he : P.underlying e = some (.int k')) (hs : (P.info? e).map (·.size) = some 1) (hx : Arr k n xs) (hy : Arr k n ys) :
    EqV P (d + 2) t (.agg [av k n xs].flatten.toArray) (.agg [av k n ys].flatten.toArray) (decide (xs = ys)) := fun w => by
  cases hq : P.info? e with
  | none => simp [hq] at hs
  | some q =>
    rw [run_equalIn_array w (d + 1) _ _ hu hq, cells_one hs]
    rw [eqItems_int (k := k) (f := fun i => xs.getD i 0) (g := fun i => ys.getD i 0) he (List.range n) (fun i hi => by
      have hi := List.mem_range.1 hi
      simp [av_get k n _ hi]) w]
    congr 2
    apply propext
    constructor
    · intro h
      apply List.ext_getElem (by rw [hx.1, hy.1])
      intro i h1 h2
      have := h i (List.mem_range.2 (by rw [← hx.1]; exact h1))
      simpa [List.getD, h1, h2] using this
    · intro h i _
      rw [h]
theorem eqf_cons {f : Field} {fs : List Field} {X Y : Value} {p q : Prop} [Decidable p] [Decidable q] (hn : f.name ≠ "_") (hX : ∀ w, (part f.type A f.offset).run P w = .ok X w) (hY : ∀ w, (part f.type B f.offset).run P w = .ok Y w)
    (h : EqV P d f.type X Y (decide p)) (hs : EqF P d A B fs (decide q)) : EqF P d A B (f :: fs) (decide (p ∧ q)) := fun w => by
  simp only [Op.eqFields, ne_eq, hn, not_false_eq_true, if_true, Sem.run_bind, hX, hY, Result.andThen_ok, h w]
  by_cases hp : p
  · simp [hp, hs w]
  · simp [hp]
theorem eqf_last {f : Field} {X Y : Value} {p : Prop} [Decidable p] (hn : f.name ≠ "_") (hX : ∀ w, (part f.type A f.offset).run P w = .ok X w) (hY : ∀ w, (part f.type B f.offset).run P w = .ok Y w)
    (h : EqV P d f.type X Y (decide p)) : EqF P d A B [f] (decide p) := fun w => by
  simp only [Op.eqFields, ne_eq, hn, not_false_eq_true, if_true, Sem.run_bind, hX, hY, Result.andThen_ok, h w]
  by_cases hp : p
  · simp [hp]
  · simp [hp]
theorem eqv_struct {fs : List Field} {b : Bool} (hu : P.underlying t = some (.struct fs.toArray)) (hp : P.stoodInHeld t = false) (h : EqF P d A B fs b) : EqV P (d + 1) t (.agg A) (.agg B) b := fun w => by
  have hf : P.fieldsOf t = fs.toArray := by simp [Program.fieldsOf, hu]
  rw [run_equalIn_struct w d t A B (by rw [hf]; exact hu) hp, hf]
  exact h w
end
section
variable {P : Program} {w : World} {ds : List Deferred} {a : Act} {n : Nat} {L : List (Nat × Value)} {dst : Option Nat} {ty t t' : TypeId} {pos : String} {aft : Array Edge} {g : Option (Nat × Bool)} {x y : Operand} {p : Prop} [Decidable p] {X Y : Array Value}
theorem r_eqS (hA : FrG ds a n L) (hx : ov L x = some (.agg X)) (hy : ov L y = some (.agg Y)) (hm : P.eqGuardType P.depth t = false) (h : EqV P 10000 t (.agg X) (.agg Y) (decide p)) :
    (execOp a.eval ⟨dst, .binOp .eql t x y t', ty, pos, aft, g⟩).run P w = .ok (.value (.bool (decide p))) w := by
  simp [execOp, hA.ev hx, hA.ev hy, run_eqGuard_agg (P := P) w .eql t x y X Y hm, run_eql_struct (P := P) w t X Y, h w]
theorem r_neS (hA : FrG ds a n L) (hx : ov L x = some (.agg X)) (hy : ov L y = some (.agg Y)) (hm : P.eqGuardType P.depth t = false) (h : EqV P 10000 t (.agg X) (.agg Y) (decide p)) :
    (execOp a.eval ⟨dst, .binOp .neq t x y t', ty, pos, aft, g⟩).run P w = .ok (.value (.bool (decide (¬ p)))) w := by
  simp [execOp, hA.ev hx, hA.ev hy, run_eqGuard_agg (P := P) w .neq t x y X Y hm, run_neq_struct (P := P) w t X Y, h w]
end
theorem seq (s u : ByteArray) : (s.toList == u.toList) = decide (s = u) := by
  rw [ByteArray.toList_eq, ByteArray.toList_eq, beqd]
  congr 1
  apply propext
  constructor
  · intro h; exact ByteArray.ext (Array.toList_inj.1 h)
  · intro h; rw [h]
section
variable {P : Program} {w : World} {ds : List Deferred} {a : Act} {n : Nat} {L : List (Nat × Value)} {dst : Option Nat} {ty t t' e : TypeId} {pos : String} {aft : Array Edge} {g : Option (Nat × Bool)} {x y : Operand} {s u : ByteArray} {i j : Int} {k k' : IntKind}
end
section
variable {P : Program} {W0 : World} {md : List Nat} {μ0 μ ν : Store} {its : List It} {w : World} {ds : List Deferred} {a : Act} {n : Nat} {L : List (Nat × Value)} {dst : Option Nat} {ty t T e : TypeId} {pos : String} {aft : Array Edge} {gd : Option (Nat × Bool)} {x y : Operand} {v : Value} {g o sz m : Nat} {cs : List Value}
theorem r_slv {mm o' : Nat} {l h : Option Operand} {i j : Int} (ht : P.underlying t = some (.array mm e)) (hs : (P.info? e).map (·.size) = some 1) (hA : FrG ds a n L) (hx : ov L x = some (.pointer (some ⟨g, o, none⟩)))
    (hl : loOf L l = some i) (hh : hiOf L mm h = some j) (h0 : 0 ≤ i) (h1 : i ≤ j) (h2 : j ≤ (mm : Int)) (h3 : i < (mm : Int)) (ho : o + i.toNat = o') :
    (execOp a.eval ⟨dst, .slice t x l h none, ty, pos, aft, gd⟩).run P w = .ok (.value (.slice (some ⟨g, o', none⟩) (j.toNat - i.toNat) (mm - i.toNat))) w := by
  subst ho
  cases hq : P.info? e with
  | none => simp [hq] at hs
  | some ei =>
    have hs' : ei.size = 1 := by simpa [hq] using hs
    have hb := run_bounds (P := P) false hA hl (m := mm) (cp := mm) hh h0 h1 (by omega) w
    have hne : ¬ mm = i.toNat := by omega
    simp [execOp, Instr.sliceAt, hA.ev hx, run_underlying ht, Instr.sureAddr, hb, sizeOf, typeInfo, hq, hs', add_eq, hne]
theorem slc_view {k : IntKind} {mm o' i j : Nat} {xs : List Int} (A C : List (List Value)) (hm : At ν g 0 (A ++ (av k mm xs :: C)).flatten) (hw : Arr k mm xs) (ho : A.flatten.length + i = o') (h0 : i ≤ j) (h1 : j ≤ mm) (hmm : mm ≤ maxLen) :
    Slc (RI k) 1 ν (.slice (some ⟨g, o', none⟩) (j - i) (mm - i)) ((xs.take j).drop i) := by
  subst ho
  have hE := ((els_av hw).take j).drop i
  have hlen : ((xs.take j).drop i).length = j - i := by have := hw.1; simp; omega
  refine ⟨_, hE, some ⟨g, A.flatten.length + i, none⟩, mm - i, by rw [hlen], by omega, by omega, fun _ => rfl, fun _ => ?_⟩
  simp only [sb, so]
  rw [List.flatten_append, List.flatten_cons] at hm
  have h2 := hm.part
  have e1 : ([av k mm xs].flatten : List Value) = av k mm xs := by simp
  rw [e1]
  simp only [Nat.mul_one, Nat.zero_add] at h2 ⊢
  intro q u hq
  rw [List.getElem?_drop, List.getElem?_take] at hq
  split at hq
  · have := h2 (i + q) u hq
    rw [← Nat.add_assoc] at this
    exact this
  · cases hq
theorem slc_view0 {k : IntKind} {mm : Nat} {xs : List Int} (A C : List (List Value)) (hm : At ν g 0 (A ++ (av k mm xs :: C)).flatten) (hw : Arr k mm xs) (ho : A.flatten.length = o) (hmm : mm ≤ maxLen) :
    Slc (RI k) 1 ν (.slice (some ⟨g, o, none⟩) mm mm) xs := by
  have := slc_view (i := 0) (j := mm) A C hm hw (by simpa using ho) (Nat.zero_le _) (Nat.le_refl _) hmm
  simpa [List.take_of_length_le (Nat.le_of_eq hw.1)] using this
theorem src_cel {k : IntKind} {j mm : Nat} {xs : List Int} (A C : List (List Value)) (hI : Iv W0 md μ0 μ its w) (hj : its[j]? = some (cel g (A ++ (av k mm xs :: C)) T)) (hw : Arr k mm xs) (ho : A.flatten.length = o) :
    ∃ B cp, (.slice (some ⟨g, o, none⟩) mm mm : Value) = .slice B xs.length cp ∧ (xs.length ≠ 0 → ∃ ad, B = some ad ∧ ∀ j u, (av k mm xs)[j]? = some u → w.cell? (ad.add j) = some u) := by
  subst ho
  refine ⟨_, _, by rw [hw.1], fun _ => ⟨_, rfl, fun q u hq => ?_⟩⟩
  have hg := hI.cel_ok hj
  rw [List.flatten_append, List.flatten_cons] at hg
  exact cell_mid hg hq
theorem Iv.low (hl : μ.le ν) (h : Iv W0 md ν ν its w) : Iv W0 md μ μ its w :=
  ⟨h.os, h.tape, h.out, h.size, h.frame, Store.le.refl _, fun k o e => h.agr k o (hl k o e), fun k o e => .inl e, h.nodup, fun i hi => ⟨(h.own i hi).1, fun g hg => by
    obtain ⟨a, b, c⟩ := (h.own i hi).2 g hg
    refine ⟨a, ?_, c⟩
    cases e : μ g with
    | none => rfl
    | some o => rw [hl g o e] at b; cases b⟩⟩
theorem low_plain {f : FuncId} {vs : Array Value} {u : Value} {Z : Prop} (hl : μ.le ν) (hc : Calls P f vs w fun e w' => ∃ v, e = .returned v ∧ v = u ∧ Z ∧ Iv w [] ν ν [] w') : Calls P f vs w fun e w' => ∃ v, e = .returned v ∧ v = u ∧ Z ∧ Iv w [] μ μ [] w' :=
  hc.mono fun _ _ ⟨v, h1, h2, h3, h4⟩ => ⟨v, h1, h2, h3, h4.low hl⟩
theorem own_one {j : Nat} (hI : Iv W0 md μ0 μ its w) (hj : its[j]? = some (row T sz v m cs)) : v.oneCell' = true := by
  obtain ⟨A, cp, rfl, _⟩ := own_form (hI.row_ok hj)
  rfl
theorem own_cell {j : Nat} (hI : Iv W0 md μ0 μ its w) (hj : its[j]? = some (row T sz v m cs)) : v.cells = [[v]].flatten.toArray := by
  obtain ⟨A, cp, rfl, _⟩ := own_form (hI.row_ok hj)
  rfl
theorem Iv.handN (k : Nat) (h : Iv W0 md μ0 μ its w) : Its μ w (its.take k) := Iv.handed (its2 := its.drop k) (by rwa [List.take_append_drop])
end
end Go.Proofs.YtkfpmcplfodikaaDoor.K
namespace Go.Proofs.YtkfpmcplfodikaaDoor.K
open Go
set_option linter.unusedVariables false
section
variable {P : Program} {W0 : World} {md : List Nat} {μ0 μ ν : Store} {its : List It} {w : World} {ds : List Deferred} {a : Act} {n : Nat} {L : List (Nat × Value)} {dst : Option Nat} {ty t T e : TypeId} {pos : String} {aft : Array Edge} {gd : Option (Nat × Bool)} {x y : Operand} {v : Value} {g o sz m : Nat} {cs : List Value}
theorem exec_cv {c : Operand} {f : FuncId} {xs : Array Operand} {ats : Array TypeId} (hA : FrG ds a n L) (hc : ov L c = some (.func (.func f) #[] #[])) :
    execOp a.eval ⟨dst, .call { callee := .value c, args := xs, argTypes := ats }, ty, pos, aft, gd⟩ = execOp a.eval ⟨dst, .call { callee := .value (.func f), args := xs, argTypes := ats }, ty, pos, aft, gd⟩ := by
  have h1 := hA.ev hc
  have h2 : a.eval (.func f) = .func (.func f) #[] #[] := rfl
  simp only [execOp, resolve, h1, h2]
theorem o_callc {Q : Exit → AW} {ops : Array Oper} {rest : List Oper} {c : Operand} {d : Nat} {f : FuncId} {xs : List Operand} {vs : List Value} {ats : Array TypeId} (Z : Value → World → Prop) (hf : CalleeF P f) (hA : FrG ds a n L) (hc : ov L c = some (.func (.func f) #[] #[])) (hv : ovs L xs = some vs) (hcl : Calls P f vs.toArray w fun e w' => ∃ v, e = .returned v ∧ Z v w')
    (hd : Nat.ble (d + 1) n = true) (k : ∀ v a w', Z v w' → FrG ds a n ((d, v) :: L) → wpList P ops Q rest a w') :
    wpList P ops Q (⟨some d, .call { callee := .value c, args := xs.toArray, argTypes := ats }, ty, pos, aft, none⟩ :: rest) a w :=
  wpList_plain rfl fun K hK => by
    unfold Oper.wp
    rw [exec_cv hA hc, run_call hf hA hv]
    exact hcl.mono fun e w' ⟨v, he, hz⟩ => by subst he; exact hK _ _ (k v _ _ hz (hA.put hd v))
theorem o_callpc {Q : Exit → AW} {ops : Array Oper} {rest : List Oper} {c : Operand} {d : Nat} {u : Value} {f : FuncId} {xs : List Operand} {vs : List Value} {ats : Array TypeId} {Z : Prop} (hf : CalleeF P f) (hA : FrG ds a n L) (hc : ov L c = some (.func (.func f) #[] #[])) (hv : ovs L xs = some vs) (hI : Iv W0 md μ0 μ its w) (hcl : Calls P f vs.toArray w fun e w' => ∃ v, e = .returned v ∧ v = u ∧ Z ∧ Iv w [] μ μ [] w')
    (hd : Nat.ble (d + 1) n = true) (k : ∀ a w', Z → Iv W0 md μ0 μ its w' → FrG ds a n ((d, u) :: L) → wpList P ops Q rest a w') :
    wpList P ops Q (⟨some d, .call { callee := .value c, args := xs.toArray, argTypes := ats }, ty, pos, aft, none⟩ :: rest) a w :=
  o_callc (fun v w' => v = u ∧ Z ∧ Iv w [] μ μ [] w') hf hA hc hv hcl hd fun v a w' ⟨e, hz, h'⟩ hA => by subst e; exact k a w' hz (hI.call h') hA
theorem eqIn_ptrnil (d : Nat) {p : Addr} (hu : P.underlying t = some (.pointer e)) : (Op.equalIn (d + 1) t (.pointer (some p)) (.pointer none)).run P w = .ok false w := by
  simp [Op.equalIn, run_underlying hu]
theorem r_ptrnil_eql {p : Addr} {t' : TypeId} (hu : P.underlying t = some (.pointer e)) (hA : FrG ds a n L) (hx : ov L x = some (.pointer (some p))) (hy : ov L y = some (.pointer none)) :
    (execOp a.eval ⟨dst, .binOp .eql t x y t', ty, pos, aft, gd⟩).run P w = .ok (.value (.bool false)) w := by
  have h := eqIn_ptrnil (P := P) (w := w) 9999 (p := p) hu
  have hb : (binOp .eql t (.pointer (some p)) (.pointer none)).run P w = .ok (.bool false) w := by
    simp only [binOp, Op.equal, Op.maxDepth]
    rw [Sem.run_bind, h]
    rfl
  simp [execOp, hA.ev hx, hA.ev hy, eqGuard, hb]
theorem Iv.thaw {μ' : Store} {i : It} (h : Iv W0 md μ0 μ its w) (hi : i ∈ its) (hle : μ.le μ') (hs : ∀ g ∈ i.foot, ∃ o, w.heap[g]? = some o ∧ μ' g = some o) (hn : i.foot.Nodup) : ∀ (its' : List It) (w' : World), Iv W0 md μ0 μ' its' w' → Iv W0 md μ0 μ (i :: its') w' := by
  intro its' w' h'
  have h2 := h'.less h.le hle
  obtain ⟨hok, hfoot⟩ := h.own i hi
  have hsame : ∀ g ∈ i.foot, w'.heap[g]? = w.heap[g]? := fun g hg => by
    obtain ⟨o, h3, h4⟩ := hs g hg
    rw [h3]; exact h'.agr g o h4
  refine ⟨h2.os, h2.tape, h2.out, h2.size, h2.frame, h2.le, h2.agr, h2.fresh, ?_, fun k hk => ?_⟩
  · simp only [List.flatMap_cons, List.nodup_append]
    refine ⟨hn, h2.nodup, fun g hg g' hg' e => ?_⟩
    subst e
    obtain ⟨k, hk, hgk⟩ := List.mem_flatMap.1 hg'
    obtain ⟨o, _, h4⟩ := hs g hg
    have := ((h'.own k hk).2 g hgk).2.1
    rw [h4] at this
    cases this
  · rcases List.mem_cons.1 hk with rfl | hk
    · refine ⟨k.loc w w' hsame hok, fun g hg => ?_⟩
      obtain ⟨_, b, c⟩ := hfoot g hg
      obtain ⟨o, h3, h4⟩ := hs g hg
      exact ⟨(Array.getElem?_eq_some_iff.1 (h'.agr g o h4)).1, b, c⟩
    · exact h2.own k hk
theorem Iv.freezeRowT (hI : Iv W0 md μ0 μ its w) (j : Nat) (hj : its[j]? = some (row e sz v m cs)) : ∃ μ', μ.le μ' ∧ SlV μ' v m cs ∧ Iv W0 md μ0 μ' (its.eraseIdx j) w ∧ (∀ (its' : List It) (w' : World), Iv W0 md μ0 μ' its' w' → Iv W0 md μ0 μ (row e sz v m cs :: its') w') := by
  have hown := hI.row_ok hj
  have hmem := List.mem_of_getElem? hj
  rcases hown.2 with ⟨rfl, rfl⟩ | ⟨g, cap, cur, rfl, hbg, hg, hnc, hcm, hcs, htake⟩
  · exact ⟨μ, Store.le.refl _, ⟨none, 0, rfl, Nat.le_refl _, by simp [maxLen], fun h => absurd rfl h, fun h => absurd rfl h⟩, hI.drop (List.eraseIdx_sublist its j), hI.thaw hmem (Store.le.refl _) (by simp [row, Value.ownBlock]) (by simp [row, Value.ownBlock])⟩
  · obtain ⟨μ', h1, h2, h3⟩ := hI.freeze j hj (g := g) (by simp [row, Value.ownBlock]) hg
    refine ⟨μ', h1, ⟨_, _, rfl, hnc, hcm, fun _ => rfl, fun _ i u hu => ?_⟩, h3, hI.thaw hmem h1 (fun g' hg' => ?_) (by simp [row, Value.ownBlock])⟩
    · simp only [sb, so, Nat.zero_add, Store.cell, h2]
      rw [← htake, List.getElem?_take] at hu
      split at hu
      · simpa using hu
      · cases hu
    · have : g' = g := by simpa [row, Value.ownBlock] using hg'
      subst this
      exact ⟨_, hg, h2⟩
theorem Iv.freezeCelT (hI : Iv W0 md μ0 μ its w) (j : Nat) {chs : List (List Value)} (hj : its[j]? = some (cel g chs T)) : ∃ μ', μ.le μ' ∧ At μ' g 0 chs.flatten ∧ Iv W0 md μ0 μ' (its.eraseIdx j) w ∧ (∀ (its' : List It) (w' : World), Iv W0 md μ0 μ' its' w' → Iv W0 md μ0 μ (cel g chs T :: its') w') := by
  have hmem := List.mem_of_getElem? hj
  obtain ⟨μ', h1, h2, h3⟩ := hI.freeze j hj (g := g) rfl (hI.cel_ok hj)
  refine ⟨μ', h1, fun i u hu => ?_, h3, hI.thaw hmem h1 (fun g' hg' => ?_) (by simp [cel])⟩
  · simp only [Nat.zero_add, Store.cell, h2]
    simpa using hu
  · have : g' = g := by simpa [cel] using hg'
    subst this
    exact ⟨_, hI.cel_ok hj, h2⟩
end
end Go.Proofs.YtkfpmcplfodikaaDoor.K
namespace Go.Proofs.YtkfpmcplfodikaaDoor.K
open Go
set_option linter.unusedVariables false
def RS {α : Type} (RE : α → List Value → Prop) (sz : Nat) (μ : Store) (x : List α) (c : List Value) : Prop := ∃ v : Value, c = [[v]].flatten ∧ Slc RE sz μ v x
theorem RS.le {α : Type} {RE RE' : α → List Value → Prop} {sz : Nat} {μ ν : Store} (hm : ∀ x c, RE x c → RE' x c) (hl : μ.le ν) {x : List α} {c : List Value} (h : RS RE sz μ x c) : RS RE' sz ν x c := let ⟨v, h0, h1⟩ := h; ⟨v, h0, h1.le hm hl⟩
theorem RS.ones {α : Type} {RE : α → List Value → Prop} {sz : Nat} {μ : Store} : ∀ x c, RS RE sz μ x c → ∀ u ∈ c, u.oneCell' = true := by
  rintro x c ⟨v, rfl, hw⟩ u hu
  obtain ⟨_, hs⟩ := Slc.sv hw
  simp at hu
  subst hu
  exact one_sl hs
section
variable {α : Type} {RE : α → List Value → Prop} {sz : Nat}
theorem Els.set {xs : List α} {cs : List Value} (h : Els RE sz xs cs) {i : Nat} {x : α} (hx : xs[i]? = some x) {y : α} {d : List Value} (hy : RE y d) (hd : d.length = sz) :
    ∃ A c B, cs = A ++ (c ++ B) ∧ A.length = i * sz ∧ c.length = sz ∧ RE x c ∧ Els RE sz (xs.set i y) (A ++ (d ++ B)) := by
  induction h generalizing i with
  | nil => simp at hx
  | @cons z c cs zs h1 h2 h3 ih =>
    cases i with
    | zero =>
      have : z = x := by simpa using hx
      subst this
      exact ⟨[], c, cs, rfl, by simp, h2, h1, Els.cons (c := d) hy hd h3⟩
    | succ i =>
      obtain ⟨A, c', B, e, hA, hc, hr, hE⟩ := ih (by simpa using hx)
      refine ⟨c ++ A, c', B, by rw [e, List.append_assoc], by rw [List.length_append, h2, hA, Nat.add_mul, Nat.one_mul, Nat.add_comm], hc, hr, ?_⟩
      rw [List.set_cons_succ, List.append_assoc]
      exact Els.cons (c := c) h1 h2 hE
end
section
variable {P : Program} {Q : Exit → AW} {ops : Array Oper} {rest : List Oper} {W0 : World} {md : List Nat} {μ0 μ : Store} {its : List It} {w : World} {ds : List Deferred} {a : Act} {n : Nat} {L : List (Nat × Value)} {dst : Option Nat} {d : Nat} {ty t T e : TypeId} {pos : String} {aft : Array Edge} {gd : Option (Nat × Bool)} {x y : Operand} {v u : Value} {g o sz m : Nat}
theorem o_rstA {j mm : Nat} (A B B' C : List Value) {cs : List Value} (hcs : cs = A ++ (B ++ C)) (hs0 : (P.info? t).map (·.size) = some mm) (hs1 : B'.length = mm) (hB : B'.length = B.length) (h1 : ∀ c ∈ B', c.oneCell' = true)
    (hI : Iv W0 md μ0 μ its w) (hj : its[j]? = some (row T sz v m cs)) (hA : FrG ds a n L) (hx : ov L x = some (.pointer (some ⟨sb v, o, none⟩))) (hy : ov L y = some u) (hc : u.cells = B'.toArray) (ho : so v + A.length = o) (hm : 0 < m)
    (k : ∀ w, Iv W0 md μ0 μ (its.set j (row T sz v m (A ++ (B' ++ C)))) w → wpList P ops Q rest a w) : wpList P ops Q (⟨none, .store t x y, ty, pos, aft, none⟩ :: rest) a w := by
  subst hcs
  have hown := hI.row_ok hj
  have hlen := hown.1
  rcases hown.2 with ⟨rfl, h0⟩ | ⟨g, cap, cur, rfl, hb, hg, hnc, hcm, hcsz, htake⟩
  · omega
  · have ho' : A.length = o := by simpa [so] using ho
    have hcur : cur = (A ++ (B ++ (C ++ cur.toList.drop (A ++ (B ++ C)).length)) : List Value).toArray := by
      have e1 : cur.toList = (A ++ (B ++ C)) ++ cur.toList.drop (A ++ (B ++ C)).length := by
        have := List.take_append_drop (A ++ (B ++ C)).length cur.toList
        rw [hlen, htake] at this
        rw [hlen]
        exact this.symm
      apply Array.ext'
      rw [List.toList_toArray]
      conv => lhs; rw [e1]
      simp only [List.append_assoc]
    generalize cur.toList.drop (A ++ (B ++ C)).length = D at hcur
    subst hcur
    have hst : (storeVar t ⟨g, o, none⟩ u).run P w = .ok () (w.setRow g (A ++ (B' ++ (C ++ D))).toArray) := by
      subst ho'
      exact run_storeVar_row (P := P) (hs0.trans (congrArg some hs1.symm)) hB hc h1 hg
    have hglt : g < w.heap.size := (Array.getElem?_eq_some_iff.1 hg).1
    have hpre : (A ++ (B' ++ C)).length = (A ++ (B ++ C)).length := by simp [hB]
    refine wpl_skip (w' := w.setRow g (A ++ (B' ++ (C ++ D))).toArray) ?_ (k _ (hI.upd j _ _ hj rfl rfl rfl (by simp) (fun i _ hi => setRow_other w g i _ (by simpa [row, Value.ownBlock] using hi)) (fun g' hg' => .inl (by simpa [row, Value.ownBlock] using hg')) (fun g' hg' => ?_) (by simp [row, Value.ownBlock]) ?_))
    · simp [execOp, hA.ev hx, hA.ev hy, Instr.storeAt, Instr.sureAddr, sb, hst]
    · have : g' = g := by simpa [row, Value.ownBlock] using hg'
      subst this
      simpa using hglt
    · refine ⟨by rw [hpre]; exact hlen, .inr ⟨g, cap, _, rfl, hb, setRow_heap w g _ _ T _ hg, hnc, hcm, ?_, ?_⟩⟩
      · rw [← hcsz]; simp [hB]
      · have e2 : A ++ (B' ++ (C ++ D)) = (A ++ (B' ++ C)) ++ D := by simp only [List.append_assoc]
        rw [e2, List.toList_toArray, ← hlen, ← hpre]
        exact List.take_left
theorem r_rldm1 {k0 : TypeDesc} {j : Nat} {cs : List Value} (A C : List Value) (hcs : cs = A ++ ([u] ++ C)) (hu : P.underlying t = some k0) (hd : isAggD k0 = false) (hI : Iv W0 md μ0 μ its w) (hj : its[j]? = some (row T sz v m cs)) (hA : FrG ds a n L) (hx : ov L x = some (.pointer (some ⟨sb v, o, none⟩))) (ho : so v + A.length = o) :
    (execOp a.eval ⟨dst, .load t x, ty, pos, aft, gd⟩).run P w = .ok (.value u) w := by
  subst hcs
  exact r_rld1 (q := A.length) hu hd hI hj (by simp) hA hx ho
end
end Go.Proofs.YtkfpmcplfodikaaDoor.K
namespace Go.Proofs.YtkfpmcplfodikaaDoor.K
open Go
set_option linter.unusedVariables false
section
variable {P : Program} {Q : Exit → AW} {ops : Array Oper} {rest : List Oper} {W0 : World} {md : List Nat} {μ0 μ : Store} {its : List It} {w : World} {ds : List Deferred} {a : Act} {n : Nat} {L : List (Nat × Value)} {dst : Option Nat} {d : Nat} {ty t T e : TypeId} {pos : String} {aft : Array Edge} {gd : Option (Nat × Bool)} {x y : Operand} {v u : Value} {g o sz m : Nat}
theorem o_appmake {k : IntKind} {ti : TypeId} {by_ : Nat} {q : Int} (hte : TyE P e sz by_) (hpos : Nat.ble 1 sz = true) (ht : P.underlying t = some (.slice e)) (hti : P.underlying ti = some (.int k)) (hI : Iv W0 md μ0 μ its w) (hA : FrG ds a n L) (hx : ov L x = some (.slice none 0 0)) (hy : ov L y = some (.int .i64 q)) (h0 : 0 < q) (h2 : q * (by_ : Int) ≤ 140737488355328) (h3 : q ≤ 140737488355328)
    (hd : Nat.ble (d + 1) n = true)
    (kk : ∀ g cap cur a w, q.toNat ≤ cap → cap ≤ maxLen → cur.size = cap * sz → FrG ds a n ((d, .slice (some ⟨g, 0, none⟩) q.toNat cap) :: L) → (∀ i : It, i.foot = [g] → i.ok w → Iv W0 md μ0 μ (i :: its) w) → w.heap[g]? = some (.cells cur e (0, 0)) → wpList P ops Q rest a w) :
    wpList P ops Q (⟨some d, .call { callee := .builtin .append, args := #[x, y], argTypes := #[t, ti] }, ty, pos, aft, none⟩ :: rest) a w := by
  obtain ⟨i, z, hi, hz, hsize, hzs, hby⟩ := hte
  subst hsize
  subst hby
  obtain ⟨q', rfl⟩ : ∃ q' : Nat, q = q' := ⟨q.toNat, by omega⟩
  have hq : q' ≠ 0 := by omega
  have hq0 : 0 < q' := by omega
  have hwr : IntKind.i64.wrap (q' : Int) = q' := wrap_id ⟨by omega, by omega⟩
  have hlt : ¬ ((q' : Int) < 0) := by omega
  have h2' : q' * i.bytes ≤ 140737488355328 := by
    have : ((q' * i.bytes : Nat) : Int) ≤ 140737488355328 := by rw [Int.natCast_mul]; exact h2
    omega
  have h48 : ¬ ((281474976710656 : Int) < (q' : Int) * (i.bytes : Int)) := by rw [← Int.natCast_mul]; omega
  have h48' : ¬ (281474976710656 < Builtin.nextslicecap q' 0 * i.bytes) := by rw [nextslicecap_zero hq0]; omega
  have h63 : ¬ (9223372036854775807 < (q' : Int)) := by omega
  have hcap := grownCap_ge w q' 0 e
  have hcm : grownCap w q' 0 e ≤ maxLen := grownCap_le_maxLen w q' 0 e (by simp only [maxLen]; omega)
  have main : ∃ cur, cur.size = grownCap w q' 0 e * i.size ∧ (Builtin.append_ #[t, ti] ty #[.slice none 0 0, .int .i64 (q' : Int)]).run P w = .ok (.slice (some ⟨w.heap.size, 0, none⟩) q' (grownCap w q' 0 e)) (w.drew.alloc (.cells cur e)) := by
    have hz0 : i.size ≠ 0 := by have := Nat.le_of_ble_eq_true hpos; omega
    refine ⟨Builtin.zeroCells z.cells q' ++ Builtin.zeroCells z.cells (grownCap w q' 0 e - q'), ?_, ?_⟩
    · rw [Array.size_append, size_zeroCells, size_zeroCells, hzs, ← Nat.add_mul]
      congr 1
      omega
    · simp [Builtin.append_, run_underlying ht, run_underlying hti, sizeOf, typeInfo, zeroValue, hi, hz, asInt, asIntOf, hwr, hlt, h48, h48', h63, hq, Question.forced, newRow, grownCap, run_firstCells_none]
      intro h
      rcases Nat.mul_eq_zero.1 h with h | h <;> omega
  obtain ⟨cur, hcs, hr⟩ := main
  refine wpl_val (v := .slice (some ⟨w.heap.size, 0, none⟩) q' (grownCap w q' 0 e)) (w' := w.drew.alloc (.cells cur e)) ?_ (kk w.heap.size (grownCap w q' 0 e) cur _ _ (by simpa using hcap) hcm hcs (hA.put hd _) (fun j hf ho => hI.drew1.alloc _ j hf ho) (heap_alloc_new w.drew _))
  simp only [execOp, resolve, invoke, builtin, Sem.run_bind, Sem.run_pure, Result.andThen_ok, List.map_toArray, List.map_cons, List.map_nil, hA.ev hx, hA.ev hy, hr]
theorem r_cap {A : Option Addr} {m cp : Nat} (hu : P.underlying t = some (.slice e)) (hA : FrG ds a n L) (hx : ov L x = some (.slice A m cp)) :
    (execOp a.eval ⟨dst, .call { callee := .builtin .cap, args := #[x], argTypes := #[t] }, ty, pos, aft, gd⟩).run P w = .ok (.value (.int .i64 cp)) w := by
  simp [execOp, resolve, invoke, builtin, hA.ev hx, Builtin.cap_, goInt, run_underlying hu]
theorem r_front {A : Option Addr} {m cp : Nat} {h : Operand} {kd : IntKind} {q : Int} (hu : P.underlying t = some (.slice e)) (hs : (P.info? e).map (·.size) = some sz) (hA : FrG ds a n L) (hx : ov L x = some (.slice A m cp)) (hh : ov L h = some (.int kd q)) (h0 : 0 ≤ q) (h1 : q ≤ (cp : Int)) :
    (execOp a.eval ⟨dst, .slice t x none (some h) none, ty, pos, aft, gd⟩).run P w = .ok (.value (.slice A q.toNat cp)) w := by
  cases hq : P.info? e with
  | none => simp [hq] at hs
  | some ei =>
    have hb := run_bounds (P := P) true (l := none) (h := some h) hA (i := 0) (j := q) rfl (m := m) (cp := cp) (by simp [hiOf, hh]) (Int.le_refl _) h0 h1 w
    have e3 : a.eval x = .slice A m cp := hA.ev hx
    have hb' : (Instr.sliceBounds true m cp none (some (a.eval h)) none).run P w = .ok (0, q.toNat, cp) w := hb
    have e4 : A.map (fun x => x.add 0) = A := by cases A <;> simp [Addr.add]
    simp [execOp, Instr.sliceAt, e3, run_underlying hu, Instr.slice, hb', sizeOf, typeInfo, hq, e4]
end
end Go.Proofs.YtkfpmcplfodikaaDoor.K
namespace Go.Proofs.YtkfpmcplfodikaaDoor.K
open Go
set_option linter.unusedVariables false
section
variable {α : Type} {RE : α → List Value → Prop} {sz : Nat}
theorem Els.setAt {xs : List α} {cs A c B : List Value} (h : Els RE sz xs cs) (e : cs = A ++ (c ++ B)) {i : Nat} (hi : i < xs.length) (hA : A.length = i * sz) (hc : c.length = sz) {y : α} {d : List Value} (hy : RE y d) (hd : d.length = sz) : Els RE sz (xs.set i y) (A ++ (d ++ B)) := by
  have h1 := h.take i
  have h2 := h.drop (i + 1)
  have e1 : cs.take (i * sz) = A := by rw [e, ← hA]; exact List.take_left
  have e2 : cs.drop ((i + 1) * sz) = B := by
    have : (i + 1) * sz = (A ++ c).length := by rw [List.length_append, hA, hc, Nat.add_mul, Nat.one_mul]
    rw [e, ← List.append_assoc, this]
    exact List.drop_left
  rw [e1] at h1
  rw [e2] at h2
  rw [List.set_eq_take_append_cons_drop, if_pos hi]
  exact h1.app (.cons hy hd h2)
theorem idx_lt {i : Int} {n : Nat} (h0 : 0 ≤ i) (h1 : i < (n : Int)) : i.toNat < n := by omega
end
section
variable {P : Program} {Q : Exit → AW} {ops : Array Oper} {rest : List Oper} {W0 : World} {md : List Nat} {μ0 μ : Store} {its : List It} {w : World} {ds : List Deferred} {a : Act} {n : Nat} {L : List (Nat × Value)} {dst : Option Nat} {d : Nat} {ty t T e : TypeId} {pos : String} {aft : Array Edge} {gd : Option (Nat × Bool)} {x y : Operand} {v u : Value} {g o sz m q off mm : Nat} {cs : List Value} {k0 : TypeDesc}
theorem o_rstP {j : Nat} (A B : List Value) (P1 B1 B1' P3 : List (List Value)) (hcs : cs = A ++ ((P1 ++ (B1 ++ P3)).flatten ++ B)) (hl : A.length = q) (hp : P1.flatten.length = off) (hs0 : (P.info? t).map (·.size) = some mm) (hs1 : B1'.flatten.length = mm) (hB : B1'.flatten.length = B1.flatten.length) (h1 : ∀ c ∈ B1'.flatten, c.oneCell' = true)
    (hI : Iv W0 md μ0 μ its w) (hj : its[j]? = some (row T sz v m cs)) (hA : FrG ds a n L) (hx : ov L x = some (.pointer (some ⟨sb v, so v + q + off, none⟩))) (hy : ov L y = some u) (hc : u.cells = B1'.flatten.toArray) (hm : 0 < m)
    (k : ∀ w, Iv W0 md μ0 μ (its.set j (row T sz v m (A ++ ((P1 ++ (B1' ++ P3)).flatten ++ B)))) w → wpList P ops Q rest a w) : wpList P ops Q (⟨none, .store t x y, ty, pos, aft, none⟩ :: rest) a w := by
  subst hl
  subst hp
  refine o_rstA (A ++ P1.flatten) B1.flatten B1'.flatten (P3.flatten ++ B) (by rw [hcs]; simp) hs0 hs1 hB h1 hI hj hA hx hy hc (by rw [List.length_append, Nat.add_assoc]) hm fun w hI => k w ?_
  have e : A ++ P1.flatten ++ (B1'.flatten ++ (P3.flatten ++ B)) = A ++ ((P1 ++ (B1' ++ P3)).flatten ++ B) := by simp
  rw [e] at hI
  exact hI
theorem r_rldP {j : Nat} (A B : List Value) (P1 B1 P3 : List (List Value)) (hcs : cs = A ++ ((P1 ++ (B1 ++ P3)).flatten ++ B)) (hl : A.length = q) (hp : P1.flatten.length = off) (hu : P.underlying t = some k0) (hd : isAggD k0 = true) (hs0 : (P.info? t).map (·.size) = some mm) (hs1 : B1.flatten.length = mm)
    (hI : Iv W0 md μ0 μ its w) (hj : its[j]? = some (row T sz v m cs)) (hA : FrG ds a n L) (hx : ov L x = some (.pointer (some ⟨sb v, so v + q + off, none⟩))) :
    (execOp a.eval ⟨dst, .load t x, ty, pos, aft, gd⟩).run P w = .ok (.value (.agg B1.flatten.toArray)) w := by
  subst hl
  subst hp
  exact r_rldA (A := A ++ P1.flatten) (B := B1.flatten) (C := P3.flatten ++ B) hu hd hs0 hs1 hI hj (by rw [hcs]; simp) (q := A.length + P1.flatten.length) (by rw [List.length_append]) hA hx (by rw [Nat.add_assoc])
theorem r_rldQ {j : Nat} (A B : List Value) (P1 P3 : List (List Value)) (hcs : cs = A ++ ((P1 ++ ([u] :: P3)).flatten ++ B)) (hl : A.length = q) (hp : P1.flatten.length = off) (hu : P.underlying t = some k0) (hd : isAggD k0 = false)
    (hI : Iv W0 md μ0 μ its w) (hj : its[j]? = some (row T sz v m cs)) (hA : FrG ds a n L) (hx : ov L x = some (.pointer (some ⟨sb v, so v + q + off, none⟩))) :
    (execOp a.eval ⟨dst, .load t x, ty, pos, aft, gd⟩).run P w = .ok (.value u) w := by
  subst hl
  subst hp
  exact r_rldm1 (A ++ P1.flatten) (P3.flatten ++ B) (by rw [hcs]; simp) hu hd hI hj hA hx (by rw [List.length_append, Nat.add_assoc])
end
end Go.Proofs.YtkfpmcplfodikaaDoor.K
namespace Go.Proofs.YtkfpmcplfodikaaDoor.K
open Go
set_option linter.unusedVariables false
section
variable {P : Program} {ops : Array Oper} {N R : AW} {E : List (Nat × AW)} {I I' : World → Prop} {T : List Nat} {l : Array Bool} {f i n : Nat} {L : List (Nat × Value)} {ds : List Deferred} {a : Act} {w : World} {v : Value}
theorem g_fork {i : Nat} {is : List Nat} (hr : Region.ready .any ops l = i :: is)
    (h : ∀ j ∈ i :: is, ∃ o, ops[j]? = some o ∧ wpList P ops (PQ (fun a' w' => (wrote T (l.setIfInBounds j true) = true ∨ I w') ∧ wpG P ops (PQ N E R) T I f (l.setIfInBounds j true) a' w') E R) [o] a w) : wpG P ops (PQ N E R) T I (f + 1) l a w := by
  refine ⟨fun h0 => (by rw [h0] at hr; cases hr), fun j hj => ?_⟩
  rw [hr] at hj
  obtain ⟨o, ho, h⟩ := h j hj
  unfold wpOp
  simp only [ho]
  unfold wpList at h
  split
  · rename_i hw
    rw [if_pos hw] at h
    rcases h with h | ⟨_, _, _, h⟩
    · exact .inl (wp_pq h)
    · exact h.elim
  · rename_i hw
    rw [if_neg hw] at h
    exact h
end
section
variable {P : Program} {N R : AW} {E : List (Nat × AW)} {ds : List Deferred} {a : Act} {w : World}
theorem w_anyS {id : Nat} {l : List Oper} {W0 : World} {md : List Nat} {μ0 μ : Store} {its its2 : List It} (T : List Nat) (hm : P.follows .mixedOrders = true) (hs : ∀ w, Iv W0 md μ0 μ its w → Iv W0 md μ0 μ its2 w) (hI : Iv W0 md μ0 μ its w)
    (h : ∀ w, Iv W0 md μ0 μ its w → wpG P l.toArray (PQ N E R) T (fun w => Iv W0 md μ0 μ its2 w) l.toArray.size (Array.replicate l.toArray.size false) a w) : (Code.region id l.toArray true).wp P (PQ N E R) a w :=
  wp_region_any hm (wpAny_of_G _ _ _ _ (h _ hI.drew1))
end
section
variable {P : Program} {w : World} {ds : List Deferred} {a : Act} {n : Nat} {L : List (Nat × Value)} {dst : Option Nat} {ty t e : TypeId} {pos : String} {aft : Array Edge} {g : Option (Nat × Bool)} {x y : Operand} {i : Int} {k k' ki : IntKind} {xs : List Int} {mm : Nat}
theorem r_aidx (hu : P.underlying t = some (.array mm e)) (he : P.underlying e = some (.int k')) (hs : (P.info? e).map (·.size) = some 1) (hA : FrG ds a n L) (hx : ov L x = some (.agg [av k mm xs].flatten.toArray)) (hy : ov L y = some (.int ki i)) (h0 : 0 ≤ i) (h1 : i < (mm : Int)) :
    (execOp a.eval ⟨dst, .index t x y, ty, pos, aft, g⟩).run P w = .ok (.value (.int k (xs.getD i.toNat 0))) w := by
  cases hq : P.info? e with
  | none => simp [hq] at hs
  | some q =>
    have hs' : q.size = 1 := by simpa [hq] using hs
    have hlt : i.toNat < mm := by omega
    have hp := run_part1 (P := P) (A := [av k mm xs].flatten.toArray) (o := i.toNat * 1) he rfl (v := .int k (xs.getD i.toNat 0)) (by simpa using av_get k mm xs hlt) w
    have h01 : 0 ≤ i ∧ i < (mm : Int) := ⟨h0, h1⟩
    simp only [Nat.mul_one] at hp
    have hi : (Instr.index t (.agg [av k mm xs].flatten.toArray) (.int ki i)).run P w = .ok (.int k (xs.getD i.toNat 0)) w := by
      unfold Instr.index
      simp only [asIntOf, Sem.run_bind, Sem.run_pure, Result.andThen_ok, run_underlying hu]
      rw [if_pos h01]
      have hz : (sizeOf e).run P w = .ok 1 w := by rw [run_sizeOf w hq]; simp [Program.cellsOf, hq, hs']
      simp only [Sem.run_bind, hz, Result.andThen_ok, Nat.mul_one, hp]
    simp only [execOp, Sem.run_bind, Sem.run_pure, hA.ev hx, hA.ev hy, hi, Result.andThen_ok]
end
end Go.Proofs.YtkfpmcplfodikaaDoor.K
namespace Go.Proofs.YtkfpmcplfodikaaDoor.K
open Go
theorem fill_one {place : Nat → Option (Nat × Nat)} {cells : Array Value} {i off : Nat} {v : Value} {rest : List (Nat × Value)} (hv : v.cells = #[v]) (hp : place i = some (off, 1)) (ho : Nat.ble (off + 1) cells.size = true) :
    Instr.fill place cells ((i, v) :: rest) = Instr.fill place (cells.setIfInBounds off v) rest := by
  have h := Nat.le_of_ble_eq_true ho
  rw [Instr.fill, hp]
  simp only [hv]
  rw [if_neg (by simp; omega)]
  rfl
theorem cells1 {α : Type} {RE : α → List Value → Prop} {sz : Nat} {μ : Store} {v : Value} {xs : List α} (h : Slc RE sz μ v xs) : v.cells = #[v] := by
  obtain ⟨_, hs⟩ := Slc.sv h
  exact cells_sl hs
section
variable {P : Program} {Q : Exit → AW} {ops : Array Oper} {rest : List Oper} {W0 : World} {md : List Nat} {μ0 μ : Store} {its : List It} {w : World} {ds : List Deferred} {a : Act} {n : Nat} {L : List (Nat × Value)} {dst : Option Nat} {d : Nat} {ty t T e : TypeId} {pos : String} {aft : Array Edge} {gd : Option (Nat × Bool)} {x y : Operand} {v u : Value} {g o sz m q off mm : Nat} {cs : List Value} {k0 : TypeDesc}
theorem o_rstPL {m' : Nat} {j : Nat} (A B : List Value) (P1 B1 B1' P3 : List (List Value)) (hcs : cs = A ++ ((P1 ++ (B1 ++ P3)).flatten ++ B)) (hl : A.length = q) (hp : P1.flatten.length = off) (hs0 : (P.info? t).map (·.size) = some mm) (hs1 : B1'.flatten.length = mm) (hB : B1'.flatten.length = B1.flatten.length) (h1 : ∀ c ∈ B1'.flatten, c.oneCell' = true)
    (hI : Iv W0 md μ0 μ its w) (hj : its[j]? = some (row T sz v m cs)) (hA : FrG ds a n L) (hx : ov L x = some (.pointer (some ⟨sb v, so v + q + off, none⟩))) (hy : ov L y = some u) (hc : u.cells = B1'.flatten.toArray) (hm : 0 < m)
    (hm' : m = m') (k : ∀ w, Iv W0 md μ0 μ (its.set j (row T sz v m' (A ++ ((P1 ++ (B1' ++ P3)).flatten ++ B)))) w → wpList P ops Q rest a w) : wpList P ops Q (⟨none, .store t x y, ty, pos, aft, none⟩ :: rest) a w := by
  subst hm'
  exact o_rstP A B P1 B1 B1' P3 hcs hl hp hs0 hs1 hB h1 hI hj hA hx hy hc hm k
end
end Go.Proofs.YtkfpmcplfodikaaDoor.K
namespace Go.Proofs.YtkfpmcplfodikaaDoor.K
open Go Go.Proofs
set_option linter.unusedVariables false
set_option linter.unusedSimpArgs false
def BN (arr : Array MapEntry) (c : Nat) : Prop := (∀ e ∈ arr.toList, e.born < c) ∧ (arr.toList.map (·.born)).Nodup
theorem BN.push {arr : Array MapEntry} {c : Nat} (h : BN arr c) (k v : Value) : BN (arr.push ⟨k, v, c⟩) (c + 1) := by
  refine ⟨fun e he => ?_, ?_⟩
  · rw [Array.toList_push, List.mem_append] at he
    rcases he with he | he
    · exact Nat.lt_succ_of_lt (h.1 e he)
    · have : e = ⟨k, v, c⟩ := by simpa using he
      subst this
      exact Nat.lt_succ_self _
  · rw [Array.toList_push, List.map_append, List.nodup_append]
    refine ⟨h.2, by simp, fun x hx y hy => ?_⟩
    obtain ⟨e, he, rfl⟩ := List.mem_map.1 hx
    have : y = c := by simpa using hy
    subst this
    have := h.1 e he
    omega
theorem BN.set {arr : Array MapEntry} {c : Nat} (h : BN arr c) (i : Nat) (f : MapEntry → MapEntry) (hf : ∀ e, (f e).born = e.born) : BN (arr.modify i f) c := by
  have e : (arr.modify i f).toList.map (·.born) = arr.toList.map (·.born) := by
    rw [Array.toList_modify]
    apply List.ext_getElem?
    intro j
    simp only [List.getElem?_map, List.getElem?_modify]
    cases arr.toList[j]? with
    | none => simp
    | some x => by_cases hij : i = j <;> simp [hij, hf]
  refine ⟨fun x hx => ?_, by rw [e]; exact h.2⟩
  have hm : x.born ∈ (arr.modify i f).toList.map (·.born) := List.mem_map.2 ⟨x, hx, rfl⟩
  rw [e] at hm
  obtain ⟨y, hy, hyx⟩ := List.mem_map.1 hm
  rw [← hyx]
  exact h.1 y hy
def mpI (g : Nat) (es : List (Value × Value)) : It where
  foot := [g]
  ok w := ∃ arr c, w.heap[g]? = some (.map arr c) ∧ arr.toList.map (fun e => (e.key, e.val)) = es ∧ BN arr c
  loc w w' h hk := by
    obtain ⟨arr, c, h1, h2⟩ := hk
    exact ⟨arr, c, by rw [h g (by simp)]; exact h1, h2⟩
section
variable {K V : Type}
def ent (kv : K → Value) (vv : V → Value) (l : List (K × V)) : List (Value × Value) := l.map fun p => (kv p.1, vv p.2)
def mget [DecidableEq K] : List (K × V) → K → Option V
  | [], _ => none
  | p :: l, k => if p.1 = k then some p.2 else mget l k
def mput [DecidableEq K] : List (K × V) → K → V → List (K × V)
  | [], k, v => [(k, v)]
  | p :: l, k, v => if p.1 = k then (k, v) :: l else p :: mput l k v
def MW (KW : K → Prop) (VW : V → Prop) (l : List (K × V)) : Prop := (∀ p ∈ l, KW p.1 ∧ VW p.2) ∧ (l.map (·.1)).Nodup
variable {KW : K → Prop} {VW : V → Prop} {l : List (K × V)} {k : K} {v : V}
theorem mw_nil : MW KW VW ([] : List (K × V)) := ⟨by simp, by simp⟩
variable [DecidableEq K]
theorem mput_keys (l : List (K × V)) (k : K) (v : V) : ∀ x ∈ (mput l k v).map (·.1), x = k ∨ x ∈ l.map (·.1) := by
  induction l with
  | nil => intro x hx; simp [mput] at hx; exact .inl hx
  | cons p l ih =>
    intro x hx
    unfold mput at hx
    split at hx
    · rename_i e
      simp only [List.map_cons, List.mem_cons] at hx ⊢
      rcases hx with rfl | hx
      · exact .inl rfl
      · exact .inr (.inr hx)
    · simp only [List.map_cons, List.mem_cons] at hx ⊢
      rcases hx with rfl | hx
      · exact .inr (.inl rfl)
      · rcases ih x hx with h | h
        · exact .inl h
        · exact .inr (.inr h)
theorem MW.put (h : MW KW VW l) (hk : KW k) (hv : VW v) : MW KW VW (mput l k v) := by
  obtain ⟨h1, h2⟩ := h
  induction l with
  | nil => exact ⟨by simp [mput, hk, hv], by simp [mput]⟩
  | cons p l ih =>
    rw [List.map_cons, List.nodup_cons] at h2
    have ih := ih (fun q hq => h1 q (by simp [hq])) h2.2
    unfold mput
    split
    · rename_i e
      subst e
      refine ⟨fun q hq => ?_, ?_⟩
      · rcases List.mem_cons.1 hq with rfl | hq
        · exact ⟨hk, hv⟩
        · exact h1 q (by simp [hq])
      · rw [List.map_cons, List.nodup_cons]; exact h2
    · rename_i e
      refine ⟨fun q hq => ?_, ?_⟩
      · rcases List.mem_cons.1 hq with rfl | hq
        · exact h1 q (by simp)
        · exact ih.1 q hq
      · rw [List.map_cons, List.nodup_cons]
        refine ⟨fun hm => ?_, ih.2⟩
        rcases mput_keys l k v _ hm with h | h
        · exact e h
        · exact h2.1 h
theorem mget_at (hn : (l.map (·.1)).Nodup) {j : Nat} (hj : l[j]? = some (k, v)) : mget l k = some v := by
  induction l generalizing j with
  | nil => simp at hj
  | cons p l ih =>
    rw [List.map_cons, List.nodup_cons] at hn
    cases j with
    | zero =>
      have : p = (k, v) := by simpa using hj
      subst this
      simp [mget]
    | succ j =>
      have hj : l[j]? = some (k, v) := by simpa using hj
      have hm : k ∈ l.map (·.1) := List.mem_map.2 ⟨(k, v), List.mem_of_getElem? hj, rfl⟩
      unfold mget
      rw [if_neg (fun e : p.1 = k => hn.1 (e ▸ hm))]
      exact ih hn.2 hj
theorem mget_none (h : ∀ p ∈ l, p.1 ≠ k) : mget l k = none := by
  induction l with
  | nil => rfl
  | cons p l ih =>
    unfold mget
    rw [if_neg (h p (by simp))]
    exact ih fun q hq => h q (by simp [hq])
theorem mput_at (hn : (l.map (·.1)).Nodup) {j : Nat} {v0 : V} (hj : l[j]? = some (k, v0)) : mput l k v = l.set j (k, v) := by
  induction l generalizing j with
  | nil => simp at hj
  | cons p l ih =>
    rw [List.map_cons, List.nodup_cons] at hn
    cases j with
    | zero =>
      have : p = (k, v0) := by simpa using hj
      subst this
      simp [mput]
    | succ j =>
      have hj : l[j]? = some (k, v0) := by simpa using hj
      have hm : k ∈ l.map (·.1) := List.mem_map.2 ⟨(k, v0), List.mem_of_getElem? hj, rfl⟩
      unfold mput
      rw [if_neg (fun e : p.1 = k => hn.1 (e ▸ hm)), ih hn.2 hj]
      rfl
theorem mput_none (h : ∀ p ∈ l, p.1 ≠ k) : mput l k v = l ++ [(k, v)] := by
  induction l with
  | nil => rfl
  | cons p l ih =>
    unfold mput
    rw [if_neg (h p (by simp)), ih fun q hq => h q (by simp [hq])]
    rfl
end
structure KeyN {K : Type} (P : Program) (kt : TypeId) (kv : K → Value) (KW : K → Prop) : Prop where
  keyed : Maps.Keyed P kt
  key : ∀ k, KW k → ∃ l, keyOf P kt (kv k) = some l
  inj : ∀ a b, KW a → KW b → kv a = kv b → a = b
section
variable {K V : Type} {KW : K → Prop} {VW : V → Prop} {kv : K → Value} {vv : V → Value} {P : Program} {w : World} {kt et t : TypeId} {arr : Array MapEntry} {l : List (K × V)} {k : K}
theorem ent_get (he : arr.toList.map (fun e => (e.key, e.val)) = ent kv vv l) {j : Nat} {e : MapEntry} (hj : arr.toList[j]? = some e) : ∃ p, l[j]? = some p ∧ e.key = kv p.1 ∧ e.val = vv p.2 := by
  have h := congrArg (·[j]?) he
  simp only [ent, List.getElem?_map, hj, Option.map_some] at h
  cases hp : l[j]? with
  | none => simp [hp] at h
  | some p => simp [hp] at h; exact ⟨p, rfl, h.1, h.2⟩
theorem find_ent (N : KeyN P kt kv KW) (he : arr.toList.map (fun e => (e.key, e.val)) = ent kv vv l) (hl : MW KW VW l) (hk : KW k) :
    ((Instr.findKey kt (kv k) arr.toList).run P w = .ok none w ∧ ∀ p ∈ l, p.1 ≠ k) ∨
    ∃ j e v, (Instr.findKey kt (kv k) arr.toList).run P w = .ok (some (j, e.val)) w ∧ arr[j]? = some e ∧ e.key = kv k ∧ e.val = vv v ∧ l[j]? = some (k, v) := by
  obtain ⟨lk, hlk⟩ := N.key k hk
  rcases N.keyed.find w hlk arr.toList (fun e hm => by
    obtain ⟨j, hj, e1⟩ := List.getElem_of_mem hm
    obtain ⟨p, hp, h1, _⟩ := ent_get he (e := e) (by rw [List.getElem?_eq_getElem hj, e1])
    rw [h1]
    exact N.key _ (hl.1 p (List.mem_of_getElem? hp)).1) with ⟨h1, h2⟩ | ⟨j, e, h1, h2, h3⟩
  · refine .inl ⟨h1, fun p hp e => ?_⟩
    obtain ⟨j, hj, e1⟩ := List.getElem_of_mem hp
    have hlen : arr.toList.length = l.length := by simpa [ent] using congrArg List.length he
    have hj' : j < arr.toList.length := by omega
    obtain ⟨p', hp', h5, _⟩ := ent_get he (j := j) (List.getElem?_eq_getElem hj')
    rw [List.getElem?_eq_getElem hj, e1] at hp'
    cases hp'
    exact h2 _ (List.getElem_mem hj') (by rw [h5, e])
  · obtain ⟨p, hp, h5, h6⟩ := ent_get he h2
    have : p.1 = k := N.inj _ _ (hl.1 p (List.mem_of_getElem? hp)).1 hk (h5.symm.trans h3)
    subst this
    exact .inr ⟨j, e, p.2, h1, by simpa using h2, h3, h6, hp⟩
end
section
variable {K V : Type} {KW : K → Prop} {VW : V → Prop} {kv : K → Value} {vv : V → Value} {P : Program} {N R : AW} {E : List (Nat × AW)} {Q : Exit → AW} {ops : Array Oper} {rest : List Oper} {W0 : World} {md : List Nat} {μ0 μ : Store} {its : List It} {w : World} {ds : List Deferred} {a : Act} {n : Nat} {L : List (Nat × Value)} {dst : Option Nat} {ty t kt et : TypeId} {pos : String} {aft : Array Edge} {gd : Option (Nat × Bool)} {x y m : Operand} {g : Nat} {l : List (K × V)} {k : K} {z0 : V} {v : V} {d : Nat}
theorem Iv.mp_okB {es : List (Value × Value)} (hI : Iv W0 md μ0 μ its w) {j : Nat} (hj : its[j]? = some (mpI g es)) : ∃ arr c, w.heap[g]? = some (.map arr c) ∧ arr.toList.map (fun e => (e.key, e.val)) = es ∧ BN arr c :=
  (hI.own _ (List.mem_of_getElem? hj)).1
theorem Iv.mp_ok {es : List (Value × Value)} (hI : Iv W0 md μ0 μ its w) {j : Nat} (hj : its[j]? = some (mpI g es)) : ∃ arr c, w.heap[g]? = some (.map arr c) ∧ arr.toList.map (fun e => (e.key, e.val)) = es :=
  let ⟨arr, c, h1, h2, _⟩ := hI.mp_okB hj; ⟨arr, c, h1, h2⟩
theorem zero_run (hz : (P.info? et).map (·.zero) = some (some (vv z0))) : (zeroValue et).run P w = .ok (vv z0) w := by
  cases hq : P.info? et with
  | none => simp [hq] at hz
  | some q =>
    have : q.zero = some (vv z0) := by simpa [hq] using hz
    simp [zeroValue, typeInfo, hq, this]
theorem o_mkmap (kv : K → Value) (vv : V → Value) (hI : Iv W0 md μ0 μ its w) (hA : FrG ds a n L) (hd : Nat.ble (d + 1) n = true)
    (k : ∀ g a w, Iv W0 md μ0 μ (mpI g (ent kv vv []) :: its) w → FrG ds a n ((d, .map (some g)) :: L) → wpList P ops Q rest a w) :
    wpList P ops Q (⟨some d, .makeMap t none, ty, pos, aft, none⟩ :: rest) a w :=
  wpl_val (v := .map (some w.heap.size)) (w' := w.alloc (.map #[] 0)) (by simp [execOp, RowKit.run_makeMap]) (k _ _ _ (hI.alloc _ (mpI w.heap.size (ent kv vv [])) rfl ⟨#[], 0, (MapKept.heap_alloc w _).1, rfl, by simp [BN]⟩) (hA.put hd _))
variable [DecidableEq K]
theorem run_look (c : Bool) (Nk : KeyN P kt kv KW) (ht : P.underlying t = some (.map kt et)) (hz : (P.info? et).map (·.zero) = some (some (vv z0))) (hl : MW KW VW l) (hk : KW k) {j : Nat} (hI : Iv W0 md μ0 μ its w) (hj : its[j]? = some (mpI g (ent kv vv l))) :
    (Instr.lookup t (.map (some g)) (kv k) c).run P w = .ok (if c then .tuple #[vv ((mget l k).getD z0), .bool (mget l k).isSome] else vv ((mget l k).getD z0)) w := by
  obtain ⟨arr, cl, hg, he⟩ := hI.mp_ok hj
  obtain ⟨lk, hlk⟩ := Nk.key k hk
  rcases find_ent (w := w) Nk he hl hk with ⟨h1, h2⟩ | ⟨j, e, v, h1, h2, h3, h4, h5⟩
  · rw [mget_none h2]
    cases c <;> simp [Instr.lookup, run_underlying ht, MapKept.run_getObj_map hg, Nk.keyed.check w _ hlk, h1, zero_run hz, Result.andThen]
  · rw [mget_at hl.2 h5]
    cases c <;> simp [Instr.lookup, run_underlying ht, MapKept.run_getObj_map hg, Nk.keyed.check w _ hlk, h1, h4, Result.andThen]
theorem r_look (Nk : KeyN P kt kv KW) (ht : P.underlying t = some (.map kt et)) (hz : (P.info? et).map (·.zero) = some (some (vv z0))) (hl : MW KW VW l) (hk : KW k) {j : Nat} (hI : Iv W0 md μ0 μ its w) (hj : its[j]? = some (mpI g (ent kv vv l))) (hA : FrG ds a n L) (hx : ov L x = some (.map (some g))) (hy : ov L y = some (kv k)) :
    (execOp a.eval ⟨dst, .lookup t x y false, ty, pos, aft, gd⟩).run P w = .ok (.value (vv ((mget l k).getD z0))) w := by
  have h := run_look (P := P) false Nk ht hz hl hk hI hj
  simp only [Bool.false_eq_true, if_false] at h
  simp [execOp, hA.ev hx, hA.ev hy, h]
theorem run_mput (Nk : KeyN P kt kv KW) (ht : P.underlying t = some (.map kt et)) (hl : MW KW VW l) (hk : KW k) {j : Nat} (hI : Iv W0 md μ0 μ its w) (hj : its[j]? = some (mpI g (ent kv vv l))) :
    ∃ w', (Instr.mapUpdate t (.map (some g)) (kv k) (vv v)).run P w = .ok () w' ∧ Iv W0 md μ0 μ (its.set j (mpI g (ent kv vv (mput l k v)))) w' := by
  obtain ⟨arr, cl, hg, he, hB⟩ := hI.mp_okB hj
  obtain ⟨lk, hlk⟩ := Nk.key k hk
  have key : ∀ (arr' : Array MapEntry) (c' : Nat), arr'.toList.map (fun e => (e.key, e.val)) = ent kv vv (mput l k v) → BN arr' c' → Iv W0 md μ0 μ (its.set j (mpI g (ent kv vv (mput l k v)))) (ChangeMaps.setBlock w g (.map arr' c')) := fun arr' c' h' hB' => by
    have hlt := (Array.getElem?_eq_some_iff.1 hg).1
    refine hI.upd j (mpI g (ent kv vv l)) _ hj rfl rfl rfl (by simp [ChangeMaps.setBlock]) (fun k hk hn => ?_) (fun g' hg' => .inl hg') (fun g' hg' => ?_) (by simp [mpI]) ⟨arr', c', ?_, h', hB'⟩
    · have hne : g ≠ k := fun e => hn (by simp [mpI, e])
      simp [ChangeMaps.setBlock, Array.getElem?_setIfInBounds, hne]
    · have : g' = g := by simpa [mpI] using hg'
      subst this
      simpa [ChangeMaps.setBlock] using hlt
    · simp [ChangeMaps.setBlock, hlt]
  rcases find_ent (w := w) Nk he hl hk with ⟨h1, h2⟩ | ⟨i, e, v0, h1, h2, h3, h4, h5⟩
  · refine ⟨_, ?_, key (arr.push ⟨kv k, vv v, cl⟩) (cl + 1) ?_ (hB.push _ _)⟩
    · simp [Instr.mapUpdate, run_underlying ht, MapKept.run_getObj_map hg, Nk.keyed.check w _ hlk, h1, MapKept.run_setObj_map _ hg, Result.andThen, ChangeMaps.setBlock]
    · rw [mput_none h2]
      simp only [Array.toList_push, List.map_append, he]
      simp [ent]
  · refine ⟨_, ?_, key (arr.modify i (fun e' => { e' with key := kv k, val := vv v })) cl ?_ (hB.set _ _ fun _ => rfl)⟩
    · simp [Instr.mapUpdate, run_underlying ht, MapKept.run_getObj_map hg, Nk.keyed.check w _ hlk, h1, h2, h3, Nk.keyed.stays w hlk, MapKept.run_setObj_map _ hg, Result.andThen, ChangeMaps.setBlock]
    · rw [mput_at hl.2 h5, Array.toList_modify, ChangeMaps.modify_eq_set _ _ _ _ (by simpa using h2)]
      simp only [List.map_set, he]
      simp [ent, List.map_set]
theorem o_mput (v : V) (Nk : KeyN P kt kv KW) (ht : P.underlying t = some (.map kt et)) (hl : MW KW VW l) (hk : KW k) {j : Nat} (hI : Iv W0 md μ0 μ its w) (hj : its[j]? = some (mpI g (ent kv vv l))) {u : Operand} (hA : FrG ds a n L) (hx : ov L x = some (.map (some g))) (hy : ov L y = some (kv k)) (hu : ov L u = some (vv v))
    (kk : ∀ w, Iv W0 md μ0 μ (its.set j (mpI g (ent kv vv (mput l k v)))) w → wpList P ops Q rest a w) :
    wpList P ops Q (⟨none, .mapUpdate t x y u, ty, pos, aft, none⟩ :: rest) a w := by
  obtain ⟨w', h1, h2⟩ := run_mput (v := v) (P := P) Nk ht hl hk hI hj
  refine wpl_skip (w' := w') ?_ (by simpa [Act.put] using kk w' h2)
  simp [execOp, hA.ev hx, hA.ev hy, hA.ev hu, h1]
end
section
variable {P : Program} {t e kt : TypeId} {q : IntKind} {n : Nat} {xs : List Int} {x : Int}
theorem in_wf {k : IntKind} {n : Int} (h : InR k n) : (Lit.int k n).wf = true := by
  cases k <;> simp [InR] at h <;> simp [Lit.wf, IntKind.min, IntKind.max, IntKind.signed, IntKind.bits] <;> omega
theorem kl_int (hu : P.underlying t = some (.int q)) (h : InR q x) (d : Nat) : P.keyLits (d + 1) t [.int q x] = some [.int q x] := by
  simp [Program.keyLits, hu, in_wf h]
theorem mapM_some {α β : Type} {f : α → Option β} : ∀ {l : List α}, (∀ x ∈ l, ∃ y, f x = some y) → ∃ ys, l.mapM f = some ys
  | [], _ => ⟨[], by simp⟩
  | x :: l, h => by
    obtain ⟨y, hy⟩ := h x (by simp)
    obtain ⟨ys, hys⟩ := mapM_some (l := l) fun z hz => h z (by simp [hz])
    exact ⟨y :: ys, by simp [hy, hys]⟩
theorem kl_arr (hu : P.underlying t = some (.array n e)) (he : P.underlying e = some (.int q)) (hc : P.cellsOf e = 1) (ht : P.cellsOf t = n) (h : Arr q n xs) (d : Nat) : ∃ ls, P.keyLits (d + 2) t (av q n xs) = some ls := by
  obtain ⟨ys, hys⟩ := mapM_some (f := fun i => P.keyLits (d + 1) e (((av q n xs).drop (i * P.cellsOf e)).take (P.cellsOf e))) (l := List.range n) fun i hi => by
    have hi := List.mem_range.1 hi
    refine ⟨[.int q (xs.getD i 0)], ?_⟩
    have e1 : ((av q n xs).drop (i * P.cellsOf e)).take (P.cellsOf e) = [.int q (xs.getD i 0)] := by
      rw [hc, Nat.mul_one]
      apply List.ext_getElem?
      intro j
      rw [List.getElem?_take]
      split
      · rename_i hj
        have : j = 0 := by omega
        subst this
        simp [av_get q n xs hi]
      · rename_i hj
        rw [List.getElem?_eq_none (by simp; omega)]
    rw [e1]
    exact kl_int he (arr_get h i) d
  exact ⟨ys.flatten, by unfold Program.keyLits; simp [hu, av_len, ht, hys]⟩
theorem kl_struct {fs : Array Field} {cs : List Value} {d : Nat} (hu : P.underlying t = some (.struct fs)) (hl : cs.length = P.cellsOf t) (hn : fs.all (·.name != "_") = true) (h : ∀ f ∈ fs.toList, ∃ ls, P.keyLits d f.type ((cs.drop f.offset).take (P.cellsOf f.type)) = some ls) : ∃ ls, P.keyLits (d + 1) t cs = some ls := by
  obtain ⟨ys, hys⟩ := mapM_some h
  exact ⟨ys.flatten, by unfold Program.keyLits; simp only [hu]; rw [if_pos ⟨hl, hn⟩, hys]; rfl⟩
theorem av_inj {xs ys : List Int} (hx : Arr q n xs) (hy : Arr q n ys) (h : av q n xs = av q n ys) : xs = ys := by
  rw [av_map q n xs hx.1, av_map q n ys hy.1] at h
  exact (List.map_inj_right (fun _ _ h => by simpa using h)).1 h
theorem keyN_arr (hu : P.underlying kt = some (.array n e)) (he : P.underlying e = some (.int q)) (hc : P.cellsOf e = 1) (ht : P.cellsOf kt = n) (K : Maps.Keyed P kt) (hkt : P.keyType kt = true) (hsz : ∃ d, P.types.size = d + 1) : KeyN P kt (fun x : List Int => .agg [av q n x].flatten.toArray) (fun x => Arr q n x) := by
  refine ⟨K, fun k hk => ?_, fun a b ha hb h => ?_⟩
  · obtain ⟨d, hd⟩ := hsz
    obtain ⟨ls, hls⟩ := kl_arr hu he hc ht hk d
    refine ⟨.string (keyBytes ls), ?_⟩
    have hf : Value.formed P kt (.agg [av q n k].flatten.toArray) = true := by simp [Value.formed, hu, av_len, ht]
    simp only [keyOf, hu, hkt, hf, hd, Bool.and_self, if_true]
    have e1 : Value.cells (.agg [av q n k].flatten.toArray) = (av q n k).toArray := by simp [Value.cells]
    rw [e1]
    simp [hls]
  · have h' : av q n a = av q n b := by simpa using h
    exact av_inj ha hb h'
theorem keyN_pt {K : Type} (fA : K → List Int) (fI : K → Int) (hinj : ∀ a b, fA a = fA b → fI a = fI b → a = b) {q2 : IntKind} {f0 f1 : Field} {tA tI : TypeId} {fs : Array Field} (hu : P.underlying kt = some (.struct fs)) (hfs : fs.toList = [f0, f1]) (h0 : f0.type = tA) (o0 : f0.offset = 0) (h1 : f1.type = tI) (o1 : f1.offset = n) (hn : fs.all (·.name != "_") = true)
    (hA : P.underlying tA = some (.array n e)) (he : P.underlying e = some (.int q)) (hI : P.underlying tI = some (.int q2)) (ce : P.cellsOf e = 1) (cA : P.cellsOf tA = n) (cI : P.cellsOf tI = 1) (ck : P.cellsOf kt = n + 1) (K1 : Maps.Keyed P kt) (hkt : P.keyType kt = true) (hsz : ∃ d, P.types.size = d + 2) :
    KeyN P kt (fun x : K => .agg [av q n (fA x), [.int q2 (fI x)]].flatten.toArray) (fun x => Arr q n (fA x) ∧ InR q2 (fI x)) := by
  refine ⟨K1, fun k hk => ?_, fun a b ha hb h => ?_⟩
  · obtain ⟨d, hd⟩ := hsz
    obtain ⟨l0, hl0⟩ := kl_arr hA he ce cA hk.1 d
    have hl1 := kl_int hI hk.2 (d + 1)
    obtain ⟨ls, hls⟩ := kl_struct (cs := av q n (fA k) ++ [.int q2 (fI k)]) (d := d + 2) hu (by rw [ck]; simp [av_len]) hn (by
      rw [hfs]
      intro f hf
      rcases List.mem_cons.1 hf with rfl | hf
      · refine ⟨l0, ?_⟩
        rw [h0, o0, cA, List.drop_zero, List.take_left' (av_len _ _ _)]
        exact hl0
      · obtain rfl := List.mem_singleton.1 hf
        refine ⟨[.int q2 (fI k)], ?_⟩
        rw [h1, o1, cI, List.drop_left' (av_len _ _ _)]
        exact hl1)
    refine ⟨.string (keyBytes ls), ?_⟩
    have hf : Value.formed P kt (.agg [av q n (fA k), [.int q2 (fI k)]].flatten.toArray) = true := by simp [Value.formed, hu, av_len, ck]
    have e1 : Value.cells (.agg [av q n (fA k), [.int q2 (fI k)]].flatten.toArray) = (av q n (fA k) ++ [Value.int q2 (fI k)]).toArray := by simp [Value.cells]
    simp only [keyOf, hu, hkt, hf, hd, Bool.and_self, if_true]
    rw [e1]
    simp [hls]
  · have h' : av q n (fA a) ++ [Value.int q2 (fI a)] = av q n (fA b) ++ [Value.int q2 (fI b)] := by simpa using h
    obtain ⟨h2, h3⟩ := List.append_inj h' (by rw [av_len, av_len])
    exact hinj a b (av_inj ha.1 hb.1 h2) (by simpa using h3)
end
end Go.Proofs.YtkfpmcplfodikaaDoor.K
namespace Go.Proofs.YtkfpmcplfodikaaDoor.K
open Go
set_option linter.unusedVariables false
section
variable {P : Program} {Q : Exit → AW} {ops : Array Oper} {rest : List Oper} {W0 : World} {md : List Nat} {μ0 μ : Store} {its : List It} {w : World} {ds : List Deferred} {a : Act} {n : Nat} {L : List (Nat × Value)} {d : Nat} {ty t t2 T e : TypeId} {pos : String} {aft : Array Edge} {x y : Operand} {g o m cp : Nat} {k : IntKind} {vy : Value} {xs ys : List Int}
end
theorem fold_set : ∀ (cs : List Value) (k off : Nat) (pre mid post : List Value), pre.length = off + k → mid.length = cs.length →
    (cs.zipIdx k).foldl (fun (a : Array Value) (c : Value × Nat) => a.setIfInBounds (off + c.2) c.1) (pre ++ (mid ++ post)).toArray = (pre ++ (cs ++ post)).toArray
  | [], k, off, pre, mid, post, _, h => by
    have : mid = [] := List.eq_nil_of_length_eq_zero (by simpa using h)
    subst this
    rfl
  | c :: cs, k, off, pre, [], post, _, h => by simp at h
  | c :: cs, k, off, pre, m :: mid, post, hp, h => by
    rw [List.zipIdx_cons, List.foldl_cons]
    have e1 : (pre ++ (m :: mid ++ post)).toArray.setIfInBounds (off + k) c = ((pre ++ [c]) ++ (mid ++ post)).toArray := by
      rw [← hp]
      simp
    rw [e1, fold_set cs (k + 1) off (pre ++ [c]) mid post (by simp; omega) (by simpa using h)]
    simp
theorem fill_seg {place : Nat → Option (Nat × Nat)} {i off size : Nat} {v : Value} {rest : List (Nat × Value)} (P1 P2 P2' P3 : List (List Value)) (hv : v.cells = P2'.flatten.toArray) (hp : place i = some (off, size)) (h1 : P1.flatten.length = off) (h2 : P2.flatten.length = size) (h3 : P2'.flatten.length = size) :
    Instr.fill place (P1 ++ (P2 ++ P3)).flatten.toArray ((i, v) :: rest) = Instr.fill place (P1 ++ (P2' ++ P3)).flatten.toArray rest := by
  simp only [List.flatten_append]
  generalize P1.flatten = A at *
  generalize P2.flatten = B at *
  generalize P2'.flatten = B' at *
  generalize P3.flatten = C at *
  rw [Instr.fill, hp]
  simp only [hv]
  rw [if_neg (by simp; omega)]
  congr 1
  have := fold_set B' 0 off A B C (by omega) (by omega)
  rw [← this]
  simp
end Go.Proofs.YtkfpmcplfodikaaDoor.K
namespace Go.Proofs.YtkfpmcplfodikaaDoor.K
open Go
set_option linter.unusedVariables false
section
variable {P : Program} {w : World} {ds : List Deferred} {a : Act} {n : Nat} {L : List (Nat × Value)} {dst : Option Nat} {ty t e : TypeId} {pos : String} {aft : Array Edge} {gd : Option (Nat × Bool)} {x y : Operand}
end
abbrev pt (g o : Nat) : Value := .pointer (some ⟨g, o, none⟩)
theorem sI {α : Type} {a b : α} (h : some a = some b) : a = b := Option.some.inj h
theorem sJ {α : Type} {v r : α} (h : (some v).bind some = some r) : v = r := Option.some.inj h
theorem dT {α β : Type} {c : Prop} [Decidable c] {A B : Option α} {K : α → Option β} {r : β} (h : (if c then A else B).bind K = some r) (hc : decide c = true) : c ∧ A.bind K = some r := ⟨of_decide_eq_true hc, bT h (of_decide_eq_true hc)⟩
theorem dF {α β : Type} {c : Prop} [Decidable c] {A B : Option α} {K : α → Option β} {r : β} (h : (if c then A else B).bind K = some r) (hc : decide c = false) : ¬ c ∧ B.bind K = some r := ⟨of_decide_eq_false hc, bF h (of_decide_eq_false hc)⟩
section
variable {P : Program} {N R : AW} {E : List (Nat × AW)} {Q : Exit → AW} {ops : Array Oper} {rest : List Oper} {ds : List Deferred} {a : Act} {w : World} {n : Nat} {L : List (Nat × Value)} {d : Nat} {op : Op} {ty : TypeId} {pos : String} {aft : Array Edge} {v : Value} {x : Operand}
theorem stm (hA : FrG ds a n L) (hx : ov L x = some v) (hd : Nat.ble (d + 1) n = true) (k : ∀ a, FrG ds a n ((d, v) :: L) → wpList P ops Q rest a w) : wpList P ops Q (⟨some d, .move x, ty, pos, aft, none⟩ :: rest) a w := stp hA (r_mv hA hx) hd k
theorem sta (hA : FrG ds a n L) (hx : ov L x = some v) (hd : Nat.ble (d + 1) n = true) (k : ∀ a, FrG ds a n ((d, v) :: L) → wpList P ops Q rest a w) : wpList P ops Q (⟨some d, .assign x, ty, pos, aft, none⟩ :: rest) a w := stp hA (r_as hA hx) hd k
end
section
variable {W0 : World} {md : List Nat} {μ0 μ μ' : Store} {its its2 : List It} {w w' : World} {i i2 i3 j j2 j3 : It}
theorem Iv.sl (h : Iv W0 md μ0 μ its w) (ix : List Nat) {its' : List It} (he : ix.filterMap (its[·]?) = its') (hn : ix.Nodup := by decide) : Iv W0 md μ0 μ its' w := h.sel ix hn he
theorem Iv.back2 (h : Iv W0 md μ0 μ (i :: i2 :: its2) w) (h' : Iv w (many [i, i2]).foot μ μ' [j, j2] w') : Iv W0 md μ0 μ' (j :: j2 :: its2) w' := Iv.callN (its1 := [i, i2]) (its1' := [j, j2]) h h'
end
section
variable {P : Program} {ops : Array Oper} {N R : AW} {E : List (Nat × AW)} {I I' : World → Prop} {T : List Nat} {l : Array Bool} {f d n : Nat} {L : List (Nat × Value)} {ds : List Deferred} {a : Act} {w : World} {v : Value} {op : Op} {ty : TypeId} {pos : String} {aft : Array Edge} {gd : Option (Nat × Bool)}
theorem gE (i : Nat) (hA : FrG ds a n L) (hi : ops[i]? = some ⟨some d, op, ty, pos, aft, none⟩) (hI : wrote T l = true ∨ I w) (h : ∀ w, (execOp a.eval ⟨some d, op, ty, pos, aft, none⟩).run P w = .ok (.value v) w)
    (k : ∀ a, FrG ds a n ((d, v) :: L) → wpG P ops (PQ N E R) T I f (l.setIfInBounds i true) a w) (hB : weakB ops T l i = true := by kernel_rfl) (hd : Nat.ble (d + 1) n = true := by rfl) : wpG P ops (PQ N E R) T I (f + 1) l a w :=
  g_easy hA hi rfl hB hI h hd k
theorem gT (i : Nat) (hA : FrG ds a n L) (hi : ops[i]? = some ⟨some d, op, ty, pos, aft, none⟩) (hI : I w) (h : ∀ w, I w → (execOp a.eval ⟨some d, op, ty, pos, aft, none⟩).run P w = .ok (.value v) w)
    (k : ∀ a, FrG ds a n ((d, v) :: L) → wpG P ops (PQ N E R) T I f (l.setIfInBounds i true) a w) (hB : takeB ops T l i = true := by kernel_rfl) (hd : Nat.ble (d + 1) n = true := by rfl) : wpG P ops (PQ N E R) T I (f + 1) l a w :=
  g_take hA hi rfl hB hI h hd k
theorem gF (i : Nat) {o : Oper} (hi : ops[i]? = some o) (h : wpList P ops (PQ (fun a' w' => (wrote T (l.setIfInBounds i true) = true ∨ I w') ∧ wpG P ops (PQ N E R) T I f (l.setIfInBounds i true) a' w') E R) [o] a w) (hr : Region.ready .any ops l = [i] := by kernel_rfl) : wpG P ops (PQ N E R) T I (f + 1) l a w := g_forced hi hr h
theorem gN (h : N a w) (hr : Region.ready .any ops l = [] := by kernel_rfl) : wpG P ops (PQ N E R) T I 0 l a w := g_nil hr h
end
section
variable {P : Program} {Q : Exit → AW} {ops : Array Oper} {rest : List Oper} {W0 : World} {md : List Nat} {μ0 μ : Store} {its : List It} {w : World} {ds : List Deferred} {a : Act} {n : Nat} {L : List (Nat × Value)} {d : Nat} {ty t e : TypeId} {pos : String} {aft : Array Edge} {x y : Operand} {v vx : Value} {sz by_ M : Nat} {cs news : List Value}
theorem o_appG {α : Type} {xs ys : List α} (j : Nat) (hte : TyE P e sz by_) (ht : P.underlying t = some (.slice e)) (hI : Iv W0 md μ0 μ its w) (hj : its[j]? = some (row e sz v xs.length cs)) (hA : FrG ds a n L) (hx : ov L x = some v) (hy : ov L y = some vx)
    (hf : ∃ A cp, vx = .slice A ys.length cp ∧ (ys.length ≠ 0 → ∃ ad, A = some ad ∧ ∀ j u, news[j]? = some u → w.cell? (ad.add j) = some u)) (hl : news.length = ys.length * sz) (h1 : ∀ u ∈ news, u.oneCell' = true)
    (hq : xs.length + ys.length ≤ M) (hd : Nat.ble (d + 1) n = true)
    (k : ∀ v' a w, FrG ds a n ((d, v') :: L) → Iv W0 md μ0 μ (its.set j (row e sz v' (xs ++ ys).length (cs ++ news))) w → wpList P ops Q rest a w) (hm : Nat.ble (M * by_) 140737488355328 = true := by rfl) (hM : Nat.ble M maxLen = true := by rfl) :
    wpList P ops Q (⟨some d, .call { callee := .builtin .append, args := #[x, y], argTypes := #[t, t] }, ty, pos, aft, none⟩ :: rest) a w :=
  o_appL hte ht hI hj hA hx hy hf hl h1 (Nat.le_trans hq (Nat.le_of_ble_eq_true hM)) (Nat.le_trans (Nat.mul_le_mul_right _ hq) (Nat.le_of_ble_eq_true hm)) hd k
end
end Go.Proofs.YtkfpmcplfodikaaDoor.K
namespace Go.Proofs.YtkfpmcplfodikaaDoor.K
open Go
set_option linter.unusedVariables false
section
variable {P : Program} {W0 : World} {md : List Nat} {μ0 μ ν : Store} {its : List It} {w : World} {ds : List Deferred} {a : Act} {n : Nat} {L : List (Nat × Value)} {dst : Option Nat} {ty t T e : TypeId} {pos : String} {aft : Array Edge} {gd : Option (Nat × Bool)} {x y c : Operand} {v : Value}
end
section
variable {P : Program} {Q : Exit → AW} {ops : Array Oper} {rest : List Oper} {ds : List Deferred} {a : Act} {w : World} {n : Nat} {L : List (Nat × Value)} {d : Nat} {ty : TypeId} {pos : String} {aft : Array Edge}
theorem o_callW {f : FuncId} {xs : List Operand} {vs : List Value} {ats : Array TypeId} (Z : World → Value → World → Prop) (hf : CalleeF P f) (hA : FrG ds a n L) (hv : ovs L xs = some vs) (hc : Calls P f vs.toArray w fun e w' => ∃ v, e = .returned v ∧ Z w v w')
    (hd : Nat.ble (d + 1) n = true) (k : ∀ v a w', Z w v w' → FrG ds a n ((d, v) :: L) → wpList P ops Q rest a w') :
    wpList P ops Q (⟨some d, .call { callee := .value (.func f), args := xs.toArray, argTypes := ats }, ty, pos, aft, none⟩ :: rest) a w := o_call (Z w) hf hA hv hc hd k
end
section
variable {P : Program} {Q : Exit → AW} {ops : Array Oper} {rest : List Oper} {W0 : World} {md : List Nat} {μ0 μ : Store} {its : List It} {w : World} {ds : List Deferred} {a : Act} {n : Nat} {L : List (Nat × Value)} {d : Nat} {dst : Option Nat} {ty t e : TypeId} {pos : String} {aft : Array Edge} {gd : Option (Nat × Bool)} {x h l : Operand} {v : Value} {sz by_ m : Nat} {cs : List Value} {kd : IntKind} {q : Int}
end
section
variable {P : Program} {Q : Exit → AW} {ops : Array Oper} {rest : List Oper} {W0 : World} {md : List Nat} {μ0 μ : Store} {its : List It} {w : World} {ds : List Deferred} {a : Act} {n : Nat} {L : List (Nat × Value)} {ty t e : TypeId} {pos : String} {aft : Array Edge} {x : Operand} {v : Value} {sz : Nat} {cs : List Value}
end
section
variable {P : Program} {W0 : World} {md : List Nat} {μ0 μ : Store} {its : List It} {w : World} {ds : List Deferred} {a : Act} {n : Nat} {L : List (Nat × Value)} {dst : Option Nat} {ty t ti k_ e : TypeId} {pos : String} {aft : Array Edge} {gd : Option (Nat × Bool)} {x y : Operand} {g : Nat}
end
end Go.Proofs.YtkfpmcplfodikaaDoor.K
namespace Go.Proofs.YtkfpmcplfodikaaDoor.K
open Go Go.Proofs
set_option linter.unusedVariables false
inductive Er where
  | b (n : Nat)
  | pl (p : Int) (e : Er)
deriving DecidableEq, Inhabited
def Er.isP : Er → Bool
  | .pl _ _ => true
  | _ => false
def Er.pos : Er → Int
  | .pl p _ => p
  | _ => 0
def Er.err : Er → Er
  | .pl _ e => e
  | _ => .b 0
def Er.cmp : Er → Er → Bool
  | .b 0, .b 0 => false
  | .pl _ _, .pl _ _ => false
  | _, _ => true
def ErB (tp : TypeId) (code : ByteArray → Nat) (μ : Store) (v : Value) (x : Nat) : Prop :=
  (x = 0 ∧ v = .nilIface) ∨ (x ≠ 0 ∧ μ.cell (x - 1) 0 = some v ∧ ∃ (a : Addr) (s : ByteArray) (c : Array Value) (t : TypeId), v = .iface tp (.pointer (some a)) ∧ μ a.block = some (.cells c t (0, 0)) ∧ code s = x ∧ ∀ w : World, Agr μ w → w.cell? a = some (.string s))
def ErV (tp ta : TypeId) (code : ByteArray → Nat) (μ : Store) : Er → Value → Prop
  | .b x, v => ErB tp code μ v x
  | .pl p e, v => ∃ (g : Nat) (u : Value), v = .iface ta (.pointer (some ⟨g, 0, none⟩)) ∧ At μ g 0 [[.int .i64 p], [u]].flatten ∧ InR .i64 p ∧ ErV tp ta code μ e u
section
variable {tp ta : TypeId} {code : ByteArray → Nat} {μ ν : Store} {v v' : Value} {x y : Er} {i j : Nat}
theorem ErB.le (hl : μ.le ν) (h : ErB tp code μ v i) : ErB tp code ν v i := by
  rcases h with h | ⟨h0, h1, a, s, c, t, h2, h3, h4, h5⟩
  · exact .inl h
  · exact .inr ⟨h0, hl.cell h1, a, s, c, t, h2, hl _ _ h3, h4, fun w hw => h5 w (fun k o e => hw k o (hl k o e))⟩
theorem ErV.le (_ : ∀ (a b : Nat) (h : True), True) (hl : μ.le ν) : ∀ {x : Er} {v : Value}, ErV tp ta code μ x v → ErV tp ta code ν x v
  | .b _, _, h => ErB.le hl h
  | .pl _ _, _, ⟨g, u, h1, h2, h3, h4⟩ => ⟨g, u, h1, h2.le hl, h3, h4.le (fun _ _ h => h) hl⟩
theorem erv_nil : ErV tp ta code μ (.b 0) .nilIface := .inl ⟨rfl, rfl⟩
theorem ErB.one (h : ErB tp code μ v i) : v.oneCell' = true := by
  rcases h with ⟨_, rfl⟩ | ⟨_, _, a, s, c, t, rfl, _⟩ <;> rfl
theorem ErV.one : ∀ {x : Er} {v : Value}, ErV tp ta code μ x v → v.oneCell' = true
  | .b _, _, h => ErB.one h
  | .pl _ _, _, ⟨_, _, h1, _⟩ => by subst h1; rfl
theorem ErB.same (h : ErB tp code μ v i) (h' : ErB tp code μ v' i) : v = v' := by
  rcases h with ⟨e, rfl⟩ | ⟨e, h1, a, s, c, t, rfl, h3⟩
  · rcases h' with ⟨_, rfl⟩ | ⟨e', _⟩
    · rfl
    · exact absurd e e'
  · rcases h' with ⟨e', _⟩ | ⟨_, h1', _⟩
    · exact absurd e' e
    · exact Option.some.inj (h1.symm.trans h1')
theorem ErV.load {g : Nat} (h : ErV tp ta code μ (.b (g + 1)) v) : μ.cell g 0 = some v := by
  rcases (show ErB tp code μ v (g + 1) from h) with ⟨e, _⟩ | ⟨_, h1, _⟩
  · cases e
  · exact h1
def aP (ta : TypeId) : Value → Value
  | .iface t u => if t = ta then u else .pointer none
  | _ => .pointer none
theorem ErV.isP (h : ErV tp ta code μ x v) (hp : x.isP = true) : ∃ (g : Nat) (u : Value), aP ta v = .pointer (some ⟨g, 0, none⟩) ∧ At μ g 0 [[.int .i64 x.pos], [u]].flatten ∧ InR .i64 x.pos ∧ ErV tp ta code μ x.err u := by
  cases x with
  | b n => cases hp
  | pl p e =>
    obtain ⟨g, u, rfl, h2, h3, h4⟩ := h
    exact ⟨g, u, by simp [aP], h2, h3, h4⟩
theorem ErV.low {l : List (Er × Value)} (hle : μ.le ν) (h : ErV tp ta code ν x v) (hx : x ∈ l.map (·.1)) (hl : ∀ p ∈ l, ErV tp ta code μ p.1 p.2 ∧ p.1.isP = false) : ErV tp ta code μ x v := by
  obtain ⟨p, hp, rfl⟩ := List.mem_map.1 hx
  obtain ⟨h1, h2⟩ := hl p hp
  cases hq : p.1 with
  | pl _ _ => rw [hq] at h2; cases h2
  | b n =>
    rw [hq] at h h1
    have h3 : ErB tp code ν p.2 n := ErB.le hle h1
    rw [ErB.same (show ErB tp code ν v n from h) h3]
    exact h1
def RErV (tp ta : TypeId) (code : ByteArray → Nat) (μ : Store) (x : Er) (c : List Value) : Prop := ∃ v : Value, c = [[v]].flatten ∧ ErV tp ta code μ x v
theorem RErV.le (hl : μ.le ν) {c : List Value} (h : RErV tp ta code μ x c) : RErV tp ta code ν x c := let ⟨v, h0, h1⟩ := h; ⟨v, h0, h1.le (fun _ _ h => h) hl⟩
theorem RErV.ones : ∀ (x : Er) (c : List Value), RErV tp ta code μ x c → ∀ u ∈ c, u.oneCell' = true := by
  rintro x c ⟨v, rfl, h⟩ u hu
  have : u = v := by simpa using hu
  subst this
  exact h.one
structure ErF (P : Program) (ti tp ta : TypeId) : Prop where
  ne : tp ≠ ta
  hi : ∃ ms, P.underlying ti = some (.interface ms)
  hp : ∃ te i j, P.underlying tp = some (.pointer te) ∧ P.info? tp = some i ∧ i.comparable = true ∧ P.info? te = some j ∧ j.size ≠ 0
theorem ErF.of {P : Program} {ti tp te : TypeId} {ms : Array (String × TypeId)} (hi : P.underlying ti = some (.interface ms)) (hp : P.underlying tp = some (.pointer te)) (hc : (P.info? tp).map (·.comparable) = some true) (hs : (P.info? te).map (·.size) = some 1) (hn : tp ≠ ta) : ErF P ti tp ta := by
  obtain ⟨i, hi', hc'⟩ := Option.map_eq_some_iff.1 hc
  obtain ⟨j, hj, hs'⟩ := Option.map_eq_some_iff.1 hs
  exact ⟨hn, ⟨ms, hi⟩, ⟨te, i, j, hp, hi', hc', hj, by rw [hs']; decide⟩⟩
theorem eqIn_errB {P : Program} {ti : TypeId} {w : World} (F : ErF P ti tp ta) (hA : Agr μ w) (h : ErB tp code μ v i) (h' : ErB tp code μ v' j) : (Op.equalIn 10000 ti v v').run P w = .ok (decide (i = j)) w := by
  obtain ⟨ms, hi⟩ := F.hi
  obtain ⟨te, q, r, hp, hif, hc, hj, hs⟩ := F.hp
  by_cases e : i = j
  · subst e
    have := h.same h'
    subst this
    rw [decide_eq_true rfl]
    rcases h with ⟨_, rfl⟩ | ⟨_, _, a, s, c, t, rfl, _⟩
    · exact (show ∀ d : Nat, (Op.equalIn (d + 1) ti .nilIface .nilIface).run P w = .ok true w from fun d => by simp [Op.equalIn, run_underlying hi]) 9999
    · exact run_equalIn_iface_ptr_same w 9998 a hi hp hif hc hj
  · rw [decide_eq_false e]
    rcases h with ⟨e1, rfl⟩ | ⟨e1, _, a, s, c, t, rfl, hb, hco, hce⟩ <;> rcases h' with ⟨e2, rfl⟩ | ⟨e2, _, a', s', c', t', rfl, hb', hco', hce'⟩
    · exact absurd (e1.trans e2.symm) e
    · exact (show ∀ (d : Nat) (u : Value), (Op.equalIn (d + 1) ti .nilIface (.iface tp u)).run P w = .ok false w from fun d u => by simp [Op.equalIn, run_underlying hi]) 9999 _
    · exact (show ∀ (d : Nat) (u : Value), (Op.equalIn (d + 1) ti (.iface tp u) .nilIface).run P w = .ok false w from fun d u => by simp [Op.equalIn, run_underlying hi]) 9999 _
    · refine run_equalIn_iface_ptr_other w 9998 hi hp hif hc hj hs ?_ (hA _ _ hb) (hA _ _ hb')
      rintro rfl
      have := (hce w hA).symm.trans (hce' w hA)
      simp only [Option.some.injEq, Value.string.injEq] at this
      subst this
      exact e (hco.symm.trans hco')
theorem eqIn_off {P : Program} {ti : TypeId} {w : World} (F : ErF P ti tp ta) {u u' : Value} {t t' : TypeId} (hn : t ≠ t') : (Op.equalIn 10000 ti (.iface t u) (.iface t' u')).run P w = .ok false w := by
  obtain ⟨ms, hi⟩ := F.hi
  exact (show ∀ d : Nat, (Op.equalIn (d + 1) ti (.iface t u) (.iface t' u')).run P w = .ok false w from fun d => by simp [Op.equalIn, run_underlying hi, hn]) 9999
theorem eqIn_nilL {P : Program} {ti : TypeId} {w : World} (F : ErF P ti tp ta) {u : Value} {t : TypeId} : (Op.equalIn 10000 ti (.iface t u) .nilIface).run P w = .ok false w := by
  obtain ⟨ms, hi⟩ := F.hi
  exact (show ∀ d : Nat, (Op.equalIn (d + 1) ti (.iface t u) .nilIface).run P w = .ok false w from fun d => by simp [Op.equalIn, run_underlying hi]) 9999
theorem eqIn_nilR {P : Program} {ti : TypeId} {w : World} (F : ErF P ti tp ta) {u : Value} {t : TypeId} : (Op.equalIn 10000 ti .nilIface (.iface t u)).run P w = .ok false w := by
  obtain ⟨ms, hi⟩ := F.hi
  exact (show ∀ d : Nat, (Op.equalIn (d + 1) ti .nilIface (.iface t u)).run P w = .ok false w from fun d => by simp [Op.equalIn, run_underlying hi]) 9999
def Er.fit (x y : Er) : Bool := !x.isP || !y.isP
theorem Er.fitR {n : Nat} : x.fit (Er.b n) = true := by cases x <;> rfl
theorem eqIn_err {P : Program} {ti : TypeId} {w : World} (F : ErF P ti tp ta) (hA : Agr μ w) (hf : x.fit y = true) (h : ErV tp ta code μ x v) (h' : ErV tp ta code μ y v') : (Op.equalIn 10000 ti v v').run P w = .ok (decide (x = y)) w := by
  cases x with
  | b i =>
    cases y with
    | b j =>
      have := eqIn_errB F hA (show ErB tp code μ v i from h) (show ErB tp code μ v' j from h')
      simpa using this
    | pl p e =>
      obtain ⟨g, u, rfl, _⟩ := h'
      rw [decide_eq_false (by simp)]
      rcases (show ErB tp code μ v i from h) with ⟨_, rfl⟩ | ⟨_, _, a, s, c, t, rfl, _⟩
      · exact eqIn_nilR F
      · exact eqIn_off F F.ne
  | pl p e =>
    cases y with
    | b j =>
      obtain ⟨g, u, rfl, _⟩ := h
      rw [decide_eq_false (by simp)]
      rcases (show ErB tp code μ v' j from h') with ⟨_, rfl⟩ | ⟨_, _, a, s, c, t, rfl, _⟩
      · exact eqIn_nilL F
      · exact eqIn_off F F.ne.symm
    | pl p' e' => cases hf
end
section
variable {P : Program} {w : World} {ds : List Deferred} {a : Act} {n : Nat} {L : List (Nat × Value)} {dst : Option Nat} {ty t t' tp ta : TypeId} {pos : String} {aft : Array Edge} {gd : Option (Nat × Bool)} {x y : Operand} {code : ByteArray → Nat} {μ : Store} {v v' : Value} {i j : Er}
def Lits (x y : Operand) (i j : Er) : Prop := ((∃ c, x = .const c) ∨ ∃ c, y = .const c) ∧ i.fit j = true ∨ i.cmp j = true
theorem Lits.fit (h : Lits x y i j) : i.fit j = true := by
  rcases h with h | h
  · exact h.2
  · cases i <;> cases j <;> first | rfl | cases h
theorem Lits.nil (h : Lits x y (.b 0) (.b 0)) : (∃ c, x = .const c) ∨ ∃ c, y = .const c := by
  rcases h with h | h
  · exact h.1
  · cases h
theorem erv_form (h : ErV tp ta code μ i v) : (i = .b 0 ∧ v = .nilIface) ∨ ∃ t u, v = .iface t u := by
  cases i with
  | b n =>
    rcases (show ErB tp code μ v n from h) with ⟨rfl, rfl⟩ | ⟨_, _, a, s, c, t, rfl, _⟩
    · exact .inl ⟨rfl, rfl⟩
    · exact .inr ⟨_, _, rfl⟩
  | pl p e =>
    obtain ⟨g, u, rfl, _⟩ := h
    exact .inr ⟨_, _, rfl⟩
theorem eg_err {op : BinOp} (h : ErV tp ta code μ i v) (h' : ErV tp ta code μ j v') (hg : Lits x y i j) : (eqGuard op t x y v v').run P w = .ok () w := by
  rcases erv_form h with ⟨rfl, rfl⟩ | ⟨_, _, rfl⟩ <;> rcases erv_form h' with ⟨rfl, rfl⟩ | ⟨_, _, rfl⟩
  · rcases hg.nil with ⟨c, rfl⟩ | ⟨c, rfl⟩
    · cases op <;> simp [eqGuard]
    · cases op <;> simp [eqGuard]
  all_goals cases op <;> simp [eqGuard]
theorem r_eqE (F : ErF P t tp ta) (hr : Agr μ w) (h : ErV tp ta code μ i v) (h' : ErV tp ta code μ j v') (hg : Lits x y i j) (hA : FrG ds a n L) (hx : ov L x = some v) (hy : ov L y = some v') :
    (execOp a.eval ⟨dst, .binOp .eql t x y t', ty, pos, aft, gd⟩).run P w = .ok (.value (.bool (decide (i = j)))) w := by
  have hb : (binOp .eql t v v').run P w = .ok (.bool (decide (i = j))) w := by
    have he := eqIn_err F hr hg.fit h h'
    clear hx hy hg
    rcases erv_form h with ⟨_, rfl⟩ | ⟨_, _, rfl⟩ <;> rcases erv_form h' with ⟨_, rfl⟩ | ⟨_, _, rfl⟩ <;> (simp only [binOp, Op.equal, Op.maxDepth]; rw [Sem.run_bind, he]; rfl)
  simp [execOp, hA.ev hx, hA.ev hy, eg_err h h' hg, hb]
theorem r_neE (F : ErF P t tp ta) (hr : Agr μ w) (h : ErV tp ta code μ i v) (h' : ErV tp ta code μ j v') (hg : Lits x y i j) (hA : FrG ds a n L) (hx : ov L x = some v) (hy : ov L y = some v') :
    (execOp a.eval ⟨dst, .binOp .neq t x y t', ty, pos, aft, gd⟩).run P w = .ok (.value (.bool (decide (i ≠ j)))) w := by
  have hb : (binOp .neq t v v').run P w = .ok (.bool (decide (i ≠ j))) w := by
    have he := eqIn_err F hr hg.fit h h'
    clear hx hy hg
    have hd : decide (i ≠ j) = !decide (i = j) := by by_cases e : i = j <;> simp [e]
    rw [hd]
    rcases erv_form h with ⟨_, rfl⟩ | ⟨_, _, rfl⟩ <;> rcases erv_form h' with ⟨_, rfl⟩ | ⟨_, _, rfl⟩ <;> (simp only [binOp, Op.equal, Op.maxDepth]; rw [Sem.run_bind, he]; rfl)
  simp [execOp, hA.ev hx, hA.ev hy, eg_err h h' hg, hb]
theorem r_ldG {d : TypeDesc} {g : Nat} (hu : P.underlying t = some d) (hd : isAggD d = false) (hr : Agr μ w) (h : ErV tp ta code μ (.b (g + 1)) v) (hA : FrG ds a n L) :
    (execOp a.eval ⟨dst, .load t (.global g), ty, pos, aft, gd⟩).run P w = .ok (.value v) w := by
  have hx : ov L (.global g) = some (.pointer (some ⟨g, 0, none⟩)) := rfl
  simp [execOp, hA.ev hx, Instr.loadAt, Instr.sureAddr, run_loadVar_one (P := P) hu hd _ (hr.cell h.load)]
theorem r_asP {te : TypeId} (hn : tp ≠ ta) (hu : P.underlying ta = some (.pointer te)) (hz : (P.info? ta).map (·.zero) = some (some (.pointer none))) (h : ErV tp ta code μ i v) (hA : FrG ds a n L) (hx : ov L x = some v) :
    (execOp a.eval ⟨dst, .typeAssert x t ta true, ty, pos, aft, gd⟩).run P w = .ok (.value (.tuple #[aP ta v, .bool i.isP])) w := by
  have hz' : (zeroValue ta).run P w = .ok (.pointer none) w := by
    cases hq : P.info? ta with
    | none => simp [hq] at hz
    | some q =>
      have : q.zero = some (.pointer none) := by simpa [hq] using hz
      simp [zeroValue, typeInfo, hq, this]
  cases i with
  | b k =>
    rcases (show ErB tp code μ v k from h) with ⟨rfl, rfl⟩ | ⟨_, _, a, s, c, t, rfl, _⟩
    · simp [execOp, hA.ev hx, Instr.typeAssert, run_underlying hu, hz', aP, Er.isP]
    · simp [execOp, hA.ev hx, Instr.typeAssert, run_underlying hu, hz', aP, Er.isP, hn]
  | pl p e =>
    obtain ⟨g, u, rfl, _⟩ := h
    simp [execOp, hA.ev hx, Instr.typeAssert, run_underlying hu, aP, Er.isP]
theorem r_mkI {te : TypeId} (hu : P.underlying t = some (.pointer te)) (hA : FrG ds a n L) (hx : ov L x = some v) :
    (execOp a.eval ⟨dst, .makeInterface t x, ty, pos, aft, gd⟩).run P w = .ok (.value (.iface t v)) w := by
  simp [execOp, hA.ev hx, Instr.makeInterface, run_underlying hu]
theorem cells_err (h : ErV tp ta code μ i v) : v.cells = [[v]].flatten.toArray := by
  rcases erv_form h with ⟨_, rfl⟩ | ⟨_, _, rfl⟩ <;> rfl
theorem cells_err1 (h : ErV tp ta code μ i v) : v.cells = #[v] := by
  rcases erv_form h with ⟨_, rfl⟩ | ⟨_, _, rfl⟩ <;> rfl
end
end Go.Proofs.YtkfpmcplfodikaaDoor.K
namespace Go.Proofs.YtkfpmcplfodikaaDoor.T
open Go Go.Proofs Go.Proofs.YtkfpmcplfodikaaDoor.K
set_option linter.unusedVariables false
set_option linter.unusedSimpArgs false
def errTexts : List (Nat × List UInt8) := [(0, [116, 111, 111, 32, 109, 97, 110, 121, 44, 32, 111, 114, 32, 116, 111, 111, 32, 102, 101, 119]), (1, [116, 111, 111, 32, 108, 111, 110, 103]), (2, [111, 110, 101, 32, 116, 104, 105, 110, 103, 32, 116, 119, 105, 99, 101]), (3, [97, 32, 114, 111, 111, 116, 32, 116, 104, 97, 116, 32, 100, 111, 101, 115, 32, 110, 111, 116, 32, 102, 105, 116]), (4, [97, 32, 110, 117, 109, 98, 101, 114, 32, 111, 117, 116, 32, 111, 102, 32, 105, 116, 115, 32, 114, 97, 110, 103, 101]), (5, [110, 111, 32, 102, 105, 114, 115, 116, 32, 116, 114, 97, 110, 115, 97, 99, 116, 105, 111, 110, 32, 119, 104, 101, 114, 101, 32, 116, 104, 101, 114, 101, 32, 104, 97, 115, 32, 116, 111, 32, 98, 101, 32, 111, 110, 101, 44, 32, 111, 114, 32, 111, 110, 101, 32, 119, 104, 101, 114, 101, 32, 116, 104, 101, 114, 101, 32, 109, 97, 121, 32, 98, 101, 32, 110, 111, 110, 101]), (6, [97, 32, 107, 101, 121, 32, 116, 104, 97, 116, 32, 100, 111, 101, 115, 32, 110, 111, 116, 32, 102, 105, 116]), (7, [97, 110, 32, 97, 109, 111, 117, 110, 116, 32, 116, 104, 97, 116, 32, 99, 97, 110, 39, 116, 32, 98, 101]), (8, [105, 116, 32, 101, 110, 100, 115, 32, 116, 111, 111, 32, 101, 97, 114, 108, 121]), (9, [110, 111, 116, 32, 97, 115, 32, 105, 116, 32, 104, 97, 115, 32, 116, 111, 32, 98, 101]), (10, [107, 110, 111, 119, 110, 32, 97, 108, 114, 101, 97, 100, 121]), (11, [110, 111, 32, 115, 117, 99, 104, 32, 112, 97, 114, 101, 110, 116]), (12, [98, 101, 104, 105, 110, 100, 32, 119, 104, 97, 116, 32, 105, 115, 32, 110, 111, 116, 32, 118, 97, 108, 105, 100]), (13, [97, 32, 116, 105, 109, 101, 32, 116, 104, 97, 116, 32, 105, 115, 32, 116, 111, 111, 32, 101, 97, 114, 108, 121]), (14, [97, 32, 99, 111, 105, 110, 32, 116, 104, 97, 116, 32, 105, 115, 32, 110, 111, 116, 32, 116, 104, 101, 114, 101]), (15, [97, 32, 99, 111, 105, 110, 32, 116, 104, 97, 116, 32, 105, 115, 32, 116, 111, 111, 32, 121, 111, 117, 110, 103]), (16, [116, 111, 111, 32, 101, 97, 114, 108, 121, 32, 116, 111, 32, 98, 101, 32, 116, 97, 107, 101, 110]), (17, [108, 101, 115, 115, 32, 99, 111, 109, 101, 115, 32, 105, 110, 32, 116, 104, 97, 110, 32, 103, 111, 101, 115, 32, 111, 117, 116]), (18, [109, 111, 114, 101, 32, 116, 104, 97, 110, 32, 116, 104, 101, 32, 114, 101, 119, 97, 114, 100]), (19, [97, 32, 99, 111, 105, 110, 32, 116, 104, 97, 116, 32, 105, 115, 32, 115, 112, 101, 110, 116, 32, 105, 110, 32, 116, 104, 101, 32, 112, 111, 111, 108]), (20, [116, 111, 111, 32, 109, 97, 110, 121, 32, 116, 104, 97, 116, 32, 104, 97, 110, 103, 32, 116, 111, 103, 101, 116, 104, 101, 114]), (21, [116, 104, 101, 114, 101, 32, 105, 115, 32, 110, 111, 32, 114, 111, 111, 109]), (22, [116, 104, 101, 114, 101, 32, 105, 115, 32, 110, 111, 110, 101]), (23, [110, 111, 32, 115, 117, 99, 104, 32, 119, 111, 114, 100]), (24, [110, 111, 116, 32, 97, 32, 110, 117, 109, 98, 101, 114])]
def errCode (z : ByteArray) : Nat := match errTexts.find? (fun q => decide (q.2 = z.data.toList)) with | some q => q.1 + 1 | none => 0
abbrev xErrMany : Er := Er.b 1
abbrev xErrLong : Er := Er.b 2
abbrev xErrTwice : Er := Er.b 3
abbrev xErrRoot : Er := Er.b 4
abbrev xErrRange : Er := Er.b 5
abbrev xErrBase : Er := Er.b 6
abbrev xErrKey : Er := Er.b 7
abbrev xErrValue : Er := Er.b 8
abbrev xErrEnd : Er := Er.b 9
abbrev xErrShape : Er := Er.b 10
abbrev xErrKnown : Er := Er.b 11
abbrev xErrParent : Er := Er.b 12
abbrev xErrInvalid : Er := Er.b 13
abbrev xErrTime : Er := Er.b 14
abbrev xErrMissing : Er := Er.b 15
abbrev xErrYoung : Er := Er.b 16
abbrev xErrEarly : Er := Er.b 17
abbrev xErrLess : Er := Er.b 18
abbrev xErrReward : Er := Er.b 19
abbrev xErrClash : Er := Er.b 20
abbrev xErrLimit : Er := Er.b 21
abbrev xErrFull : Er := Er.b 22
abbrev xErrNone : Er := Er.b 23
abbrev xErrWord : Er := Er.b 24
abbrev xErrNumber : Er := Er.b 25
abbrev ErS (μ : Store) (v : Value) (x : Er) : Prop := ErV 119 74 errCode μ x v
structure Gl (μ : Store) : Prop where
  g0 : ∃ v, ErS μ v (Er.b 1)
  g1 : ∃ v, ErS μ v (Er.b 2)
  g2 : ∃ v, ErS μ v (Er.b 3)
  g3 : ∃ v, ErS μ v (Er.b 4)
  g4 : ∃ v, ErS μ v (Er.b 5)
  g5 : ∃ v, ErS μ v (Er.b 6)
  g6 : ∃ v, ErS μ v (Er.b 7)
  g7 : ∃ v, ErS μ v (Er.b 8)
  g8 : ∃ v, ErS μ v (Er.b 9)
  g9 : ∃ v, ErS μ v (Er.b 10)
  g10 : ∃ v, ErS μ v (Er.b 11)
  g11 : ∃ v, ErS μ v (Er.b 12)
  g12 : ∃ v, ErS μ v (Er.b 13)
  g13 : ∃ v, ErS μ v (Er.b 14)
  g14 : ∃ v, ErS μ v (Er.b 15)
  g15 : ∃ v, ErS μ v (Er.b 16)
  g16 : ∃ v, ErS μ v (Er.b 17)
  g17 : ∃ v, ErS μ v (Er.b 18)
  g18 : ∃ v, ErS μ v (Er.b 19)
  g19 : ∃ v, ErS μ v (Er.b 20)
  g20 : ∃ v, ErS μ v (Er.b 21)
  g21 : ∃ v, ErS μ v (Er.b 22)
  g22 : ∃ v, ErS μ v (Er.b 23)
  g23 : ∃ v, ErS μ v (Er.b 24)
  g24 : ∃ v, ErS μ v (Er.b 25)
theorem Gl.le {μ ν : Store} (hl : μ.le ν) (h : Gl μ) : Gl ν := ⟨h.g0.imp fun _ h => ErV.le (fun _ _ h => h) hl h, h.g1.imp fun _ h => ErV.le (fun _ _ h => h) hl h, h.g2.imp fun _ h => ErV.le (fun _ _ h => h) hl h, h.g3.imp fun _ h => ErV.le (fun _ _ h => h) hl h, h.g4.imp fun _ h => ErV.le (fun _ _ h => h) hl h, h.g5.imp fun _ h => ErV.le (fun _ _ h => h) hl h, h.g6.imp fun _ h => ErV.le (fun _ _ h => h) hl h, h.g7.imp fun _ h => ErV.le (fun _ _ h => h) hl h, h.g8.imp fun _ h => ErV.le (fun _ _ h => h) hl h, h.g9.imp fun _ h => ErV.le (fun _ _ h => h) hl h, h.g10.imp fun _ h => ErV.le (fun _ _ h => h) hl h, h.g11.imp fun _ h => ErV.le (fun _ _ h => h) hl h, h.g12.imp fun _ h => ErV.le (fun _ _ h => h) hl h, h.g13.imp fun _ h => ErV.le (fun _ _ h => h) hl h, h.g14.imp fun _ h => ErV.le (fun _ _ h => h) hl h, h.g15.imp fun _ h => ErV.le (fun _ _ h => h) hl h, h.g16.imp fun _ h => ErV.le (fun _ _ h => h) hl h, h.g17.imp fun _ h => ErV.le (fun _ _ h => h) hl h, h.g18.imp fun _ h => ErV.le (fun _ _ h => h) hl h, h.g19.imp fun _ h => ErV.le (fun _ _ h => h) hl h, h.g20.imp fun _ h => ErV.le (fun _ _ h => h) hl h, h.g21.imp fun _ h => ErV.le (fun _ _ h => h) hl h, h.g22.imp fun _ h => ErV.le (fun _ _ h => h) hl h, h.g23.imp fun _ h => ErV.le (fun _ _ h => h) hl h, h.g24.imp fun _ h => ErV.le (fun _ _ h => h) hl h⟩
abbrev RErr (μ : Store) (x : Er) (c : List Value) : Prop := RErV 119 74 errCode μ x c
structure digestWriter where
  s : List Int
  rest : List Int
  n : Int
deriving Inhabited, DecidableEq
def digestWriterC (x : digestWriter) (v0 : Value) : List (List Value) := [av .u32 8 x.s, [v0], [.int .i64 x.n]]
def digestWriterW (μ : Store) (x : digestWriter) (v0 : Value) : Prop := Arr .u32 8 x.s ∧ Slc (RI .u8) 1 μ v0 x.rest ∧ InR .i64 x.n
def RdigestWriter (μ : Store) (x : digestWriter) (c : List Value) : Prop := ∃ v0 : Value, c = (digestWriterC x v0).flatten ∧ digestWriterW μ x v0
theorem digestWriterW.le {μ ν : Store} (hl : μ.le ν) {x : digestWriter} {v0 : Value} (h : digestWriterW μ x v0) : digestWriterW ν x v0 := let ⟨h0, h1, h2⟩ := h; ⟨h0, h1.le (fun _ _ h => h) hl, h2⟩
theorem RdigestWriter.ones {μ : Store} : ∀ x c, RdigestWriter μ x c → ∀ u ∈ c, u.oneCell' = true := by
  rintro x c ⟨v0, rfl, hw⟩ u hu
  simp only [digestWriterC, List.flatten_cons, List.flatten_nil, List.append_nil, List.mem_append, List.mem_singleton, List.mem_cons, List.not_mem_nil, or_false] at hu
  obtain ⟨_, hs0⟩ := Slc.sv (hw.2.1)
  rcases hu with hu | hu | hu <;> first | exact one_av _ _ _ _ hu | (subst hu; rfl) | (subst hu; exact one_sl hs0)
theorem RdigestWriter.le {μ ν : Store} (hl : μ.le ν) {x : digestWriter} {c : List Value} (h : RdigestWriter μ x c) : RdigestWriter ν x c := let ⟨v0, h0, h1⟩ := h; ⟨v0, h0, h1.le hl⟩
structure Point where
  Tx : List Int
  N : Int
deriving Inhabited, DecidableEq
def PointC (x : Point) : List (List Value) := [av .u8 32 x.Tx, [.int .u32 x.N]]
def PointW (μ : Store) (x : Point) : Prop := Arr .u8 32 x.Tx ∧ InR .u32 x.N
def RPoint (μ : Store) (x : Point) (c : List Value) : Prop := c = (PointC x).flatten ∧ PointW μ x
theorem PointW.le {μ ν : Store} (hl : μ.le ν) {x : Point} (h : PointW μ x) : PointW ν x := let ⟨h0, h1⟩ := h; ⟨h0, h1⟩
theorem RPoint.ones {μ : Store} : ∀ x c, RPoint μ x c → ∀ u ∈ c, u.oneCell' = true := by
  rintro x c ⟨rfl, hw⟩ u hu
  simp only [PointC, List.flatten_cons, List.flatten_nil, List.append_nil, List.mem_append, List.mem_singleton, List.mem_cons, List.not_mem_nil, or_false] at hu
  rcases hu with hu | hu <;> first | exact one_av _ _ _ _ hu | (subst hu; rfl)
theorem RPoint.le {μ ν : Store} (hl : μ.le ν) {x : Point} {c : List Value} (h : RPoint μ x c) : RPoint ν x c := let ⟨h0, h1⟩ := h; ⟨h0, h1.le hl⟩
structure In where
  From : Point
  Key : List Int
  Seq : Int
deriving Inhabited, DecidableEq
def InC (x : In) (v0 : Value) : List (List Value) := [av .u8 32 x.From.Tx, [.int .u32 x.From.N], [v0], [.int .u32 x.Seq]]
def InW (μ : Store) (x : In) (v0 : Value) : Prop := Arr .u8 32 x.From.Tx ∧ InR .u32 x.From.N ∧ Slc (RI .u8) 1 μ v0 x.Key ∧ InR .u32 x.Seq
def RIn (μ : Store) (x : In) (c : List Value) : Prop := ∃ v0 : Value, c = (InC x v0).flatten ∧ InW μ x v0
theorem InW.le {μ ν : Store} (hl : μ.le ν) {x : In} {v0 : Value} (h : InW μ x v0) : InW ν x v0 := let ⟨h0, h1, h2, h3⟩ := h; ⟨h0, h1, h2.le (fun _ _ h => h) hl, h3⟩
theorem RIn.ones {μ : Store} : ∀ x c, RIn μ x c → ∀ u ∈ c, u.oneCell' = true := by
  rintro x c ⟨v0, rfl, hw⟩ u hu
  simp only [InC, List.flatten_cons, List.flatten_nil, List.append_nil, List.mem_append, List.mem_singleton, List.mem_cons, List.not_mem_nil, or_false] at hu
  obtain ⟨_, hs0⟩ := Slc.sv (hw.2.2.1)
  rcases hu with hu | hu | hu | hu <;> first | exact one_av _ _ _ _ hu | (subst hu; rfl) | (subst hu; exact one_sl hs0)
theorem RIn.le {μ ν : Store} (hl : μ.le ν) {x : In} {c : List Value} (h : RIn μ x c) : RIn ν x c := let ⟨v0, h0, h1⟩ := h; ⟨v0, h0, h1.le hl⟩
structure Out where
  Value : Int
  Lock : List Int
deriving Inhabited, DecidableEq
def OutC (x : Out) : List (List Value) := [[.int .u64 x.Value], av .u8 32 x.Lock]
def OutW (μ : Store) (x : Out) : Prop := InR .u64 x.Value ∧ Arr .u8 32 x.Lock
def ROut (μ : Store) (x : Out) (c : List Value) : Prop := c = (OutC x).flatten ∧ OutW μ x
theorem OutW.le {μ ν : Store} (hl : μ.le ν) {x : Out} (h : OutW μ x) : OutW ν x := let ⟨h0, h1⟩ := h; ⟨h0, h1⟩
theorem ROut.ones {μ : Store} : ∀ x c, ROut μ x c → ∀ u ∈ c, u.oneCell' = true := by
  rintro x c ⟨rfl, hw⟩ u hu
  simp only [OutC, List.flatten_cons, List.flatten_nil, List.append_nil, List.mem_append, List.mem_singleton, List.mem_cons, List.not_mem_nil, or_false] at hu
  rcases hu with hu | hu <;> first | exact one_av _ _ _ _ hu | (subst hu; rfl)
theorem ROut.le {μ ν : Store} (hl : μ.le ν) {x : Out} {c : List Value} (h : ROut μ x c) : ROut ν x c := let ⟨h0, h1⟩ := h; ⟨h0, h1.le hl⟩
structure Tx where
  Version : Int
  Ins : List In
  Outs : List Out
  Time : Int
deriving Inhabited, DecidableEq
def TxC (x : Tx) (v0 : Value) (v1 : Value) : List (List Value) := [[.int .u32 x.Version], [v0], [v1], [.int .u32 x.Time]]
def TxW (μ : Store) (x : Tx) (v0 : Value) (v1 : Value) : Prop := InR .u32 x.Version ∧ Slc (RIn μ) 35 μ v0 x.Ins ∧ Slc (ROut μ) 33 μ v1 x.Outs ∧ InR .u32 x.Time
def RTx (μ : Store) (x : Tx) (c : List Value) : Prop := ∃ v0 v1 : Value, c = (TxC x v0 v1).flatten ∧ TxW μ x v0 v1
theorem TxW.le {μ ν : Store} (hl : μ.le ν) {x : Tx} {v0 : Value} {v1 : Value} (h : TxW μ x v0 v1) : TxW ν x v0 v1 := let ⟨h0, h1, h2, h3⟩ := h; ⟨h0, h1.le (fun _ _ h => RIn.le hl h) hl, h2.le (fun _ _ h => ROut.le hl h) hl, h3⟩
theorem RTx.ones {μ : Store} : ∀ x c, RTx μ x c → ∀ u ∈ c, u.oneCell' = true := by
  rintro x c ⟨v0, v1, rfl, hw⟩ u hu
  simp only [TxC, List.flatten_cons, List.flatten_nil, List.append_nil, List.mem_append, List.mem_singleton, List.mem_cons, List.not_mem_nil, or_false] at hu
  obtain ⟨_, hs0⟩ := Slc.sv (hw.2.1)
  obtain ⟨_, hs1⟩ := Slc.sv (hw.2.2.1)
  rcases hu with hu | hu | hu | hu <;> first | exact one_av _ _ _ _ hu | (subst hu; rfl) | (subst hu; exact one_sl hs0) | (subst hu; exact one_sl hs1)
theorem RTx.le {μ ν : Store} (hl : μ.le ν) {x : Tx} {c : List Value} (h : RTx μ x c) : RTx ν x c := let ⟨v0, v1, h0, h1⟩ := h; ⟨v0, v1, h0, h1.le hl⟩
structure Head where
  Version : Int
  Prev : List Int
  Root : List Int
  Time : Int
  Work : Int
  Nonce : Int
deriving Inhabited, DecidableEq
def HeadC (x : Head) : List (List Value) := [[.int .u32 x.Version], av .u8 32 x.Prev, av .u8 32 x.Root, [.int .u32 x.Time], [.int .u32 x.Work], [.int .u32 x.Nonce]]
def HeadW (μ : Store) (x : Head) : Prop := InR .u32 x.Version ∧ Arr .u8 32 x.Prev ∧ Arr .u8 32 x.Root ∧ InR .u32 x.Time ∧ InR .u32 x.Work ∧ InR .u32 x.Nonce
def RHead (μ : Store) (x : Head) (c : List Value) : Prop := c = (HeadC x).flatten ∧ HeadW μ x
theorem HeadW.le {μ ν : Store} (hl : μ.le ν) {x : Head} (h : HeadW μ x) : HeadW ν x := let ⟨h0, h1, h2, h3, h4, h5⟩ := h; ⟨h0, h1, h2, h3, h4, h5⟩
theorem RHead.ones {μ : Store} : ∀ x c, RHead μ x c → ∀ u ∈ c, u.oneCell' = true := by
  rintro x c ⟨rfl, hw⟩ u hu
  simp only [HeadC, List.flatten_cons, List.flatten_nil, List.append_nil, List.mem_append, List.mem_singleton, List.mem_cons, List.not_mem_nil, or_false] at hu
  rcases hu with hu | hu | hu | hu | hu | hu <;> first | exact one_av _ _ _ _ hu | (subst hu; rfl)
theorem RHead.le {μ ν : Store} (hl : μ.le ν) {x : Head} {c : List Value} (h : RHead μ x c) : RHead ν x c := let ⟨h0, h1⟩ := h; ⟨h0, h1.le hl⟩
structure Block where
  Head : Head
  Txs : List Tx
deriving Inhabited, DecidableEq
def BlockC (x : Block) (v0 : Value) : List (List Value) := [[.int .u32 x.Head.Version], av .u8 32 x.Head.Prev, av .u8 32 x.Head.Root, [.int .u32 x.Head.Time], [.int .u32 x.Head.Work], [.int .u32 x.Head.Nonce], [v0]]
def BlockW (μ : Store) (x : Block) (v0 : Value) : Prop := InR .u32 x.Head.Version ∧ Arr .u8 32 x.Head.Prev ∧ Arr .u8 32 x.Head.Root ∧ InR .u32 x.Head.Time ∧ InR .u32 x.Head.Work ∧ InR .u32 x.Head.Nonce ∧ Slc (RTx μ) 4 μ v0 x.Txs
def RBlock (μ : Store) (x : Block) (c : List Value) : Prop := ∃ v0 : Value, c = (BlockC x v0).flatten ∧ BlockW μ x v0
theorem BlockW.le {μ ν : Store} (hl : μ.le ν) {x : Block} {v0 : Value} (h : BlockW μ x v0) : BlockW ν x v0 := let ⟨h0, h1, h2, h3, h4, h5, h6⟩ := h; ⟨h0, h1, h2, h3, h4, h5, h6.le (fun _ _ h => RTx.le hl h) hl⟩
theorem RBlock.ones {μ : Store} : ∀ x c, RBlock μ x c → ∀ u ∈ c, u.oneCell' = true := by
  rintro x c ⟨v0, rfl, hw⟩ u hu
  simp only [BlockC, List.flatten_cons, List.flatten_nil, List.append_nil, List.mem_append, List.mem_singleton, List.mem_cons, List.not_mem_nil, or_false] at hu
  obtain ⟨_, hs0⟩ := Slc.sv (hw.2.2.2.2.2.2)
  rcases hu with hu | hu | hu | hu | hu | hu | hu <;> first | exact one_av _ _ _ _ hu | (subst hu; rfl) | (subst hu; exact one_sl hs0)
theorem RBlock.le {μ ν : Store} (hl : μ.le ν) {x : Block} {c : List Value} (h : RBlock μ x c) : RBlock ν x c := let ⟨v0, h0, h1⟩ := h; ⟨v0, h0, h1.le hl⟩
structure ApiAt where
  Pos : Int
  Err : Er
deriving Inhabited, DecidableEq
def ApiAtC (x : ApiAt) (v0 : Value) : List (List Value) := [[.int .i64 x.Pos], [v0]]
def ApiAtW (μ : Store) (x : ApiAt) (v0 : Value) : Prop := InR .i64 x.Pos ∧ ErS μ v0 x.Err
def RApiAt (μ : Store) (x : ApiAt) (c : List Value) : Prop := ∃ v0 : Value, c = (ApiAtC x v0).flatten ∧ ApiAtW μ x v0
theorem ApiAtW.le {μ ν : Store} (hl : μ.le ν) {x : ApiAt} {v0 : Value} (h : ApiAtW μ x v0) : ApiAtW ν x v0 := let ⟨h0, h1⟩ := h; ⟨h0, h1.le (fun _ _ h => h) hl⟩
theorem RApiAt.ones {μ : Store} : ∀ x c, RApiAt μ x c → ∀ u ∈ c, u.oneCell' = true := by
  rintro x c ⟨v0, rfl, hw⟩ u hu
  simp only [ApiAtC, List.flatten_cons, List.flatten_nil, List.append_nil, List.mem_append, List.mem_singleton, List.mem_cons, List.not_mem_nil, or_false] at hu
  have hs0 := ErV.one (hw.2)
  rcases hu with hu | hu <;> first | exact one_av _ _ _ _ hu | (subst hu; rfl) | (subst hu; exact hs0)
theorem RApiAt.le {μ ν : Store} (hl : μ.le ν) {x : ApiAt} {c : List Value} (h : RApiAt μ x c) : RApiAt ν x c := let ⟨v0, h0, h1⟩ := h; ⟨v0, h0, h1.le hl⟩
structure sargassorefFault where
  Code : Int
  Placed : Bool
  Pos : Int
  Outer : Bool
  At : Int
deriving Inhabited, DecidableEq
def sargassorefFaultC (x : sargassorefFault) : List (List Value) := [[.int .i64 x.Code], [.bool x.Placed], [.int .i64 x.Pos], [.bool x.Outer], [.int .i64 x.At]]
def sargassorefFaultW (μ : Store) (x : sargassorefFault) : Prop := InR .i64 x.Code ∧ InR .i64 x.Pos ∧ InR .i64 x.At
def RsargassorefFault (μ : Store) (x : sargassorefFault) (c : List Value) : Prop := c = (sargassorefFaultC x).flatten ∧ sargassorefFaultW μ x
theorem sargassorefFaultW.le {μ ν : Store} (hl : μ.le ν) {x : sargassorefFault} (h : sargassorefFaultW μ x) : sargassorefFaultW ν x := let ⟨h0, h1, h2⟩ := h; ⟨h0, h1, h2⟩
theorem RsargassorefFault.ones {μ : Store} : ∀ x c, RsargassorefFault μ x c → ∀ u ∈ c, u.oneCell' = true := by
  rintro x c ⟨rfl, hw⟩ u hu
  simp only [sargassorefFaultC, List.flatten_cons, List.flatten_nil, List.append_nil, List.mem_append, List.mem_singleton, List.mem_cons, List.not_mem_nil, or_false] at hu
  rcases hu with hu | hu | hu | hu | hu <;> first | exact one_av _ _ _ _ hu | (subst hu; rfl)
theorem RsargassorefFault.le {μ ν : Store} (hl : μ.le ν) {x : sargassorefFault} {c : List Value} (h : RsargassorefFault μ x c) : RsargassorefFault ν x c := let ⟨h0, h1⟩ := h; ⟨h0, h1.le hl⟩
abbrev kv79 (x : Point) : Value := .agg [av .u8 32 x.Tx, [.int .u32 x.N]].flatten.toArray
abbrev vv79 (x : Bool) : Value := .bool x
abbrev mw79 (l : List (Point × Bool)) : Prop := MW (fun x : Point => PointW (fun _ => none) x) (fun x : Bool => True) l
abbrev kv78 (x : List Int) : Value := .agg [av .u8 32 x].flatten.toArray
abbrev vv78 (x : Bool) : Value := .bool x
abbrev mw78 (l : List ((List Int) × Bool)) : Prop := MW (fun x : List Int => Arr .u8 32 x) (fun x : Bool => True) l
end Go.Proofs.YtkfpmcplfodikaaDoor.T
