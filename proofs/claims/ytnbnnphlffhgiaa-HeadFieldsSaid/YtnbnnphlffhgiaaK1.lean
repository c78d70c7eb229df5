/- A helper of this seat's claims. It proves no statement by itself. -/
/- Frames, endings and plain operations: one lemma an operation, for walks over any program. -/
import Derived.WalkKit
import Derived.Deep.Quiet
import Derived.KernelRfl
namespace Go.Proofs.Ytnbnnphlffhgiaa.K
open Go

/-! ### Frames -/
def lk : List (Nat × Value) → Nat → Option Value
  | [], _ => none
  | (k, v) :: l, i => match Nat.beq k i with
    | true => some v
    | false => lk l i

structure Fr (a : Act) (n : Nat) (L : List (Nat × Value)) : Prop where
  d : a.defers = []
  s : a.tmps.size = n
  g : ∀ i v, lk L i = some v → a.tmps[i]? = some v

def ov (L : List (Nat × Value)) : Operand → Option Value
  | .tmp t => lk L t
  | .const v => some v
  | .global g => some (.pointer (some ⟨g, 0, none⟩))
  | .func f => some (.func (.func f) #[] #[])

theorem Fr.ev {a : Act} {n : Nat} {L : List (Nat × Value)} (h : Fr a n L) {x : Operand} {v : Value} (hx : ov L x = some v) : a.eval x = v := by
  cases x with
  | tmp t =>
    have := h.g t v hx
    simp [Act.eval, Array.getD_eq_getD_getElem?, this]
  | const c => simpa [ov, Act.eval] using hx
  | global g => simpa [ov, Act.eval] using hx
  | func f => simpa [ov, Act.eval] using hx

theorem Fr.put {a : Act} {n : Nat} {L : List (Nat × Value)} (h : Fr a n L) {d : Nat} (hd : Nat.ble (d + 1) n = true) (v : Value) : Fr (a.put (some d) v) n ((d, v) :: L) := by
  have hdn : d < n := Nat.le_of_ble_eq_true hd
  refine ⟨h.d, by simp [Act.put, h.s], fun i u hi => ?_⟩
  simp only [lk] at hi
  simp only [Act.put, Array.getElem?_setIfInBounds]
  by_cases e : d = i
  · subst e
    have : Nat.beq d d = true := Nat.beq_refl d
    rw [this] at hi
    simp only [Option.some.injEq] at hi
    simp [h.s, hdn, hi]
  · have : Nat.beq d i = false := by
      cases hb : Nat.beq d i with
      | false => rfl
      | true => exact absurd (Nat.eq_of_beq_eq_true hb) e
    rw [this] at hi
    rw [if_neg e]
    exact h.g i u hi

/-- Of a frame's list a part is kept. -/
def subL (L : List (Nat × Value)) : List (Nat × Value) → Prop
  | [] => True
  | (i, v) :: t => lk L i = some v ∧ subL L t

theorem Fr.sub {a : Act} {n : Nat} {L L' : List (Nat × Value)} (h : Fr a n L) (hs : subL L L') : Fr a n L' := by
  refine ⟨h.d, h.s, fun i v hi => h.g i v ?_⟩
  clear h
  induction L' with
  | nil => cases hi
  | cons p t ih =>
    obtain ⟨k, u⟩ := p
    obtain ⟨h1, h2⟩ := hs
    simp only [lk] at hi
    cases hb : Nat.beq k i with
    | true =>
      rw [hb] at hi
      have := Nat.eq_of_beq_eq_true hb
      subst this
      exact h1.trans (by simpa using hi)
    | false =>
      rw [hb] at hi
      exact ih h2 hi

/-- The frame at a function's beginning. -/
def fr0 (k : Nat) : List Value → List (Nat × Value)
  | [] => []
  | v :: vs => (k, v) :: fr0 (k + 1) vs

theorem lk_fr0 (vs : List Value) : ∀ (k i : Nat) (v : Value), lk (fr0 k vs) i = some v → k ≤ i ∧ vs[i - k]? = some v := by
  induction vs with
  | nil => intro k i v h; cases h
  | cons u vs ih =>
    intro k i v h
    simp only [fr0, lk] at h
    cases hb : Nat.beq k i with
    | true =>
      rw [hb] at h
      have := Nat.eq_of_beq_eq_true hb
      subst this
      exact ⟨Nat.le_refl _, by simpa using h⟩
    | false =>
      rw [hb] at h
      obtain ⟨h1, h2⟩ := ih _ _ _ h
      refine ⟨by omega, ?_⟩
      have e : i - k = (i - (k + 1)) + 1 := by omega
      rw [e]
      simpa using h2

theorem Fr.start (args : Array Value) (n : Nat) (h : Nat.ble args.size n = true) : Fr { tmps := args ++ Array.replicate (n - args.size) undef, defers := [] } n (fr0 0 args.toList) := by
  have hn : args.size ≤ n := Nat.le_of_ble_eq_true h
  refine ⟨rfl, by simp; omega, fun i v hi => ?_⟩
  obtain ⟨_, h2⟩ := lk_fr0 _ _ _ _ hi
  simp only [Nat.sub_zero, Array.getElem?_toList] at h2
  have hlt : i < args.size := by
    rcases Nat.lt_or_ge i args.size with h' | h'
    · exact h'
    · rw [Array.getElem?_eq_none h'] at h2; cases h2
  rw [Array.getElem?_append_left hlt]
  exact h2

/-! ### Endings -/
abbrev AW := Act → World → Prop
/-- What is asked at each way out: normal, an exit of a block, a return. -/
def PQ (N : AW) (E : List (Nat × AW)) (R : AW) : Exit → AW
  | .normal => N
  | .ret => R
  | .exit i => fun a w => ∃ M, E.lookup i = some M ∧ M a w
  | _ => fun _ _ => False

section
variable {P : Program} {N R : AW} {E : List (Nat × AW)} {a : Act} {w : World}

theorem w_seq {x y : Code} (h : ∀ N' : AW, (∀ a w, y.wp P (PQ N E R) a w → N' a w) → x.wp P (PQ N' E R) a w) : (Code.seq x y).wp P (PQ N E R) a w := by
  refine wp_seq (wp_mono (h _ fun _ _ h => h) fun e a w hq => ?_)
  cases e <;> exact hq

/-- A cut: what holds between the two. -/
theorem w_cut {x y : Code} (M : AW) (h1 : x.wp P (PQ M E R) a w) (h2 : ∀ a w, M a w → y.wp P (PQ N E R) a w) : (Code.seq x y).wp P (PQ N E R) a w :=
  w_seq fun _ hN => wp_mono h1 fun e a w hq => by
    cases e
    case normal => exact hN _ _ (h2 _ _ hq)
    all_goals exact hq

theorem w_block {id : Nat} {c : Code} (h : c.wp P (PQ N ((id, N) :: E) R) a w) : (Code.block id c).wp P (PQ N E R) a w := by
  refine wp_block (wp_mono h fun e a w hq => ?_)
  cases e with
  | exit i =>
    obtain ⟨M, hM, hm⟩ := hq
    simp only [List.lookup] at hM
    simp only [Exit.inBlock]
    by_cases e : i = id
    · subst e
      simp only [beq_self_eq_true, Option.some.injEq] at hM
      subst hM
      rw [if_pos rfl]
      exact hm
    · rw [if_neg e]
      have : (i == id) = false := by simpa using e
      rw [this] at hM
      exact ⟨M, hM, hm⟩
  | _ => exact hq

theorem w_exit {i : Nat} {M : AW} (hM : E.lookup i = some M) (h : M a w) : (Code.exit i).wp P (PQ N E R) a w := wp_exit ⟨M, hM, h⟩
theorem w_skip (h : N a w) : Code.skip.wp P (PQ N E R) a w := wp_skip h
theorem w_ret (h : R a w) : Code.ret.wp P (PQ N E R) a w := wp_ret h

theorem w_cond {n : Nat} {L : List (Nat × Value)} {c : Operand} {x y : Code} {t : Bool} (hA : Fr a n L) (hc : ov L c = some (.bool t))
    (ht : t = true → x.wp P (PQ N E R) a w) (hf : t = false → y.wp P (PQ N E R) a w) : (Code.cond c x y).wp P (PQ N E R) a w :=
  wp_cond_split (hA.ev hc) ht hf

theorem w_cT {n : Nat} {L : List (Nat × Value)} {c : Operand} {x y : Code} {t : Bool} (hA : Fr a n L) (hc : ov L c = some (.bool t)) (ht : t = true) (h : x.wp P (PQ N E R) a w) : (Code.cond c x y).wp P (PQ N E R) a w := by
  subst ht; exact wp_cond_true (hA.ev hc) h
theorem w_cF {n : Nat} {L : List (Nat × Value)} {c : Operand} {x y : Code} {t : Bool} (hA : Fr a n L) (hc : ov L c = some (.bool t)) (ht : t = false) (h : y.wp P (PQ N E R) a w) : (Code.cond c x y).wp P (PQ N E R) a w := by
  subst ht; exact wp_cond_false (hA.ev hc) h
/-- A loop with a ghost count that falls. -/
theorem w_loop {c : Code} (I : Nat → AW) (k : Nat) (h0 : I k a w)
    (round : ∀ k a w, I k a w → c.wp P (PQ (fun a' w' => ∃ m, m < k ∧ I m a' w') E R) a w) : (Code.loop c).wp P (PQ N E R) a w := by
  intro b kk cs
  have key : ∀ n a w, I n a w →
      ∃ e a' w', PQ N E R e a' w' ∧ Arrives P (lone (b.at a (.code c :: .inLoop c :: kk)) cs w) b kk cs e a' w' := by
    intro n
    induction n using Nat.strongRecOn with
    | _ n ih =>
      intro a w hI
      obtain ⟨e, a₁, w₁, hq, harr⟩ := round n a w hI b (.inLoop c :: kk) cs
      cases e with
      | normal =>
        obtain ⟨m, hlt, hI₁⟩ := hq
        obtain ⟨e₂, a₂, w₂, hq₂, harr₂⟩ := ih m hlt a₁ w₁ hI₁
        exact ⟨e₂, a₂, w₂, hq₂, .of_steps (Steps.trans harr (.one step_inLoop)) harr₂⟩
      | exit id => exact ⟨.exit id, a₁, w₁, hq, .pass (x := .inLoop c) rfl (fun _ _ => .inl (by simp)) harr⟩
      | ret => exact ⟨.ret, a₁, w₁, hq, .pass (x := .inLoop c) rfl (fun _ _ => .inl (by simp)) harr⟩
      | goto l => exact hq.elim
      | panic ch => exact hq.elim
      | outgrown => exact hq.elim
  obtain ⟨e, a', w', hq, harr⟩ := key k a w h0
  exact ⟨e, a', w', hq, .of_steps (.one step_loop) harr⟩

end

/-! ### Regions, an operation at a time -/
section
variable {P : Program} {N R : AW} {E : List (Nat × AW)} {Q : Exit → AW} {ops : Array Oper} {rest : List Oper} {a : Act} {w : World} {n : Nat} {L : List (Nat × Value)}
  {d : Nat} {op : Op} {ty : TypeId} {pos : String} {aft : Array Edge} {v : Value}

theorem w_reg {id : Nat} {l : List Oper} (h : wpList P l.toArray (PQ N E R) l a w) : (Code.region id l.toArray false).wp P (PQ N E R) a w := wp_region_lit h
theorem o_nil (h : N a w) : wpList P ops (PQ N E R) [] a w := h

/-- An operation that yields a value and leaves the world. -/
theorem stp (hA : Fr a n L) (h : (execOp a.eval ⟨some d, op, ty, pos, aft, none⟩).run P w = .ok (.value v) w) (hd : Nat.ble (d + 1) n = true)
    (k : ∀ a, Fr a n ((d, v) :: L) → wpList P ops Q rest a w) : wpList P ops Q (⟨some d, op, ty, pos, aft, none⟩ :: rest) a w :=
  wpList_plain rfl fun K hK => by
    unfold Oper.wp
    rw [h]
    exact hK _ _ (k _ (hA.put hd v))

theorem unguard {dst : Option Nat} {g : Option (Nat × Bool)} (hw : Region.wanted ⟨dst, op, ty, pos, aft, g⟩ (yielded ops a.tmps) = true)
    (k : wpList P ops Q (⟨dst, op, ty, pos, aft, none⟩ :: rest) a w) : wpList P ops Q (⟨dst, op, ty, pos, aft, g⟩ :: rest) a w := by
  unfold wpList at k ⊢
  rw [if_pos hw]
  rw [if_pos (show Region.wanted ⟨dst, op, ty, pos, aft, none⟩ (yielded ops a.tmps) = true from rfl)] at k
  exact k

/-- What a guard reads. -/
def vb : Value → Option Bool
  | .bool b => some b
  | _ => none
theorem yields (hA : Fr a n L) {j t : Nat} (hj : ((ops[j]?).bind (·.dst)) = some t) (ht : lk L t = some v) :
    yielded ops a.tmps j = vb v := by
  unfold yielded
  rw [hj]
  simp only [Option.bind_some, hA.g t v ht]
  cases v <;> rfl

/-- A guard that says yes. -/
theorem o_yes (hA : Fr a n L) {dst : Option Nat} {j t : Nat} {b β : Bool} (hj : ((ops[j]?).bind (·.dst)) = some t) (ht : lk L t = some (.bool β)) (hb : β = b)
    (k : wpList P ops Q (⟨dst, op, ty, pos, aft, none⟩ :: rest) a w) : wpList P ops Q (⟨dst, op, ty, pos, aft, some (j, b)⟩ :: rest) a w :=
  unguard (by have := yields (ops := ops) hA hj ht; simp [Region.wanted, this, vb, hb]) k

/-- A guard that says no. -/
theorem o_no (hA : Fr a n L) {j t : Nat} {b : Bool} (hj : ((ops[j]?).bind (·.dst)) = some t) (ht : lk L t = some v) (hne : vb v ≠ some b)
    (hd : Nat.ble (d + 1) n = true) (k : ∀ a, Fr a n ((d, undef) :: L) → wpList P ops Q rest a w) : wpList P ops Q (⟨some d, op, ty, pos, aft, some (j, b)⟩ :: rest) a w := by
  have hy := yields (ops := ops) hA hj ht
  have hw : Region.wanted ⟨some d, op, ty, pos, aft, some (j, b)⟩ (yielded ops a.tmps) = false := by
    simp only [Region.wanted, hy]
    simpa using hne
  unfold wpList
  rw [if_neg (by rw [hw]; simp)]
  exact k _ (hA.put hd undef)
/-- .. at an operation without a place. -/
theorem o_no' (hA : Fr a n L) {j t : Nat} {b : Bool} (hj : ((ops[j]?).bind (·.dst)) = some t) (ht : lk L t = some v) (hne : vb v ≠ some b)
    (k : wpList P ops Q rest a w) : wpList P ops Q (⟨none, op, ty, pos, aft, some (j, b)⟩ :: rest) a w := by
  have hy := yields (ops := ops) hA hj ht
  have hw : Region.wanted ⟨none, op, ty, pos, aft, some (j, b)⟩ (yielded ops a.tmps) = false := by
    simp only [Region.wanted, hy]
    simpa using hne
  unfold wpList
  rw [if_neg (by rw [hw]; simp)]
  exact k

end

/-! ### What the plain operations come to -/
section
variable {P : Program} {w : World} {a : Act} {n : Nat} {L : List (Nat × Value)} {dst : Option Nat} {ty t t' : TypeId} {pos : String} {aft : Array Edge} {g : Option (Nat × Bool)} {x y c : Operand} {v u : Value} {k : IntKind} {i j : Int}

theorem r_mv (hA : Fr a n L) (hx : ov L x = some v) : (execOp a.eval ⟨dst, .move x, ty, pos, aft, g⟩).run P w = .ok (.value v) w := by
  simp [execOp, hA.ev hx]
theorem r_as (hA : Fr a n L) (hx : ov L x = some v) : (execOp a.eval ⟨dst, .assign x, ty, pos, aft, g⟩).run P w = .ok (.value v) w := by
  simp [execOp, hA.ev hx]
theorem r_pick_t {β : Bool} (hA : Fr a n L) (hc : ov L c = some (.bool β)) (hb : β = true) (hx : ov L x = some v) : (execOp a.eval ⟨dst, .pick c x y, ty, pos, aft, g⟩).run P w = .ok (.value v) w := by
  simp [execOp, hA.ev hc, hA.ev hx, asBool, hb]
theorem r_pick_f {β : Bool} (hA : Fr a n L) (hc : ov L c = some (.bool β)) (hb : β = false) (hy : ov L y = some v) : (execOp a.eval ⟨dst, .pick c x y, ty, pos, aft, g⟩).run P w = .ok (.value v) w := by
  simp [execOp, hA.ev hc, hA.ev hy, asBool, hb]
theorem r_add (hA : Fr a n L) (hx : ov L x = some (.int k i)) (hy : ov L y = some (.int k j)) : (execOp a.eval ⟨dst, .binOp .add t x y t', ty, pos, aft, g⟩).run P w = .ok (.value (.int k (k.wrap (i + j)))) w := by
  simp [execOp, hA.ev hx, hA.ev hy, binOp, eqGuard, Op.intArith]
theorem r_sub (hA : Fr a n L) (hx : ov L x = some (.int k i)) (hy : ov L y = some (.int k j)) : (execOp a.eval ⟨dst, .binOp .sub t x y t', ty, pos, aft, g⟩).run P w = .ok (.value (.int k (k.wrap (i - j)))) w := by
  simp [execOp, hA.ev hx, hA.ev hy, binOp, eqGuard, Op.intArith]
theorem r_mul (hA : Fr a n L) (hx : ov L x = some (.int k i)) (hy : ov L y = some (.int k j)) : (execOp a.eval ⟨dst, .binOp .mul t x y t', ty, pos, aft, g⟩).run P w = .ok (.value (.int k (k.wrap (i * j)))) w := by
  simp [execOp, hA.ev hx, hA.ev hy, binOp, eqGuard, Op.intArith]
theorem r_quo (hA : Fr a n L) (hx : ov L x = some (.int k i)) (hy : ov L y = some (.int k j)) (h : j ≠ 0) : (execOp a.eval ⟨dst, .binOp .quo t x y t', ty, pos, aft, g⟩).run P w = .ok (.value (.int k (k.wrap (i.tdiv j)))) w := by
  simp [execOp, hA.ev hx, hA.ev hy, binOp, eqGuard, Op.intDiv, h]
theorem r_rem (hA : Fr a n L) (hx : ov L x = some (.int k i)) (hy : ov L y = some (.int k j)) (h : j ≠ 0) : (execOp a.eval ⟨dst, .binOp .rem t x y t', ty, pos, aft, g⟩).run P w = .ok (.value (.int k (i.tmod j))) w := by
  simp [execOp, hA.ev hx, hA.ev hy, binOp, eqGuard, Op.intDiv, h]
/-- 'x & y', 'x | y', 'x ^ y'. -/
def bAnd (k : IntKind) (i j : Int) : Int := k.wrap ((BitVec.ofInt k.bits i &&& BitVec.ofInt k.bits j).toNat)
def bOr (k : IntKind) (i j : Int) : Int := k.wrap ((BitVec.ofInt k.bits i ||| BitVec.ofInt k.bits j).toNat)
def bXor (k : IntKind) (i j : Int) : Int := k.wrap ((BitVec.ofInt k.bits i ^^^ BitVec.ofInt k.bits j).toNat)
theorem r_and (hA : Fr a n L) (hx : ov L x = some (.int k i)) (hy : ov L y = some (.int k j)) : (execOp a.eval ⟨dst, .binOp .and t x y t', ty, pos, aft, g⟩).run P w = .ok (.value (.int k (bAnd k i j))) w := by
  simp [execOp, hA.ev hx, hA.ev hy, binOp, eqGuard, Op.intBits, bAnd]
theorem r_or (hA : Fr a n L) (hx : ov L x = some (.int k i)) (hy : ov L y = some (.int k j)) : (execOp a.eval ⟨dst, .binOp .or t x y t', ty, pos, aft, g⟩).run P w = .ok (.value (.int k (bOr k i j))) w := by
  simp [execOp, hA.ev hx, hA.ev hy, binOp, eqGuard, Op.intBits, bOr]
theorem r_xor (hA : Fr a n L) (hx : ov L x = some (.int k i)) (hy : ov L y = some (.int k j)) : (execOp a.eval ⟨dst, .binOp .xor t x y t', ty, pos, aft, g⟩).run P w = .ok (.value (.int k (bXor k i j))) w := by
  simp [execOp, hA.ev hx, hA.ev hy, binOp, eqGuard, Op.intBits, bXor]
/-- '^x'. -/
def bNot (k : IntKind) (i : Int) : Int := bXor k (if k.signed then -1 else k.max) i
theorem r_inv (hA : Fr a n L) (hx : ov L x = some (.int k i)) : (execOp a.eval ⟨dst, .unOp .xor t x, ty, pos, aft, g⟩).run P w = .ok (.value (.int k (bNot k i))) w := by
  simp [execOp, hA.ev hx, Op.unary, Op.intBits, bNot, bXor]
theorem r_neg (hA : Fr a n L) (hx : ov L x = some (.int k i)) : (execOp a.eval ⟨dst, .unOp .neg t x, ty, pos, aft, g⟩).run P w = .ok (.value (.int k (k.wrap (0 - i)))) w := by
  simp [execOp, hA.ev hx, Op.unary, Op.intArith]
theorem r_not {b : Bool} (hA : Fr a n L) (hx : ov L x = some (.bool b)) : (execOp a.eval ⟨dst, .unOp .not t x, ty, pos, aft, g⟩).run P w = .ok (.value (.bool (!b))) w := by
  simp [execOp, hA.ev hx, Op.unary]
/-- 'x << y', 'x >> y'. -/
def sL (k : IntKind) (i j : Int) : Int := k.wrap (i * 2 ^ min j.toNat k.bits)
def sR (k : IntKind) (i j : Int) : Int := i.fdiv (2 ^ min j.toNat k.bits)
theorem r_shl {k' : IntKind} (hA : Fr a n L) (hx : ov L x = some (.int k i)) (hy : ov L y = some (.int k' j)) (h : 0 ≤ j) : (execOp a.eval ⟨dst, .binOp .shl t x y t', ty, pos, aft, g⟩).run P w = .ok (.value (.int k (sL k i j))) w := by
  have h' : ¬ j < 0 := by omega
  simp [execOp, hA.ev hx, hA.ev hy, binOp, eqGuard, Op.shift, h', sL]
theorem r_shr {k' : IntKind} (hA : Fr a n L) (hx : ov L x = some (.int k i)) (hy : ov L y = some (.int k' j)) (h : 0 ≤ j) : (execOp a.eval ⟨dst, .binOp .shr t x y t', ty, pos, aft, g⟩).run P w = .ok (.value (.int k (sR k i j))) w := by
  have h' : ¬ j < 0 := by omega
  simp [execOp, hA.ev hx, hA.ev hy, binOp, eqGuard, Op.shift, h', sR]
theorem r_lss (hA : Fr a n L) (hx : ov L x = some (.int k i)) (hy : ov L y = some (.int k j)) : (execOp a.eval ⟨dst, .binOp .lss t x y t', ty, pos, aft, g⟩).run P w = .ok (.value (.bool (decide (i < j)))) w := by
  simp [execOp, hA.ev hx, hA.ev hy, binOp, eqGuard, Op.intCmp]
theorem r_leq (hA : Fr a n L) (hx : ov L x = some (.int k i)) (hy : ov L y = some (.int k j)) : (execOp a.eval ⟨dst, .binOp .leq t x y t', ty, pos, aft, g⟩).run P w = .ok (.value (.bool (decide (i ≤ j)))) w := by
  simp [execOp, hA.ev hx, hA.ev hy, binOp, eqGuard, Op.intCmp]
theorem r_gtr (hA : Fr a n L) (hx : ov L x = some (.int k i)) (hy : ov L y = some (.int k j)) : (execOp a.eval ⟨dst, .binOp .gtr t x y t', ty, pos, aft, g⟩).run P w = .ok (.value (.bool (decide (j < i)))) w := by
  simp [execOp, hA.ev hx, hA.ev hy, binOp, eqGuard, Op.intCmp]
theorem r_geq (hA : Fr a n L) (hx : ov L x = some (.int k i)) (hy : ov L y = some (.int k j)) : (execOp a.eval ⟨dst, .binOp .geq t x y t', ty, pos, aft, g⟩).run P w = .ok (.value (.bool (decide (j ≤ i)))) w := by
  simp [execOp, hA.ev hx, hA.ev hy, binOp, eqGuard, Op.intCmp]
theorem r_eql (hA : Fr a n L) (hx : ov L x = some (.int k i)) (hy : ov L y = some (.int k j)) : (execOp a.eval ⟨dst, .binOp .eql t x y t', ty, pos, aft, g⟩).run P w = .ok (.value (.bool (decide (i = j)))) w := by
  have e : (i == j) = decide (i = j) := by rw [Bool.eq_iff_iff]; simp
  simp [execOp, hA.ev hx, hA.ev hy, binOp, eqGuard, Op.intCmp, e]
theorem r_neq (hA : Fr a n L) (hx : ov L x = some (.int k i)) (hy : ov L y = some (.int k j)) : (execOp a.eval ⟨dst, .binOp .neq t x y t', ty, pos, aft, g⟩).run P w = .ok (.value (.bool (decide (i ≠ j)))) w := by
  have e : (i != j) = decide (i ≠ j) := by rw [Bool.eq_iff_iff]; simp
  simp [execOp, hA.ev hx, hA.ev hy, binOp, eqGuard, Op.intCmp, e]
theorem r_conv {k' : IntKind} {d0 : TypeDesc} (h0 : P.underlying t = some d0) (h1 : P.underlying t' = some (.int k')) (hA : Fr a n L) (hx : ov L x = some (.int k i)) :
    (execOp a.eval ⟨dst, .convert t t' x, ty, pos, aft, g⟩).run P w = .ok (.value (.int k' (k'.wrap i))) w := by
  simp [execOp, hA.ev hx, convert, run_underlying h0, run_underlying h1, Conv.intToInt]
theorem r_nilc {p : Addr} (hA : Fr a n L) (hx : ov L x = some (.pointer (some p))) : (execOp a.eval ⟨dst, .nilCheck x, ty, pos, aft, g⟩).run P w = .ok (.value (.pointer (some p))) w := by
  simp [execOp, hA.ev hx]
theorem r_extr {vs : List Value} {m : Nat} (hA : Fr a n L) (hx : ov L x = some (.tuple vs.toArray)) (hv : vs[m]? = some v) : (execOp a.eval ⟨dst, .extract x m, ty, pos, aft, g⟩).run P w = .ok (.value v) w := by
  simp [execOp, hA.ev hx, Instr.extract, hv]
theorem r_fld {b o m : Nat} {fs : Array Field} {f : Field} {fi : TypeInfo} (hu : P.underlying t = some (.struct fs)) (hf : fs[m]? = some f) (hi : P.info? f.type = some fi) (hz : Nat.beq fi.size 0 = false)
    (hA : Fr a n L) (hx : ov L x = some (.pointer (some ⟨b, o, none⟩))) :
    (execOp a.eval ⟨dst, .fieldAddr t x m, ty, pos, aft, g⟩).run P w = .ok (.value (.pointer (some ⟨b, o + f.offset, none⟩))) w := by
  have hz' : fi.size ≠ 0 := fun e => by rw [e] at hz; cases hz
  have e : (⟨b, o, none⟩ : Addr).add f.offset = ⟨b, o + f.offset, none⟩ := by
    unfold Addr.add
    split <;> simp_all
  simp [execOp, hA.ev hx, Instr.fieldAt, run_underlying hu, hf, Instr.sureAddr, fieldPlace, sizeOf, typeInfo, hi, hz', e]
theorem r_len {e : TypeId} {A : Option Addr} {m cp : Nat} (hu : P.underlying t = some (.slice e)) (hA : Fr a n L) (hx : ov L x = some (.slice A m cp)) :
    (execOp a.eval ⟨dst, .call { callee := .builtin .len, args := #[x], argTypes := #[t] }, ty, pos, aft, g⟩).run P w = .ok (.value (.int .i64 m)) w := by
  simp [execOp, resolve, invoke, builtin, hA.ev hx, Builtin.len_, run_underlying hu, goInt]
/-- The address of an element of a slice. -/
theorem r_ixs {e : TypeId} {ei : TypeInfo} {b o m cp : Nat} (hu : P.underlying t = some (.slice e)) (hi : P.info? e = some ei) (hA : Fr a n L) (hx : ov L x = some (.slice (some ⟨b, o, none⟩) m cp)) (hy : ov L y = some (.int k i)) (h0 : 0 ≤ i) (h1 : i < (m : Int)) :
    (execOp a.eval ⟨dst, .indexAddr t x y, ty, pos, aft, g⟩).run P w = .ok (.value (.pointer (some ⟨b, o + i.toNat * ei.size, none⟩))) w := by
  have e' : (⟨b, o, none⟩ : Addr).add (i.toNat * ei.size) = ⟨b, o + i.toNat * ei.size, none⟩ := by
    unfold Addr.add
    split <;> simp_all
  simp [execOp, hA.ev hx, hA.ev hy, Instr.indexAt, asIntOf, run_underlying hu, sizeOf, typeInfo, hi, h0, h1, e']
/-- .. of an array. -/
theorem r_ixa {e : TypeId} {ei : TypeInfo} {b o m : Nat} (hu : P.underlying t = some (.array m e)) (hi : P.info? e = some ei) (hA : Fr a n L) (hx : ov L x = some (.pointer (some ⟨b, o, none⟩))) (hy : ov L y = some (.int k i)) (h0 : 0 ≤ i) (h1 : i < (m : Int)) :
    (execOp a.eval ⟨dst, .indexAddr t x y, ty, pos, aft, g⟩).run P w = .ok (.value (.pointer (some ⟨b, o + i.toNat * ei.size, none⟩))) w := by
  have e' : (⟨b, o, none⟩ : Addr).add (i.toNat * ei.size) = ⟨b, o + i.toNat * ei.size, none⟩ := by
    unfold Addr.add
    split <;> simp_all
  simp [execOp, hA.ev hx, hA.ev hy, Instr.indexAt, asIntOf, run_underlying hu, sizeOf, typeInfo, hi, h0, h1, e', Instr.sureAddr]
end

end Go.Proofs.Ytnbnnphlffhgiaa.K
