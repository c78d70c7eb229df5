/- Proved: the statement ValueRules, as given (its conditions are those of the given row, and card where there is one; no others): the call ends, with true, and the input reads as it did. This file is one of its parts. -/
import Derived.WalkKit
import Derived.Deep.Quiet
import Derived.KernelRfl
import Derived.OrdersHeld
import Derived.Laws.StructEq
import Derived.ChangeKeysEq
import Derived.Laws.BytesString
import Derived.Laws.CopyRow
import Derived.Laws.Strings2
import Derived.Laws.Strings3
import Derived.Laws.Concat
import Derived.Laws.Externs
import Derived.Lib.Bytealg
import Derived.Maps.Keyed
import Derived.Carry
import Derived.DeepKeys4
import Derived.LaidEql
import Derived.Test.YtpeelghbhihgkaaDoorProg
namespace Go.Proofs.YtpeelghbhihgkaaDoor.K
open Go
def lk : List (Nat × Value) → Nat → Option Value
  | [], _ => none
  | (k, v) :: l, i => match Nat.beq k i with
    | true => some v
    | false => lk l i
structure Fr (a : Act) (n : Nat) (L : List (Nat × Value)) : Prop where
  d : a.defers = []
  s : a.tmps.size = n
  g : ∀ i v, lk L i = some v → a.tmps[i]? = some v
def ov (L : List (Nat × Value)) : Operand → Option Value
  | .tmp t => lk L t
  | .const v => some v
  | .global g => some (.pointer (some ⟨g, 0, none⟩))
  | .func f => some (.func (.func f) #[] #[])
theorem Fr.ev {a : Act} {n : Nat} {L : List (Nat × Value)} (h : Fr a n L) {x : Operand} {v : Value} (hx : ov L x = some v) : a.eval x = v := by
  cases x with
  | tmp t =>
    have := h.g t v hx
    simp [Act.eval, Array.getD_eq_getD_getElem?, this]
  | const c => simpa [ov, Act.eval] using hx
  | global g => simpa [ov, Act.eval] using hx
  | func f => simpa [ov, Act.eval] using hx
theorem Fr.put {a : Act} {n : Nat} {L : List (Nat × Value)} (h : Fr a n L) {d : Nat} (hd : Nat.ble (d + 1) n = true) (v : Value) : Fr (a.put (some d) v) n ((d, v) :: L) := by
  have hdn : d < n := Nat.le_of_ble_eq_true hd
  refine ⟨h.d, by simp [Act.put, h.s], fun i u hi => ?_⟩
  simp only [lk] at hi
  simp only [Act.put, Array.getElem?_setIfInBounds]
  by_cases e : d = i
  · subst e
    have : Nat.beq d d = true := Nat.beq_refl d
    rw [this] at hi
    simp only [Option.some.injEq] at hi
    simp [h.s, hdn, hi]
  · have : Nat.beq d i = false := by
      cases hb : Nat.beq d i with
      | false => rfl
      | true => exact absurd (Nat.eq_of_beq_eq_true hb) e
    rw [this] at hi
    rw [if_neg e]
    exact h.g i u hi
def subL (L : List (Nat × Value)) : List (Nat × Value) → Prop
  | [] => True
  | (i, v) :: t => lk L i = some v ∧ subL L t
theorem Fr.sub {a : Act} {n : Nat} {L L' : List (Nat × Value)} (h : Fr a n L) (hs : subL L L') : Fr a n L' := by
  refine ⟨h.d, h.s, fun i v hi => h.g i v ?_⟩
  clear h
  induction L' with
  | nil => cases hi
  | cons p t ih =>
    obtain ⟨k, u⟩ := p
    obtain ⟨h1, h2⟩ := hs
    simp only [lk] at hi
    cases hb : Nat.beq k i with
    | true =>
      rw [hb] at hi
      have := Nat.eq_of_beq_eq_true hb
      subst this
      exact h1.trans (by simpa using hi)
    | false =>
      rw [hb] at hi
      exact ih h2 hi
def fr0 (k : Nat) : List Value → List (Nat × Value)
  | [] => []
  | v :: vs => (k, v) :: fr0 (k + 1) vs
theorem lk_fr0 (vs : List Value) : ∀ (k i : Nat) (v : Value), lk (fr0 k vs) i = some v → k ≤ i ∧ vs[i - k]? = some v := by
  induction vs with
  | nil => intro k i v h; cases h
  | cons u vs ih =>
    intro k i v h
    simp only [fr0, lk] at h
    cases hb : Nat.beq k i with
    | true =>
      rw [hb] at h
      have := Nat.eq_of_beq_eq_true hb
      subst this
      exact ⟨Nat.le_refl _, by simpa using h⟩
    | false =>
      rw [hb] at h
      obtain ⟨h1, h2⟩ := ih _ _ _ h
      refine ⟨by omega, ?_⟩
      have e : i - k = (i - (k + 1)) + 1 := by omega
      rw [e]
      simpa using h2
theorem Fr.start (args : Array Value) (n : Nat) (h : Nat.ble args.size n = true) : Fr { tmps := args ++ Array.replicate (n - args.size) undef, defers := [] } n (fr0 0 args.toList) := by
  have hn : args.size ≤ n := Nat.le_of_ble_eq_true h
  refine ⟨rfl, by simp; omega, fun i v hi => ?_⟩
  obtain ⟨_, h2⟩ := lk_fr0 _ _ _ _ hi
  simp only [Nat.sub_zero, Array.getElem?_toList] at h2
  have hlt : i < args.size := by
    rcases Nat.lt_or_ge i args.size with h' | h'
    · exact h'
    · rw [Array.getElem?_eq_none h'] at h2; cases h2
  rw [Array.getElem?_append_left hlt]
  exact h2
abbrev AW := Act → World → Prop
def PQ (N : AW) (E : List (Nat × AW)) (R : AW) : Exit → AW
  | .normal => N
  | .ret => R
  | .exit i => fun a w => ∃ M, E.lookup i = some M ∧ M a w
  | _ => fun _ _ => False
section
variable {P : Program} {N R : AW} {E : List (Nat × AW)} {a : Act} {w : World}
theorem w_seq {x y : Code} (h : ∀ N' : AW, (∀ a w, y.wp P (PQ N E R) a w → N' a w) → x.wp P (PQ N' E R) a w) : (Code.seq x y).wp P (PQ N E R) a w := by
  refine wp_seq (wp_mono (h _ fun _ _ h => h) fun e a w hq => ?_)
  cases e <;> exact hq
theorem w_cut {x y : Code} (M : AW) (h1 : x.wp P (PQ M E R) a w) (h2 : ∀ a w, M a w → y.wp P (PQ N E R) a w) : (Code.seq x y).wp P (PQ N E R) a w :=
  w_seq fun _ hN => wp_mono h1 fun e a w hq => by
    cases e
    case normal => exact hN _ _ (h2 _ _ hq)
    all_goals exact hq
theorem w_block {id : Nat} {c : Code} (h : c.wp P (PQ N ((id, N) :: E) R) a w) : (Code.block id c).wp P (PQ N E R) a w := by
  refine wp_block (wp_mono h fun e a w hq => ?_)
  cases e with
  | exit i =>
    obtain ⟨M, hM, hm⟩ := hq
    simp only [List.lookup] at hM
    simp only [Exit.inBlock]
    by_cases e : i = id
    · subst e
      simp only [beq_self_eq_true, Option.some.injEq] at hM
      subst hM
      rw [if_pos rfl]
      exact hm
    · rw [if_neg e]
      have : (i == id) = false := by simpa using e
      rw [this] at hM
      exact ⟨M, hM, hm⟩
  | _ => exact hq
theorem w_exit {i : Nat} {M : AW} (hM : E.lookup i = some M) (h : M a w) : (Code.exit i).wp P (PQ N E R) a w := wp_exit ⟨M, hM, h⟩
theorem w_skip (h : N a w) : Code.skip.wp P (PQ N E R) a w := wp_skip h
theorem w_ret (h : R a w) : Code.ret.wp P (PQ N E R) a w := wp_ret h
theorem w_cond {n : Nat} {L : List (Nat × Value)} {c : Operand} {x y : Code} {t : Bool} (hA : Fr a n L) (hc : ov L c = some (.bool t))
    (ht : t = true → x.wp P (PQ N E R) a w) (hf : t = false → y.wp P (PQ N E R) a w) : (Code.cond c x y).wp P (PQ N E R) a w :=
  wp_cond_split (hA.ev hc) ht hf
theorem w_loop {c : Code} (I : Nat → AW) (k : Nat) (h0 : I k a w)
    (round : ∀ k a w, I k a w → c.wp P (PQ (fun a' w' => ∃ m, m < k ∧ I m a' w') E R) a w) : (Code.loop c).wp P (PQ N E R) a w := by
  intro b kk cs
  have key : ∀ n a w, I n a w →
      ∃ e a' w', PQ N E R e a' w' ∧ Arrives P (lone (b.at a (.code c :: .inLoop c :: kk)) cs w) b kk cs e a' w' := by
    intro n
    induction n using Nat.strongRecOn with
    | _ n ih =>
      intro a w hI
      obtain ⟨e, a₁, w₁, hq, harr⟩ := round n a w hI b (.inLoop c :: kk) cs
      cases e with
      | normal =>
        obtain ⟨m, hlt, hI₁⟩ := hq
        obtain ⟨e₂, a₂, w₂, hq₂, harr₂⟩ := ih m hlt a₁ w₁ hI₁
        exact ⟨e₂, a₂, w₂, hq₂, .of_steps (Steps.trans harr (.one step_inLoop)) harr₂⟩
      | exit id => exact ⟨.exit id, a₁, w₁, hq, .pass (x := .inLoop c) rfl (fun _ _ => .inl (by simp)) harr⟩
      | ret => exact ⟨.ret, a₁, w₁, hq, .pass (x := .inLoop c) rfl (fun _ _ => .inl (by simp)) harr⟩
      | goto l => exact hq.elim
      | panic ch => exact hq.elim
      | outgrown => exact hq.elim
  obtain ⟨e, a', w', hq, harr⟩ := key k a w h0
  exact ⟨e, a', w', hq, .of_steps (.one step_loop) harr⟩
end
section
variable {P : Program} {N R : AW} {E : List (Nat × AW)} {Q : Exit → AW} {ops : Array Oper} {rest : List Oper} {a : Act} {w : World} {n : Nat} {L : List (Nat × Value)}
  {d : Nat} {op : Op} {ty : TypeId} {pos : String} {aft : Array Edge} {v : Value}
theorem w_reg {id : Nat} {l : List Oper} (h : wpList P l.toArray (PQ N E R) l a w) : (Code.region id l.toArray false).wp P (PQ N E R) a w := wp_region_lit h
theorem o_nil (h : N a w) : wpList P ops (PQ N E R) [] a w := h
theorem stp (hA : Fr a n L) (h : (execOp a.eval ⟨some d, op, ty, pos, aft, none⟩).run P w = .ok (.value v) w) (hd : Nat.ble (d + 1) n = true)
    (k : ∀ a, Fr a n ((d, v) :: L) → wpList P ops Q rest a w) : wpList P ops Q (⟨some d, op, ty, pos, aft, none⟩ :: rest) a w :=
  wpList_plain rfl fun K hK => by
    unfold Oper.wp
    rw [h]
    exact hK _ _ (k _ (hA.put hd v))
theorem unguard {dst : Option Nat} {g : Option (Nat × Bool)} (hw : Region.wanted ⟨dst, op, ty, pos, aft, g⟩ (yielded ops a.tmps) = true)
    (k : wpList P ops Q (⟨dst, op, ty, pos, aft, none⟩ :: rest) a w) : wpList P ops Q (⟨dst, op, ty, pos, aft, g⟩ :: rest) a w := by
  unfold wpList at k ⊢
  rw [if_pos hw]
  rw [if_pos (show Region.wanted ⟨dst, op, ty, pos, aft, none⟩ (yielded ops a.tmps) = true from rfl)] at k
  exact k
def vb : Value → Option Bool
  | .bool b => some b
  | _ => none
theorem yields (hA : Fr a n L) {j t : Nat} (hj : ((ops[j]?).bind (·.dst)) = some t) (ht : lk L t = some v) :
    yielded ops a.tmps j = vb v := by
  unfold yielded
  rw [hj]
  simp only [Option.bind_some, hA.g t v ht]
  cases v <;> rfl
theorem o_yes (hA : Fr a n L) {dst : Option Nat} {j t : Nat} {b β : Bool} (hj : ((ops[j]?).bind (·.dst)) = some t) (ht : lk L t = some (.bool β)) (hb : β = b)
    (k : wpList P ops Q (⟨dst, op, ty, pos, aft, none⟩ :: rest) a w) : wpList P ops Q (⟨dst, op, ty, pos, aft, some (j, b)⟩ :: rest) a w :=
  unguard (by have := yields (ops := ops) hA hj ht; simp [Region.wanted, this, vb, hb]) k
theorem o_no (hA : Fr a n L) {j t : Nat} {b : Bool} (hj : ((ops[j]?).bind (·.dst)) = some t) (ht : lk L t = some v) (hne : vb v ≠ some b)
    (hd : Nat.ble (d + 1) n = true) (k : ∀ a, Fr a n ((d, undef) :: L) → wpList P ops Q rest a w) : wpList P ops Q (⟨some d, op, ty, pos, aft, some (j, b)⟩ :: rest) a w := by
  have hy := yields (ops := ops) hA hj ht
  have hw : Region.wanted ⟨some d, op, ty, pos, aft, some (j, b)⟩ (yielded ops a.tmps) = false := by
    simp only [Region.wanted, hy]
    simpa using hne
  unfold wpList
  rw [if_neg (by rw [hw]; simp)]
  exact k _ (hA.put hd undef)
end
section
variable {P : Program} {w : World} {a : Act} {n : Nat} {L : List (Nat × Value)} {dst : Option Nat} {ty t t' : TypeId} {pos : String} {aft : Array Edge} {g : Option (Nat × Bool)} {x y c : Operand} {v u : Value} {k : IntKind} {i j : Int}
theorem r_mv (hA : Fr a n L) (hx : ov L x = some v) : (execOp a.eval ⟨dst, .move x, ty, pos, aft, g⟩).run P w = .ok (.value v) w := by
  simp [execOp, hA.ev hx]
theorem r_as (hA : Fr a n L) (hx : ov L x = some v) : (execOp a.eval ⟨dst, .assign x, ty, pos, aft, g⟩).run P w = .ok (.value v) w := by
  simp [execOp, hA.ev hx]
theorem r_pick_t {β : Bool} (hA : Fr a n L) (hc : ov L c = some (.bool β)) (hb : β = true) (hx : ov L x = some v) : (execOp a.eval ⟨dst, .pick c x y, ty, pos, aft, g⟩).run P w = .ok (.value v) w := by
  simp [execOp, hA.ev hc, hA.ev hx, asBool, hb]
theorem r_pick_f {β : Bool} (hA : Fr a n L) (hc : ov L c = some (.bool β)) (hb : β = false) (hy : ov L y = some v) : (execOp a.eval ⟨dst, .pick c x y, ty, pos, aft, g⟩).run P w = .ok (.value v) w := by
  simp [execOp, hA.ev hc, hA.ev hy, asBool, hb]
theorem r_add (hA : Fr a n L) (hx : ov L x = some (.int k i)) (hy : ov L y = some (.int k j)) : (execOp a.eval ⟨dst, .binOp .add t x y t', ty, pos, aft, g⟩).run P w = .ok (.value (.int k (k.wrap (i + j)))) w := by
  simp [execOp, hA.ev hx, hA.ev hy, binOp, eqGuard, Op.intArith]
theorem r_sub (hA : Fr a n L) (hx : ov L x = some (.int k i)) (hy : ov L y = some (.int k j)) : (execOp a.eval ⟨dst, .binOp .sub t x y t', ty, pos, aft, g⟩).run P w = .ok (.value (.int k (k.wrap (i - j)))) w := by
  simp [execOp, hA.ev hx, hA.ev hy, binOp, eqGuard, Op.intArith]
theorem r_quo (hA : Fr a n L) (hx : ov L x = some (.int k i)) (hy : ov L y = some (.int k j)) (h : j ≠ 0) : (execOp a.eval ⟨dst, .binOp .quo t x y t', ty, pos, aft, g⟩).run P w = .ok (.value (.int k (k.wrap (i.tdiv j)))) w := by
  simp [execOp, hA.ev hx, hA.ev hy, binOp, eqGuard, Op.intDiv, h]
theorem r_rem (hA : Fr a n L) (hx : ov L x = some (.int k i)) (hy : ov L y = some (.int k j)) (h : j ≠ 0) : (execOp a.eval ⟨dst, .binOp .rem t x y t', ty, pos, aft, g⟩).run P w = .ok (.value (.int k (i.tmod j))) w := by
  simp [execOp, hA.ev hx, hA.ev hy, binOp, eqGuard, Op.intDiv, h]
theorem r_not {b : Bool} (hA : Fr a n L) (hx : ov L x = some (.bool b)) : (execOp a.eval ⟨dst, .unOp .not t x, ty, pos, aft, g⟩).run P w = .ok (.value (.bool (!b))) w := by
  simp [execOp, hA.ev hx, Op.unary]
def sR (k : IntKind) (i j : Int) : Int := i.fdiv (2 ^ min j.toNat k.bits)
theorem r_shr {k' : IntKind} (hA : Fr a n L) (hx : ov L x = some (.int k i)) (hy : ov L y = some (.int k' j)) (h : 0 ≤ j) : (execOp a.eval ⟨dst, .binOp .shr t x y t', ty, pos, aft, g⟩).run P w = .ok (.value (.int k (sR k i j))) w := by
  have h' : ¬ j < 0 := by omega
  simp [execOp, hA.ev hx, hA.ev hy, binOp, eqGuard, Op.shift, h', sR]
theorem r_lss (hA : Fr a n L) (hx : ov L x = some (.int k i)) (hy : ov L y = some (.int k j)) : (execOp a.eval ⟨dst, .binOp .lss t x y t', ty, pos, aft, g⟩).run P w = .ok (.value (.bool (decide (i < j)))) w := by
  simp [execOp, hA.ev hx, hA.ev hy, binOp, eqGuard, Op.intCmp]
theorem r_gtr (hA : Fr a n L) (hx : ov L x = some (.int k i)) (hy : ov L y = some (.int k j)) : (execOp a.eval ⟨dst, .binOp .gtr t x y t', ty, pos, aft, g⟩).run P w = .ok (.value (.bool (decide (j < i)))) w := by
  simp [execOp, hA.ev hx, hA.ev hy, binOp, eqGuard, Op.intCmp]
theorem r_geq (hA : Fr a n L) (hx : ov L x = some (.int k i)) (hy : ov L y = some (.int k j)) : (execOp a.eval ⟨dst, .binOp .geq t x y t', ty, pos, aft, g⟩).run P w = .ok (.value (.bool (decide (j ≤ i)))) w := by
  simp [execOp, hA.ev hx, hA.ev hy, binOp, eqGuard, Op.intCmp]
theorem r_eql (hA : Fr a n L) (hx : ov L x = some (.int k i)) (hy : ov L y = some (.int k j)) : (execOp a.eval ⟨dst, .binOp .eql t x y t', ty, pos, aft, g⟩).run P w = .ok (.value (.bool (decide (i = j)))) w := by
  have e : (i == j) = decide (i = j) := by rw [Bool.eq_iff_iff]; simp
  simp [execOp, hA.ev hx, hA.ev hy, binOp, eqGuard, Op.intCmp, e]
theorem r_nilc {p : Addr} (hA : Fr a n L) (hx : ov L x = some (.pointer (some p))) : (execOp a.eval ⟨dst, .nilCheck x, ty, pos, aft, g⟩).run P w = .ok (.value (.pointer (some p))) w := by
  simp [execOp, hA.ev hx]
theorem r_extr {vs : List Value} {m : Nat} (hA : Fr a n L) (hx : ov L x = some (.tuple vs.toArray)) (hv : vs[m]? = some v) : (execOp a.eval ⟨dst, .extract x m, ty, pos, aft, g⟩).run P w = .ok (.value v) w := by
  simp [execOp, hA.ev hx, Instr.extract, hv]
theorem r_fld {b o m : Nat} {fs : Array Field} {f : Field} {fi : TypeInfo} (hu : P.underlying t = some (.struct fs)) (hf : fs[m]? = some f) (hi : P.info? f.type = some fi) (hz : Nat.beq fi.size 0 = false)
    (hA : Fr a n L) (hx : ov L x = some (.pointer (some ⟨b, o, none⟩))) :
    (execOp a.eval ⟨dst, .fieldAddr t x m, ty, pos, aft, g⟩).run P w = .ok (.value (.pointer (some ⟨b, o + f.offset, none⟩))) w := by
  have hz' : fi.size ≠ 0 := fun e => by rw [e] at hz; cases hz
  have e : (⟨b, o, none⟩ : Addr).add f.offset = ⟨b, o + f.offset, none⟩ := by
    unfold Addr.add
    split <;> simp_all
  simp [execOp, hA.ev hx, Instr.fieldAt, run_underlying hu, hf, Instr.sureAddr, fieldPlace, sizeOf, typeInfo, hi, hz', e]
theorem r_len {e : TypeId} {A : Option Addr} {m cp : Nat} (hu : P.underlying t = some (.slice e)) (hA : Fr a n L) (hx : ov L x = some (.slice A m cp)) :
    (execOp a.eval ⟨dst, .call { callee := .builtin .len, args := #[x], argTypes := #[t] }, ty, pos, aft, g⟩).run P w = .ok (.value (.int .i64 m)) w := by
  simp [execOp, resolve, invoke, builtin, hA.ev hx, Builtin.len_, run_underlying hu, goInt]
theorem r_ixs {e : TypeId} {ei : TypeInfo} {b o m cp : Nat} (hu : P.underlying t = some (.slice e)) (hi : P.info? e = some ei) (hA : Fr a n L) (hx : ov L x = some (.slice (some ⟨b, o, none⟩) m cp)) (hy : ov L y = some (.int k i)) (h0 : 0 ≤ i) (h1 : i < (m : Int)) :
    (execOp a.eval ⟨dst, .indexAddr t x y, ty, pos, aft, g⟩).run P w = .ok (.value (.pointer (some ⟨b, o + i.toNat * ei.size, none⟩))) w := by
  have e' : (⟨b, o, none⟩ : Addr).add (i.toNat * ei.size) = ⟨b, o + i.toNat * ei.size, none⟩ := by
    unfold Addr.add
    split <;> simp_all
  simp [execOp, hA.ev hx, hA.ev hy, Instr.indexAt, asIntOf, run_underlying hu, sizeOf, typeInfo, hi, h0, h1, e']
theorem r_ixa {e : TypeId} {ei : TypeInfo} {b o m : Nat} (hu : P.underlying t = some (.array m e)) (hi : P.info? e = some ei) (hA : Fr a n L) (hx : ov L x = some (.pointer (some ⟨b, o, none⟩))) (hy : ov L y = some (.int k i)) (h0 : 0 ≤ i) (h1 : i < (m : Int)) :
    (execOp a.eval ⟨dst, .indexAddr t x y, ty, pos, aft, g⟩).run P w = .ok (.value (.pointer (some ⟨b, o + i.toNat * ei.size, none⟩))) w := by
  have e' : (⟨b, o, none⟩ : Addr).add (i.toNat * ei.size) = ⟨b, o + i.toNat * ei.size, none⟩ := by
    unfold Addr.add
    split <;> simp_all
  simp [execOp, hA.ev hx, hA.ev hy, Instr.indexAt, asIntOf, run_underlying hu, sizeOf, typeInfo, hi, h0, h1, e', Instr.sureAddr]
end
end Go.Proofs.YtpeelghbhihgkaaDoor.K
namespace Go.Proofs.YtpeelghbhihgkaaDoor.K
open Go
abbrev Store := Nat → Option Obj
def Store.cell (μ : Store) (g i : Nat) : Option Value := match μ g with
  | some (.cells c _ _) => c[i]?
  | _ => none
def Store.le (μ ν : Store) : Prop := ∀ k o, μ k = some o → ν k = some o
theorem Store.le.refl (μ : Store) : μ.le μ := fun _ _ h => h
theorem Store.le.trans {μ ν ρ : Store} (h : μ.le ν) (h' : ν.le ρ) : μ.le ρ := fun k o e => h' k o (h k o e)
theorem Store.le.cell {μ ν : Store} (h : μ.le ν) {g i : Nat} {v : Value} (hc : μ.cell g i = some v) : ν.cell g i = some v := by
  unfold Store.cell at hc ⊢
  cases hm : μ g with
  | none => simp [hm] at hc
  | some o => rw [h _ _ hm]; simpa [hm] using hc
def Agr (μ : Store) (w : World) : Prop := ∀ k o, μ k = some o → w.heap[k]? = some o
theorem Agr.cell {μ : Store} {w : World} (h : Agr μ w) {g i : Nat} {v : Value} (hc : μ.cell g i = some v) : w.cell? ⟨g, i, none⟩ = some v := by
  unfold Store.cell at hc
  cases hm : μ g with
  | none => simp [hm] at hc
  | some o =>
    rw [hm] at hc
    cases o <;> simp at hc
    simp [World.cell?, h _ _ hm, hc]
def At (μ : Store) (g o : Nat) (cs : List Value) : Prop := ∀ j v, cs[j]? = some v → μ.cell g (o + j) = some v
theorem At.le {μ ν : Store} (h : μ.le ν) {g o : Nat} {cs : List Value} (ha : At μ g o cs) : At ν g o cs := fun j v e => h.cell (ha j v e)
theorem At.part {μ : Store} {g o : Nat} {A B C : List Value} (h : At μ g o (A ++ (B ++ C))) : At μ g (o + A.length) B := fun j v e => by
  have hj : j < B.length := by
    rcases Nat.lt_or_ge j B.length with h' | h'
    · exact h'
    · rw [List.getElem?_eq_none h'] at e; cases e
  have := h (A.length + j) v (by rw [List.getElem?_append_right (by omega), Nat.add_sub_cancel_left, List.getElem?_append_left hj]; exact e)
  rwa [← Nat.add_assoc] at this
structure It where
  foot : List Nat
  ok : World → Prop
  loc : ∀ w w' : World, (∀ g ∈ foot, w'.heap[g]? = w.heap[g]?) → ok w → ok w'
def cel (g : Nat) (chs : List (List Value)) (T : TypeId) : It where
  foot := [g]
  ok w := w.heap[g]? = some (.cells chs.flatten.toArray T (0, 0))
  loc w w' h hk := by rw [h g (by simp)]; exact hk
def row (e : TypeId) (size : Nat) (v : Value) (n : Nat) (xs : List Value) : It where
  foot := v.ownBlock.toList
  ok w := w.ownsRow 0 e size v n xs
  loc w w' h hk := by
    refine ⟨hk.1, ?_⟩
    rcases hk.2 with hn | ⟨g, cap, cur, rfl, hb, hg, r⟩
    · exact .inl hn
    · exact .inr ⟨g, cap, cur, rfl, hb, by rw [h g (by simp [Value.ownBlock])]; exact hg, r⟩
theorem sub_foot {l l' : List It} (h : l'.Sublist l) : (l'.flatMap (·.foot)).Sublist (l.flatMap (·.foot)) := by
  induction h with
  | slnil => exact List.Sublist.refl _
  | cons i _ ih => exact ih.trans (by rw [List.flatMap_cons]; exact List.sublist_append_right ..)
  | cons_cons i _ ih => rw [List.flatMap_cons, List.flatMap_cons]; exact (List.Sublist.refl _).append ih
structure Iv (W0 : World) (md : List Nat) (μ0 μ : Store) (its : List It) (w : World) : Prop where
  os : w.os = W0.os
  tape : w.tape = W0.tape
  out : w.output = W0.output
  size : W0.heap.size ≤ w.heap.size
  frame : ∀ k, k < W0.heap.size → k ∉ md → w.heap[k]? = W0.heap[k]?
  le : μ0.le μ
  agr : Agr μ w
  fresh : ∀ k o, μ k = some o → μ0 k = some o ∨ W0.heap.size ≤ k ∨ k ∈ md
  nodup : (its.flatMap (·.foot)).Nodup
  own : ∀ i ∈ its, i.ok w ∧ ∀ g ∈ i.foot, g < w.heap.size ∧ μ g = none ∧ (W0.heap.size ≤ g ∨ g ∈ md)
theorem Iv.start {μ : Store} {w : World} (h : Agr μ w) : Iv w [] μ μ [] w :=
  ⟨rfl, rfl, rfl, Nat.le_refl _, fun _ _ _ => rfl, Store.le.refl _, h, fun _ _ h => .inl h, by simp, by simp⟩
theorem Iv.start1 {μ : Store} {w : World} (h : Agr μ w) {i : It} (ho : i.ok w) (hn : i.foot.Nodup) (hg : ∀ g ∈ i.foot, g < w.heap.size ∧ μ g = none) : Iv w i.foot μ μ [i] w :=
  ⟨rfl, rfl, rfl, Nat.le_refl _, fun _ _ _ => rfl, Store.le.refl _, h, fun _ _ h => .inl h, by simpa using hn, fun j hj => by
    have : j = i := by simpa using hj
    subst this
    exact ⟨ho, fun g h => ⟨(hg g h).1, (hg g h).2, .inr h⟩⟩⟩
section
variable {W0 : World} {md : List Nat} {μ0 μ μ' : Store} {its its' : List It} {w w' : World}
theorem Iv.below (h : Iv W0 [] μ0 μ its w) : RowKit.Below W0.heap.size W0 w := ⟨h.os, h.tape, h.out, h.size, fun k hk => h.frame k hk (by simp)⟩
theorem Iv.drew1 (h : Iv W0 md μ0 μ its w) : Iv W0 md μ0 μ its { w with drawn := w.drawn + 1 } := by
  refine ⟨h.os, h.tape, h.out, h.size, h.frame, h.le, h.agr, h.fresh, h.nodup, fun i hi => ?_⟩
  obtain ⟨h1, h2⟩ := h.own i hi
  exact ⟨i.loc w _ (fun g _ => rfl) h1, h2⟩
theorem Iv.forget (h : Iv W0 md μ0 μ' its' w) (h0 : μ0.le μ) (h1 : μ.le μ') : Iv W0 md μ0 μ [] w :=
  ⟨h.os, h.tape, h.out, h.size, h.frame, h0, fun k o e => h.agr k o (h1 k o e), fun k o e => h.fresh k o (h1 k o e), by simp, by simp⟩
theorem Iv.forget0 (h : Iv W0 md μ0 μ' its' w) : Iv W0 md μ0 μ0 [] w := h.forget (Store.le.refl _) h.le
theorem Iv.drop (h : Iv W0 md μ0 μ its w) (hs : its'.Sublist its) : Iv W0 md μ0 μ its' w :=
  ⟨h.os, h.tape, h.out, h.size, h.frame, h.le, h.agr, h.fresh, h.nodup.sublist (sub_foot hs), fun i hi => h.own i (hs.subset hi)⟩
theorem Iv.alloc (h : Iv W0 md μ0 μ its w) (o : Obj) (i : It) (hf : i.foot = [w.heap.size]) (ho : i.ok (w.alloc o)) : Iv W0 md μ0 μ (i :: its) (w.alloc o) := by
  have hb : ∀ k, k < w.heap.size → (w.alloc o).heap[k]? = w.heap[k]? := fun k hk => RowKit.Below.heap_alloc w o k hk
  have hsz : (w.alloc o).heap.size = w.heap.size + 1 := by show (w.heap.push o).size = _; simp
  refine ⟨h.os, h.tape, h.out, by rw [hsz]; have := h.size; omega, fun k hk hm => (hb k (Nat.lt_of_lt_of_le hk h.size)).trans (h.frame k hk hm), h.le, fun k o' e => ?_, h.fresh, ?_, ?_⟩
  · have := h.agr k o' e
    rw [hb k (Array.getElem?_eq_some_iff.1 this).1]
    exact this
  · simp only [List.flatMap_cons, hf, List.singleton_append, List.nodup_cons]
    refine ⟨fun hm => ?_, h.nodup⟩
    obtain ⟨j, hj, hg⟩ := List.mem_flatMap.1 hm
    have := ((h.own j hj).2 _ hg).1
    omega
  · intro j hj
    rcases List.mem_cons.1 hj with rfl | hj
    · refine ⟨ho, fun g hg => ?_⟩
      rw [hf] at hg
      have : g = w.heap.size := by simpa using hg
      subst this
      refine ⟨by rw [hsz]; omega, ?_, .inl h.size⟩
      cases e : μ w.heap.size with
      | none => rfl
      | some o' =>
        have := (Array.getElem?_eq_some_iff.1 (h.agr _ _ e)).1
        omega
    · obtain ⟨h1, h2⟩ := h.own j hj
      refine ⟨j.loc w _ (fun g hg => hb g (h2 g hg).1) h1, fun g hg => ?_⟩
      obtain ⟨a, b, c⟩ := h2 g hg
      exact ⟨by rw [hsz]; omega, b, c⟩
theorem Iv.upd (h : Iv W0 md μ0 μ its w) (j : Nat) (i i' : It) (hj : its[j]? = some i) (hos : w'.os = w.os) (htape : w'.tape = w.tape) (hout : w'.output = w.output) (hsz : w.heap.size ≤ w'.heap.size)
    (hb : ∀ k, k < w.heap.size → k ∉ i.foot → w'.heap[k]? = w.heap[k]?) (hf : ∀ g ∈ i'.foot, g ∈ i.foot ∨ w.heap.size ≤ g) (hfl : ∀ g ∈ i'.foot, g < w'.heap.size) (hn : i'.foot.Nodup) (ho : i'.ok w') : Iv W0 md μ0 μ (its.set j i') w' := by
  have hi : i ∈ its := List.mem_of_getElem? hj
  have hjl : j < its.length := (List.getElem?_eq_some_iff.1 hj).1
  have hsplit : its = its.take j ++ i :: its.drop (j + 1) := by
    have := (List.getElem?_eq_some_iff.1 hj).2
    rw [← this]
    simp
  have hset : its.set j i' = its.take j ++ i' :: its.drop (j + 1) := List.set_eq_take_append_cons_drop.trans (by rw [if_pos hjl])
  obtain ⟨hiok, hifoot⟩ := h.own i hi
  have hnd := h.nodup
  rw [hsplit, List.flatMap_append, List.flatMap_cons] at hnd
  have hdis : ∀ k ∈ its.take j ++ its.drop (j + 1), ∀ g ∈ k.foot, g ∉ i.foot := by
    intro k hk g hg hgi
    rw [List.nodup_append, List.nodup_append] at hnd
    obtain ⟨_, ⟨_, _, h2⟩, h3⟩ := hnd
    rcases List.mem_append.1 hk with hk | hk
    · exact h3 g (List.mem_flatMap.2 ⟨k, hk, hg⟩) g (List.mem_append_left _ hgi) rfl
    · exact h2 g hgi g (List.mem_flatMap.2 ⟨k, hk, hg⟩) rfl
  have hmem : ∀ k ∈ its.take j ++ its.drop (j + 1), k ∈ its := by
    intro k hk
    rw [hsplit]
    rcases List.mem_append.1 hk with hk | hk
    · exact List.mem_append_left _ hk
    · exact List.mem_append_right _ (List.mem_cons_of_mem _ hk)
  refine ⟨hos.trans h.os, htape.trans h.tape, hout.trans h.out, Nat.le_trans h.size hsz, fun k hk hm => ?_, h.le, fun k o e => ?_, h.fresh, ?_, ?_⟩
  · rw [hb k (Nat.lt_of_lt_of_le hk h.size) (fun hki => ?_)]
    · exact h.frame k hk hm
    · rcases (hifoot k hki).2.2 with h' | h'
      · omega
      · exact hm h'
  · have hk := h.agr k o e
    rw [hb k (Array.getElem?_eq_some_iff.1 hk).1 (fun hki => by have := (hifoot k hki).2.1; rw [e] at this; cases this)]
    exact hk
  · rw [hset, List.flatMap_append, List.flatMap_cons]
    rw [List.nodup_append, List.nodup_append] at hnd ⊢
    obtain ⟨n1, ⟨_, n2, d2⟩, d1⟩ := hnd
    have hnew : ∀ k ∈ its.take j ++ its.drop (j + 1), ∀ g ∈ k.foot, g ∉ i'.foot := by
      intro k hk g hg hg'
      rcases hf g hg' with h' | h'
      · exact hdis k hk g hg h'
      · have := ((h.own k (hmem k hk)).2 g hg).1; omega
    refine ⟨n1, ⟨hn, n2, fun g hg g' hg' e => ?_⟩, fun g hg g' hg' e => ?_⟩
    · subst e
      obtain ⟨k, hk, hgk⟩ := List.mem_flatMap.1 hg'
      exact hnew k (List.mem_append_right _ hk) g hgk hg
    · subst e
      obtain ⟨k, hk, hgk⟩ := List.mem_flatMap.1 hg
      rcases List.mem_append.1 hg' with hg' | hg'
      · exact hnew k (List.mem_append_left _ hk) g hgk hg'
      · exact d1 g hg g (List.mem_append_right _ hg') rfl
  · intro k hk
    rw [hset] at hk
    rcases List.mem_append.1 hk with hk' | hk'
    · obtain ⟨h1, h2⟩ := h.own k (hmem k (List.mem_append_left _ hk'))
      exact ⟨k.loc w _ (fun g hg => hb g (h2 g hg).1 (hdis k (List.mem_append_left _ hk') g hg)) h1, fun g hg => ⟨Nat.lt_of_lt_of_le (h2 g hg).1 hsz, (h2 g hg).2⟩⟩
    · rcases List.mem_cons.1 hk' with rfl | hk'
      · refine ⟨ho, fun g hg => ⟨hfl g hg, ?_⟩⟩
        rcases hf g hg with h' | h'
        · exact ⟨(hifoot g h').2.1, (hifoot g h').2.2⟩
        · refine ⟨?_, .inl (Nat.le_trans h.size h')⟩
          cases e : μ g with
          | none => rfl
          | some o =>
            have := (Array.getElem?_eq_some_iff.1 (h.agr g o e)).1
            omega
      · obtain ⟨h1, h2⟩ := h.own k (hmem k (List.mem_append_right _ hk'))
        exact ⟨k.loc w _ (fun g hg => hb g (h2 g hg).1 (hdis k (List.mem_append_right _ hk') g hg)) h1, fun g hg => ⟨Nat.lt_of_lt_of_le (h2 g hg).1 hsz, (h2 g hg).2⟩⟩
theorem Iv.call (h : Iv W0 md μ0 μ its w) (h' : Iv w [] μ μ' its' w') : Iv W0 md μ0 μ' (its' ++ its) w' := by
  refine ⟨h'.os.trans h.os, h'.tape.trans h.tape, h'.out.trans h.out, Nat.le_trans h.size h'.size, fun k hk hm => (h'.frame k (Nat.lt_of_lt_of_le hk h.size) (by simp)).trans (h.frame k hk hm), h.le.trans h'.le, h'.agr, fun k o e => ?_, ?_, ?_⟩
  · rcases h'.fresh k o e with e' | e' | e'
    · exact h.fresh k o e'
    · exact .inr (.inl (Nat.le_trans h.size e'))
    · simp at e'
  · rw [List.flatMap_append, List.nodup_append]
    refine ⟨h'.nodup, h.nodup, fun g hg g' hg' e => ?_⟩
    subst e
    obtain ⟨i, hi, hgi⟩ := List.mem_flatMap.1 hg
    obtain ⟨j, hj, hgj⟩ := List.mem_flatMap.1 hg'
    have h1 := ((h'.own i hi).2 g hgi).2.2
    have h2 := ((h.own j hj).2 g hgj).1
    simp at h1
    omega
  · intro i hi
    rcases List.mem_append.1 hi with hi | hi
    · refine ⟨(h'.own i hi).1, fun g hg => ?_⟩
      obtain ⟨a, b, c⟩ := (h'.own i hi).2 g hg
      refine ⟨a, b, ?_⟩
      simp at c
      exact .inl (Nat.le_trans h.size c)
    · obtain ⟨h1, h2⟩ := h.own i hi
      refine ⟨i.loc w _ (fun g hg => h'.frame g (h2 g hg).1 (by simp)) h1, fun g hg => ?_⟩
      obtain ⟨a, b, c⟩ := h2 g hg
      refine ⟨Nat.lt_of_lt_of_le a h'.size, ?_, c⟩
      cases e : μ' g with
      | none => rfl
      | some o =>
        rcases h'.fresh g o e with e' | e' | e'
        · rw [b] at e'; cases e'
        · omega
        · simp at e'
theorem Iv.sel (h : Iv W0 md μ0 μ its w) (ix : List Nat) (hn : ix.Nodup) {its' : List It} (he : ix.filterMap (its[·]?) = its') : Iv W0 md μ0 μ its' w := by
  subst he
  have hp : ∀ (i j : Nat) (x y : It), its[i]? = some x → its[j]? = some y → i ≠ j → ∀ g ∈ x.foot, g ∉ y.foot := by
    intro i j x y hx hy hij g hg hg'
    have hw : ∀ (i j : Nat) (x y : It), i < j → its[i]? = some x → its[j]? = some y → g ∈ x.foot → g ∈ y.foot → False := by
      intro i j x y hlt hx hy hg hg'
      have hsplit : its = its.take j ++ its.drop j := by simp
      have hnd := h.nodup
      rw [hsplit, List.flatMap_append, List.nodup_append] at hnd
      refine hnd.2.2 g (List.mem_flatMap.2 ⟨x, ?_, hg⟩) g (List.mem_flatMap.2 ⟨y, ?_, hg'⟩) rfl
      · exact List.mem_of_getElem? (i := i) (by rw [List.getElem?_take, if_pos hlt]; exact hx)
      · exact List.mem_of_getElem? (i := 0) (by rw [List.getElem?_drop]; exact hy)
    rcases Nat.lt_or_gt_of_ne hij with h' | h'
    · exact hw i j x y h' hx hy hg hg'
    · exact hw j i y x h' hy hx hg' hg
  have hone : ∀ (i : Nat) (x : It), its[i]? = some x → x.foot.Nodup := by
    intro i x hx
    have hnd := h.nodup
    have hsplit : its = its.take i ++ x :: its.drop (i + 1) := by
      have := (List.getElem?_eq_some_iff.1 hx).2
      rw [← this]
      simp
    rw [hsplit, List.flatMap_append, List.flatMap_cons, List.nodup_append, List.nodup_append] at hnd
    exact hnd.2.1.1
  refine ⟨h.os, h.tape, h.out, h.size, h.frame, h.le, h.agr, h.fresh, ?_, fun i hi => ?_⟩
  · induction ix with
    | nil => simp
    | cons i ix ih =>
      rw [List.nodup_cons] at hn
      rw [List.filterMap_cons]
      cases hx : its[i]? with
      | none => exact ih hn.2
      | some x =>
        simp only [List.flatMap_cons, List.nodup_append]
        refine ⟨hone i x hx, ih hn.2, fun g hg g' hg' e => ?_⟩
        subst e
        obtain ⟨y, hy, hgy⟩ := List.mem_flatMap.1 hg'
        obtain ⟨j, hj, hjy⟩ := List.mem_filterMap.1 hy
        exact hp i j x y hx hjy (fun e => hn.1 (e ▸ hj)) g hg hgy
  · obtain ⟨j, _, hj⟩ := List.mem_filterMap.1 hi
    exact h.own i (List.mem_of_getElem? hj)
end
end Go.Proofs.YtpeelghbhihgkaaDoor.K
namespace Go.Proofs.YtpeelghbhihgkaaDoor.K
open Go
inductive Els {α : Type} (RE : α → List Value → Prop) (sz : Nat) : List α → List Value → Prop
  | nil : Els RE sz [] []
  | cons {x : α} {c cs : List Value} {xs : List α} : RE x c → c.length = sz → Els RE sz xs cs → Els RE sz (x :: xs) (c ++ cs)
section
variable {α : Type} {RE RE' : α → List Value → Prop} {sz : Nat} {xs ys : List α} {cs ds : List Value}
theorem Els.len (h : Els RE sz xs cs) : cs.length = xs.length * sz := by
  induction h with
  | nil => simp
  | cons _ h2 _ ih => simp [h2, ih, Nat.add_mul, Nat.add_comm]
theorem Els.mono (h : Els RE sz xs cs) (hm : ∀ x c, RE x c → RE' x c) : Els RE' sz xs cs := by
  induction h with
  | nil => exact .nil
  | cons h1 h2 _ ih => exact .cons (hm _ _ h1) h2 ih
theorem Els.one {x : α} {c : List Value} (h1 : RE x c) (h2 : c.length = sz) : Els RE sz [x] c := by
  have := Els.cons h1 h2 (Els.nil (RE := RE) (sz := sz))
  rwa [List.append_nil] at this
theorem Els.at_ (h : Els RE sz xs cs) : ∀ {i : Nat} {x : α}, xs[i]? = some x → ∃ A c B, cs = A ++ (c ++ B) ∧ A.length = i * sz ∧ c.length = sz ∧ RE x c := by
  induction h with
  | nil => intro i x hx; simp at hx
  | @cons y c cs ys h1 h2 h3 ih =>
    intro i x hx
    cases i with
    | zero =>
      have : y = x := by simpa using hx
      subst this
      exact ⟨[], c, cs, rfl, by simp, h2, h1⟩
    | succ i =>
      obtain ⟨A, c', B, e, hA, hc, hr⟩ := ih (by simpa using hx)
      refine ⟨c ++ A, c', B, by rw [e, List.append_assoc], ?_, hc, hr⟩
      rw [List.length_append, h2, hA, Nat.add_mul, Nat.one_mul, Nat.add_comm]
theorem Els.take (h : Els RE sz xs cs) : ∀ m, Els RE sz (xs.take m) (cs.take (m * sz)) := by
  induction h with
  | nil => intro m; simp; exact .nil
  | @cons y c cs ys h1 h2 h3 ih =>
    intro m
    cases m with
    | zero => simp; exact .nil
    | succ m =>
      rw [List.take_succ_cons, Nat.succ_mul, Nat.add_comm, List.take_append, List.take_of_length_le (l := c) (by rw [h2]; exact Nat.le_add_right _ _), h2, Nat.add_sub_cancel_left]
      exact .cons h1 h2 (ih m)
theorem Els.drop (h : Els RE sz xs cs) : ∀ m, Els RE sz (xs.drop m) (cs.drop (m * sz)) := by
  induction h with
  | nil => intro m; simp; exact .nil
  | @cons y c cs ys h1 h2 h3 ih =>
    intro m
    cases m with
    | zero => simp; exact .cons h1 h2 h3
    | succ m =>
      rw [List.drop_succ_cons, Nat.succ_mul, Nat.add_comm, List.drop_append, List.drop_of_length_le (l := c) (by rw [h2]; exact Nat.le_add_right _ _), h2, Nat.add_sub_cancel_left, List.nil_append]
      exact ih m
end
def sb : Value → Nat
  | .slice (some a) _ _ => a.block
  | _ => 0
def so : Value → Nat
  | .slice (some a) _ _ => a.off
  | _ => 0
def SlV (μ : Store) (v : Value) (n : Nat) (cs : List Value) : Prop :=
  ∃ A cp, v = .slice A n cp ∧ n ≤ cp ∧ cp ≤ maxLen ∧ (n ≠ 0 → A = some ⟨sb v, so v, none⟩) ∧ (n ≠ 0 → At μ (sb v) (so v) cs)
def Slc {α : Type} (RE : α → List Value → Prop) (sz : Nat) (μ : Store) (v : Value) (xs : List α) : Prop :=
  ∃ cs, Els RE sz xs cs ∧ SlV μ v xs.length cs
theorem SlV.le {μ ν : Store} (h : μ.le ν) {v : Value} {n : Nat} {cs : List Value} (hs : SlV μ v n cs) : SlV ν v n cs := by
  obtain ⟨A, cp, h1, h2, h3, h4, h5⟩ := hs
  exact ⟨A, cp, h1, h2, h3, h4, fun hn => (h5 hn).le h⟩
def InR : IntKind → Int → Prop
  | .i8, n => -128 ≤ n ∧ n < 128
  | .i16, n => -32768 ≤ n ∧ n < 32768
  | .i32, n => -2147483648 ≤ n ∧ n < 2147483648
  | .i64, n => -9223372036854775808 ≤ n ∧ n < 9223372036854775808
  | .u8, n => 0 ≤ n ∧ n < 256
  | .u16, n => 0 ≤ n ∧ n < 65536
  | .u32, n => 0 ≤ n ∧ n < 4294967296
  | .u64, n => 0 ≤ n ∧ n < 18446744073709551616
def RI (k : IntKind) (x : Int) (c : List Value) : Prop := c = [[.int k x]].flatten ∧ InR k x
def av (k : IntKind) (m : Nat) (xs : List Int) : List Value := (List.range m).map fun i => .int k (xs.getD i 0)
theorem av_get (k : IntKind) (m : Nat) (xs : List Int) {i : Nat} (h : i < m) : (av k m xs)[i]? = some (.int k (xs.getD i 0)) := by simp [av, h]
def Arr (k : IntKind) (m : Nat) (xs : List Int) : Prop := xs.length = m ∧ ∀ x ∈ xs, InR k x
def RA (k : IntKind) (m : Nat) (xs : List Int) (c : List Value) : Prop := c = [av k m xs].flatten ∧ Arr k m xs
theorem wrap_in (k : IntKind) (x : Int) : InR k (k.wrap x) := by
  cases k <;> simp [InR, IntKind.wrap, IntKind.signed, IntKind.bits] <;> omega
theorem wrap_id {k : IntKind} {x : Int} (h : InR k x) : k.wrap x = x := by
  cases k <;> simp [InR, IntKind.wrap, IntKind.signed, IntKind.bits] at * <;> omega
theorem getD_some {α : Type} {xs : List α} {i : Int} (d : α) (h0 : 0 ≤ i) (h1 : i < (xs.length : Int)) : xs[i.toNat]? = some (xs.getD i.toNat d) := by
  have : i.toNat < xs.length := by omega
  simp [List.getD, this]
def isAggD : TypeDesc → Bool
  | .struct _ | .array _ _ => true
  | _ => false
section
variable {P : Program} {W0 : World} {md : List Nat} {μ0 μ : Store} {its : List It} {w : World} {a : Act} {n : Nat} {L : List (Nat × Value)} {dst : Option Nat} {ty t T : TypeId} {pos : String} {aft : Array Edge} {gd : Option (Nat × Bool)} {x y : Operand} {v : Value} {g o : Nat}
theorem add_eq (g o k : Nat) : (⟨g, o, none⟩ : Addr).add k = ⟨g, o + k, none⟩ := by
  unfold Addr.add
  split <;> simp_all
theorem Iv.cel_ok (hI : Iv W0 md μ0 μ its w) {j : Nat} {chs : List (List Value)} (hj : its[j]? = some (cel g chs T)) : w.heap[g]? = some (.cells chs.flatten.toArray T (0, 0)) :=
  (hI.own _ (List.mem_of_getElem? hj)).1
theorem cell_mid {A B C : List Value} (hg : w.heap[g]? = some (.cells (A ++ (B ++ C) : List Value).toArray T (0, 0))) {j : Nat} {u : Value} (hu : B[j]? = some u) : w.cell? ((⟨g, A.length, none⟩ : Addr).add j) = some u := by
  rw [add_eq]
  have hj : j < B.length := by
    rcases Nat.lt_or_ge j B.length with h' | h'
    · exact h'
    · rw [List.getElem?_eq_none h'] at hu; cases hu
  simp only [World.cell?, hg]
  simp only [Option.isSome_none, Bool.false_eq_true, if_false, List.getElem?_toArray]
  rw [List.getElem?_append_right (by omega), Nat.add_sub_cancel_left, List.getElem?_append_left hj]
  exact hu
theorem run_loadVar_agg {cs : List Value} {d : TypeDesc} (hu : P.underlying t = some d) (hd : isAggD d = true) (hs : (P.info? t).map (·.size) = some cs.length) (p : Addr)
    (h : ∀ j u, cs[j]? = some u → w.cell? (p.add j) = some u) : (loadVar t p).run P w = .ok (.agg cs.toArray) w := by
  have hl := run_loadCells_list (P := P) w p cs h
  cases hq : P.info? t with
  | none => simp [hq] at hs
  | some i =>
    have hsz : i.size = cs.length := by simpa [hq] using hs
    have hagg : (isAgg t).run P w = .ok true w := by
      unfold isAgg
      rw [Sem.run_bind, run_underlying hu w]
      cases d <;> simp_all [isAggD]
    simp [loadVar, Sem.run_bind, hagg, sizeOf, typeInfo, hq, hsz, hl]
theorem run_loadVar_one {d : TypeDesc} (hu : P.underlying t = some d) (hd : isAggD d = false) (p : Addr) (h : w.cell? p = some v) : (loadVar t p).run P w = .ok v w := by
  have hagg : (isAgg t).run P w = .ok false w := by
    unfold isAgg
    rw [Sem.run_bind, run_underlying hu w]
    cases d <;> simp_all [isAggD]
  simp [loadVar, Sem.run_bind, hagg, run_load, h]
theorem r_ldA {d : TypeDesc} {j mm : Nat} (A B C : List (List Value)) (hu : P.underlying t = some d) (hd : isAggD d = true) (hs0 : (P.info? t).map (·.size) = some mm) (hs1 : B.flatten.length = mm)
    (hI : Iv W0 md μ0 μ its w) (hj : its[j]? = some (cel g (A ++ (B ++ C)) T)) (hA : Fr a n L) (hx : ov L x = some (.pointer (some ⟨g, o, none⟩))) (ho : A.flatten.length = o) :
    (execOp a.eval ⟨dst, .load t x, ty, pos, aft, gd⟩).run P w = .ok (.value (.agg B.flatten.toArray)) w := by
  have hc : ∀ j u, B.flatten[j]? = some u → w.cell? ((⟨g, o, none⟩ : Addr).add j) = some u := fun j u hu => by
    subst ho
    have hg := hI.cel_ok hj
    rw [List.flatten_append, List.flatten_append] at hg
    exact cell_mid hg hu
  simp [execOp, hA.ev hx, Instr.loadAt, Instr.sureAddr, run_loadVar_agg (P := P) hu hd (hs0.trans (congrArg some hs1.symm)) _ hc]
theorem r_ld1 {d : TypeDesc} {j : Nat} (A C : List (List Value)) (hu : P.underlying t = some d) (hd : isAggD d = false)
    (hI : Iv W0 md μ0 μ its w) (hj : its[j]? = some (cel g (A ++ ([v] :: C)) T)) (hA : Fr a n L) (hx : ov L x = some (.pointer (some ⟨g, o, none⟩))) (ho : A.flatten.length = o) :
    (execOp a.eval ⟨dst, .load t x, ty, pos, aft, gd⟩).run P w = .ok (.value v) w := by
  have this : w.cell? ⟨g, o, none⟩ = some v := by
    subst ho
    have hg := hI.cel_ok hj
    rw [List.flatten_append, List.flatten_cons] at hg
    have := cell_mid hg (j := 0) (u := v) (by simp)
    simpa only [add_eq, Nat.add_zero] using this
  simp [execOp, hA.ev hx, Instr.loadAt, Instr.sureAddr, run_loadVar_one (P := P) hu hd _ this]
theorem r_ldE {d : TypeDesc} {j m i : Nat} {k : IntKind} {xs : List Int} (A C : List (List Value)) (hu : P.underlying t = some d) (hd : isAggD d = false)
    (hI : Iv W0 md μ0 μ its w) (hj : its[j]? = some (cel g (A ++ (av k m xs :: C)) T)) (hA : Fr a n L) (hx : ov L x = some (.pointer (some ⟨g, o, none⟩))) (ho : A.flatten.length + i = o) (hi : i < m) :
    (execOp a.eval ⟨dst, .load t x, ty, pos, aft, gd⟩).run P w = .ok (.value (.int k (xs.getD i 0))) w := by
  have this : w.cell? ⟨g, o, none⟩ = some (.int k (xs.getD i 0)) := by
    subst ho
    have hg := hI.cel_ok hj
    rw [List.flatten_append, List.flatten_cons] at hg
    have := cell_mid hg (j := i) (u := .int k (xs.getD i 0)) (av_get k m xs hi)
    simpa only [add_eq] using this
  simp [execOp, hA.ev hx, Instr.loadAt, Instr.sureAddr, run_loadVar_one (P := P) hu hd _ this]
theorem At.cellq {cs : List Value} (hm : At μ g o cs) (hr : Agr μ w) {j : Nat} {u : Value} (hu : cs[j]? = some u) : w.cell? ((⟨g, o, none⟩ : Addr).add j) = some u := by
  rw [add_eq]
  exact hr.cell (hm j u hu)
theorem r_ldm1 {d : TypeDesc} {b : Nat} (A C : List (List Value)) (hu : P.underlying t = some d) (hd : isAggD d = false)
    (hr : Agr μ w) (hm : At μ g b (A ++ ([v] :: C)).flatten) (hA : Fr a n L) (hx : ov L x = some (.pointer (some ⟨g, o, none⟩))) (ho : b + A.flatten.length = o) :
    (execOp a.eval ⟨dst, .load t x, ty, pos, aft, gd⟩).run P w = .ok (.value v) w := by
  have this : w.cell? ⟨g, o, none⟩ = some v := by
    subst ho
    rw [List.flatten_append, List.flatten_cons] at hm
    have := hm.part.cellq hr (j := 0) (u := v) (by simp)
    simpa only [add_eq, Nat.add_zero] using this
  simp [execOp, hA.ev hx, Instr.loadAt, Instr.sureAddr, run_loadVar_one (P := P) hu hd _ this]
theorem Slc.le {α : Type} {RE RE' : α → List Value → Prop} {sz : Nat} {xs : List α} {ν : Store} (h : Slc RE sz μ v xs) (hm : ∀ x c, RE x c → RE' x c) (hl : μ.le ν) : Slc RE' sz ν v xs :=
  let ⟨cs, h1, h2⟩ := h; ⟨cs, h1.mono hm, h2.le hl⟩
theorem r_ixar {m s : Nat} {e : TypeId} {k : IntKind} {i : Int} {b : Nat} (hu : P.underlying t = some (.array m e)) (hs : (P.info? e).map (·.size) = some s) (hA : Fr a n L) (hx : ov L x = some (.pointer (some ⟨b, o, none⟩))) (hy : ov L y = some (.int k i)) (h0 : 0 ≤ i) (h1 : i < (m : Int)) :
    (execOp a.eval ⟨dst, .indexAddr t x y, ty, pos, aft, gd⟩).run P w = .ok (.value (.pointer (some ⟨b, o + i.toNat * s, none⟩))) w := by
  cases hq : P.info? e with
  | none => simp [hq] at hs
  | some ei =>
    have hs' : ei.size = s := by simpa [hq] using hs
    subst hs'
    exact r_ixa hu hq hA hx hy h0 h1
theorem r_ixar1 {m : Nat} {e : TypeId} {k : IntKind} {i : Int} {b : Nat} (hu : P.underlying t = some (.array m e)) (hs : (P.info? e).map (·.size) = some 1) (hA : Fr a n L) (hx : ov L x = some (.pointer (some ⟨b, o, none⟩))) (hy : ov L y = some (.int k i)) (h0 : 0 ≤ i) (h1 : i < (m : Int)) :
    (execOp a.eval ⟨dst, .indexAddr t x y, ty, pos, aft, gd⟩).run P w = .ok (.value (.pointer (some ⟨b, o + i.toNat, none⟩))) w := by
  have := r_ixar (P := P) (w := w) (dst := dst) (ty := ty) (pos := pos) (aft := aft) (gd := gd) hu hs hA hx hy h0 h1
  rwa [Nat.mul_one] at this
theorem r_fd {b k z m : Nat} {fs : Array Field} {f : Field} (hu : P.underlying t = some (.struct fs)) (hf : fs[m]? = some f) (hz : (P.info? f.type).map (·.size) = some (z + 1)) (hA : Fr a n L) (hx : ov L x = some (.pointer (some ⟨b, o, none⟩))) (hk : o + f.offset = k) :
    (execOp a.eval ⟨dst, .fieldAddr t x m, ty, pos, aft, gd⟩).run P w = .ok (.value (.pointer (some ⟨b, k, none⟩))) w := by
  cases hq : P.info? f.type with
  | none => simp [hq] at hz
  | some ei =>
    have hs' : ei.size = z + 1 := by simpa [hq] using hz
    subst hk
    exact r_fld hu hf hq (by rw [hs']; rfl) hA hx
end
section
variable {P : Program} {Q : Exit → AW} {ops : Array Oper} {rest : List Oper} {W0 : World} {md : List Nat} {μ0 μ : Store} {its : List It} {w : World} {a : Act} {n : Nat} {L : List (Nat × Value)} {d : Nat} {dst : Option Nat} {ty t T : TypeId} {pos : String} {aft : Array Edge} {x y : Operand} {v u : Value} {g o : Nat}
theorem wpl_val {op : Op} {w' : World} (h : (execOp a.eval ⟨dst, op, ty, pos, aft, none⟩).run P w = .ok (.value v) w') (k : wpList P ops Q rest (a.put dst v) w') : wpList P ops Q (⟨dst, op, ty, pos, aft, none⟩ :: rest) a w :=
  wpList_plain rfl fun K hK => by
    unfold Oper.wp
    rw [h]
    exact hK _ _ k
theorem wpl_skip {op : Op} {w' : World} (h : (execOp a.eval ⟨dst, op, ty, pos, aft, none⟩).run P w = .ok .skip w') (k : wpList P ops Q rest (a.put dst undef) w') : wpList P ops Q (⟨dst, op, ty, pos, aft, none⟩ :: rest) a w :=
  wpList_plain rfl fun K hK => by
    unfold Oper.wp
    rw [h]
    exact hK _ _ k
theorem o_box (chs : List (List Value)) (hI : Iv W0 md μ0 μ its w) (hA : Fr a n L) (hx : ov L x = some v) (hc : v.cells = chs.flatten.toArray) (hd : Nat.ble (d + 1) n = true)
    (k : ∀ g a w, Fr a n ((d, .pointer (some ⟨g, 0, none⟩)) :: L) → Iv W0 md μ0 μ (cel g chs T :: its) w → W0.heap.size ≤ g → wpList P ops Q rest a w) : wpList P ops Q (⟨some d, .box T x, ty, pos, aft, none⟩ :: rest) a w := by
  have hr : (execOp a.eval ⟨some d, .box T x, ty, pos, aft, none⟩).run P w = .ok (.value (.pointer (some ⟨w.heap.size, 0, none⟩))) (w.alloc (.cells chs.flatten.toArray T)) := by
    simp [execOp, hA.ev hx, Instr.box, newVar, newRow, newObj, hc, Sem.run]
  exact wpl_val hr (k _ _ _ (hA.put hd _) (hI.alloc _ _ rfl (by show _ = _; rw [heap_alloc_new])) hI.size)
theorem o_new (chs : List (List Value)) (hz : ∃ z, (P.info? T).map (·.zero) = some (some z) ∧ z.cells = chs.flatten.toArray) (hI : Iv W0 md μ0 μ its w) (hA : Fr a n L) (hd : Nat.ble (d + 1) n = true)
    (k : ∀ g a w, Fr a n ((d, .pointer (some ⟨g, 0, none⟩)) :: L) → Iv W0 md μ0 μ (cel g chs T :: its) w → W0.heap.size ≤ g → wpList P ops Q rest a w) : wpList P ops Q (⟨some d, .alloc T, ty, pos, aft, none⟩ :: rest) a w := by
  obtain ⟨z, hz, hc⟩ := hz
  cases hq : P.info? T with
  | none => simp [hq] at hz
  | some ti =>
    have hz' : ti.zero = some z := by simpa [hq] using hz
    have hr : (execOp a.eval ⟨some d, .alloc T, ty, pos, aft, none⟩).run P w = .ok (.value (.pointer (some ⟨w.heap.size, 0, none⟩))) (w.alloc (.cells chs.flatten.toArray T)) := by
      simp [execOp, Instr.alloc, zeroValue, typeInfo, hq, hz', newVar, newRow, newObj, hc, Sem.run]
    exact wpl_val hr (k _ _ _ (hA.put hd _) (hI.alloc _ _ rfl (by show _ = _; rw [heap_alloc_new])) hI.size)
theorem run_storeVar_row {A B B' C : List Value} (hs : (P.info? t).map (·.size) = some B'.length) (hB : B'.length = B.length) (hv : u.cells = B'.toArray) (h1 : ∀ c ∈ B', c.oneCell' = true) (hg : w.heap[g]? = some (.cells (A ++ (B ++ C)).toArray T (0, 0))) :
    (storeVar t ⟨g, A.length, none⟩ u).run P w = .ok () (w.setRow g (A ++ (B' ++ C)).toArray) := by
  cases hq : P.info? t with
  | none => simp [hq] at hs
  | some ti =>
    have hz' : ti.size = B'.length := by simpa [hq] using hs
    have hst := run_storeCells_at P g A.length T B' 0 _ w hg (by simp; omega) h1
    have e1 : (A ++ (B ++ C)).take A.length = A := by simp
    have e2 : (A ++ (B ++ C)).drop (A.length + B'.length) = C := by rw [← List.drop_drop, List.drop_left, hB, List.drop_left]
    simp only [Nat.add_zero, e1, e2, List.append_assoc] at hst
    simp [storeVar, hv, sizeOf, typeInfo, hq, hz', hst]
theorem Iv.setRow (hI : Iv W0 md μ0 μ its w) {j : Nat} {chs chs' : List (List Value)} (hj : its[j]? = some (cel g chs T)) : Iv W0 md μ0 μ (its.set j (cel g chs' T)) (w.setRow g chs'.flatten.toArray) := by
  have hg := hI.cel_ok hj
  have hlt : g < w.heap.size := (Array.getElem?_eq_some_iff.1 hg).1
  refine hI.upd j _ (cel g chs' T) hj rfl rfl rfl (by simp) (fun k _ hk => setRow_other w g k _ (by simpa [cel] using hk)) (fun g' hg' => .inl hg') (fun g' hg' => ?_) (by simp [cel]) (setRow_heap w g _ _ T _ hg)
  have : g' = g := by simpa [cel] using hg'
  subst this
  simpa using hlt
theorem o_st {j mm : Nat} (A B B' C : List (List Value)) (hs0 : (P.info? t).map (·.size) = some mm) (hs1 : B'.flatten.length = mm) (hB : B'.flatten.length = B.flatten.length) (h1 : ∀ c ∈ B'.flatten, c.oneCell' = true)
    (hI : Iv W0 md μ0 μ its w) (hj : its[j]? = some (cel g (A ++ (B ++ C)) T)) (hA : Fr a n L) (hx : ov L x = some (.pointer (some ⟨g, o, none⟩))) (hy : ov L y = some u) (hc : u.cells = B'.flatten.toArray) (ho : A.flatten.length = o)
    (k : ∀ w, Iv W0 md μ0 μ (its.set j (cel g (A ++ (B' ++ C)) T)) w → wpList P ops Q rest a w) : wpList P ops Q (⟨none, .store t x y, ty, pos, aft, none⟩ :: rest) a w := by
  have hst : (storeVar t ⟨g, o, none⟩ u).run P w = .ok () (w.setRow g (A ++ (B' ++ C)).flatten.toArray) := by
    subst ho
    have hg := hI.cel_ok hj
    rw [List.flatten_append, List.flatten_append] at hg
    rw [List.flatten_append, List.flatten_append]
    exact run_storeVar_row (P := P) (hs0.trans (congrArg some hs1.symm)) hB hc h1 hg
  refine wpl_skip (w' := w.setRow g (A ++ (B' ++ C)).flatten.toArray) ?_ (k _ (hI.setRow hj))
  simp [execOp, hA.ev hx, hA.ev hy, Instr.storeAt, Instr.sureAddr, hst, -List.flatten_append]
def CalleeF (P : Program) (f : FuncId) : Prop := ∃ fn, P.funcs[f]? = some fn ∧ (fn.name == "runtime.NumGoroutine") = false ∧ fn.body.isNone = false
def ovs (L : List (Nat × Value)) : List Operand → Option (List Value)
  | [] => some []
  | x :: xs => match ov L x, ovs L xs with
    | some v, some vs => some (v :: vs)
    | _, _ => none
theorem Fr.evs (h : Fr a n L) : ∀ {xs : List Operand} {vs : List Value}, ovs L xs = some vs → xs.map a.eval = vs
  | [], vs, e => by simpa [ovs] using e
  | x :: xs, vs, e => by
    simp only [ovs] at e
    cases h1 : ov L x with
    | none => simp [h1] at e
    | some v =>
      cases h2 : ovs L xs with
      | none => simp [h1, h2] at e
      | some us =>
        simp [h1, h2] at e
        subst e
        simp [h.ev h1, h.evs h2]
theorem run_call {f : FuncId} {xs : List Operand} {vs : List Value} {ats : Array TypeId} {gd : Option (Nat × Bool)} (hf : CalleeF P f) (hA : Fr a n L) (hv : ovs L xs = some vs) :
    (execOp a.eval ⟨dst, .call { callee := .value (.func f), args := xs.toArray, argTypes := ats }, ty, pos, aft, gd⟩).run P w = .ok (.enter f vs.toArray) w := by
  obtain ⟨fn, h1, h2, h3⟩ := hf
  have h4 := hA.evs hv
  show (callFunc f (#[] ++ xs.toArray.map a.eval ++ #[])).run P w = _
  have h2' : fn.name ≠ "runtime.NumGoroutine" := by simpa using h2
  have h3' : fn.body ≠ none := fun e => by rw [e] at h3; cases h3
  simp [callFunc, h1, h2', h3', h4, program, Sem.run]
theorem o_call {f : FuncId} {xs : List Operand} {vs : List Value} {ats : Array TypeId} (Z : Value → World → Prop) (hf : CalleeF P f) (hA : Fr a n L) (hv : ovs L xs = some vs) (hc : Calls P f vs.toArray w fun e w' => ∃ v, e = .returned v ∧ Z v w')
    (hd : Nat.ble (d + 1) n = true) (k : ∀ v a w', Z v w' → Fr a n ((d, v) :: L) → wpList P ops Q rest a w') :
    wpList P ops Q (⟨some d, .call { callee := .value (.func f), args := xs.toArray, argTypes := ats }, ty, pos, aft, none⟩ :: rest) a w :=
  wpList_plain rfl fun K hK => by
    unfold Oper.wp
    rw [run_call hf hA hv]
    exact hc.mono fun e w' ⟨v, he, hz⟩ => by subst he; exact hK _ _ (k v _ _ hz (hA.put hd v))
theorem o_callp {f : FuncId} {xs : List Operand} {vs : List Value} {ats : Array TypeId} {Z : Prop} (hf : CalleeF P f) (hA : Fr a n L) (hv : ovs L xs = some vs) (hI : Iv W0 md μ0 μ its w) (hc : Calls P f vs.toArray w fun e w' => ∃ v, e = .returned v ∧ v = u ∧ Z ∧ Iv w [] μ μ [] w')
    (hd : Nat.ble (d + 1) n = true) (k : ∀ a w', Z → Iv W0 md μ0 μ its w' → Fr a n ((d, u) :: L) → wpList P ops Q rest a w') :
    wpList P ops Q (⟨some d, .call { callee := .value (.func f), args := xs.toArray, argTypes := ats }, ty, pos, aft, none⟩ :: rest) a w :=
  o_call (fun v w' => v = u ∧ Z ∧ Iv w [] μ μ [] w') hf hA hv hc hd fun v a w' ⟨e, hz, h'⟩ hA => by subst e; exact k a w' hz (hI.call h') hA
end
section
variable {P : Program} {a : Act} {w : World} {n : Nat} {L : List (Nat × Value)} {v : Value} {fn : Func} {Post : Ending → World → Prop}
def RetP (P : Program) (fn : Func) (Post : Ending → World → Prop) : AW := fun a w => a.defers = [] ∧ ∃ v, (results fn a.tmps).run P w = .ok v w ∧ Post (.returned v) w
theorem enter {f : FuncId} {c : Code} {args : List Value} {m : Nat} (hf : P.funcs[f]? = some fn) (hb : fn.body = some c) (hm : fn.ntmps = m) (hn : Nat.ble args.length m = true)
    (h : ∀ a, Fr a m (fr0 0 args) → c.wp P (PQ (RetP P fn Post) [] (RetP P fn Post)) a w) : Calls P f args.toArray w Post := by
  refine calls_of_wp hf hb (wp_mono (h _ ?_) fun e a w hq => ?_)
  · subst hm
    have := Fr.start args.toArray fn.ntmps (by simpa using hn)
    simpa using this
  · cases e with
    | normal => exact hq
    | ret => exact hq
    | exit i => obtain ⟨M, hM, _⟩ := hq; simp at hM
    | _ => exact hq.elim
theorem ret1 {t : Nat} (hA : Fr a n L) (hr : fn.results = #[.tmp t]) (hv : lk L t = some v) (h : Post (.returned v) w) : RetP P fn Post a w := by
  refine ⟨hA.d, v, ?_, h⟩
  have := hA.g t v hv
  rw [results_tmp hr]
  simp [this]
theorem retc {W0 : World} {md : List Nat} {μ0 μ : Store} {its : List It} {t T mm : Nat} {d : TypeDesc} {j g : Nat} {chs : List (List Value)} (hu : P.underlying T = some d) (hd : isAggD d = true) (hs0 : (P.info? T).map (·.size) = some mm) (hs1 : chs.flatten.length = mm)
    (hI : Iv W0 md μ0 μ its w) (hj : its[j]? = some (cel g chs T)) (hA : Fr a n L) (hr : fn.results = #[.cell t T]) (hv : lk L t = some (.pointer (some ⟨g, 0, none⟩))) (h : Post (.returned (.agg chs.flatten.toArray)) w) : RetP P fn Post a w := by
  refine ⟨hA.d, _, ?_, h⟩
  have h1 := hA.g t _ hv
  have hg := hI.cel_ok hj
  have hl := run_loadVar_agg (P := P) (w := w) hu hd (hs0.trans (congrArg some hs1.symm)) ⟨g, 0, none⟩ (fun j u hu => by
    rw [add_eq]
    simp only [World.cell?, hg, Nat.zero_add]
    simpa using hu)
  simp [results, hr, h1, asAddr, hl]
end
end Go.Proofs.YtpeelghbhihgkaaDoor.K
namespace Go.Proofs.YtpeelghbhihgkaaDoor.K
open Go
section
variable {P : Program} {ops : Array Oper} {rest : List Oper} {W0 : World} {md : List Nat} {μ0 μ : Store} {its : List It} {w : World} {a : Act} {n : Nat} {L : List (Nat × Value)} {d : Nat} {ty : TypeId} {pos : String} {aft : Array Edge} {v : Value} {op : Op}
  {C : World → Prop} {Q : Act → Prop} {N R : AW} {E : List (Nat × AW)}
end
theorem bind_some {α β : Type} {o : Option α} {f : α → Option β} {r : β} (h : o.bind f = some r) : ∃ x, o = some x ∧ f x = some r := by
  cases o with
  | none => cases h
  | some x => exact ⟨x, rfl, h⟩
theorem bT {α β : Type} {c : Prop} [Decidable c] {A B : Option α} {K : α → Option β} {r : β} (h : (if c then A else B).bind K = some r) (hc : c) : A.bind K = some r := by rwa [if_pos hc] at h
theorem bF {α β : Type} {c : Prop} [Decidable c] {A B : Option α} {K : α → Option β} {r : β} (h : (if c then A else B).bind K = some r) (hc : ¬ c) : B.bind K = some r := by rwa [if_neg hc] at h
theorem bG {α β : Type} {c : Prop} [Decidable c] {A : Option α} {K : α → Option β} {r : β} (h : (if c then A else none).bind K = some r) : c ∧ A.bind K = some r := by
  by_cases hc : c
  · rw [if_pos hc] at h; exact ⟨hc, h⟩
  · rw [if_neg hc] at h; cases h
theorem bB {α β γ : Type} {o : Option α} {f : α → Option β} {K : β → Option γ} {r : γ} (h : (o.bind f).bind K = some r) : ∃ x, o = some x ∧ (f x).bind K = some r := by
  cases o with
  | none => cases h
  | some x => exact ⟨x, rfl, h⟩
theorem bS {α β : Type} {v : α} {K : α → Option β} {r : β} (h : (some v).bind K = some r) : K v = some r := h
theorem bI {α : Type} {o : Option α} {r : α} (h : o = some r) : o.bind some = some r := by rw [h]; rfl
theorem nT {b : Bool} (h : (!b) = true) : b = false := by cases b <;> first | rfl | cases h
theorem nF {b : Bool} (h : (!b) = false) : b = true := by cases b <;> first | rfl | cases h
theorem ft {b : Bool} (h : b = false) : ¬ b = true := by rw [h]; exact Bool.false_ne_true
def loopN {σ ρ : Type} (step : σ → Option (σ ⊕ ρ)) : Nat → σ → Option ρ
  | 0, _ => none
  | n + 1, s => match step s with
    | none => none
    | some (.inl s') => loopN step n s'
    | some (.inr r) => some r
open Classical in
noncomputable def loopO {σ ρ : Type} (step : σ → Option (σ ⊕ ρ)) (s : σ) : Option ρ :=
  if h : ∃ n r, loopN step n s = some r then some (h.choose_spec.choose) else none
section
variable {σ ρ : Type} {step : σ → Option (σ ⊕ ρ)} {s : σ} {r : ρ}
theorem loopN_mono {n : Nat} : ∀ {s : σ}, loopN step n s = some r → ∀ m, n ≤ m → loopN step m s = some r := by
  induction n with
  | zero => intro s h; cases h
  | succ n ih =>
    intro s h m hm
    obtain ⟨m, rfl⟩ : ∃ k, m = k + 1 := ⟨m - 1, by omega⟩
    simp only [loopN] at h ⊢
    cases hs : step s with
    | none => rw [hs] at h; cases h
    | some x =>
      rw [hs] at h
      cases x with
      | inl s' => exact ih h m (by omega)
      | inr r' => exact h
theorem loopN_one {n m : Nat} {r' : ρ} (h : loopN step n s = some r) (h' : loopN step m s = some r') : r = r' := by
  have h1 := loopN_mono h (max n m) (Nat.le_max_left _ _)
  have h2 := loopN_mono h' (max n m) (Nat.le_max_right _ _)
  rw [h1] at h2
  exact Option.some.inj h2
theorem loopO_of {n : Nat} (h : loopN step n s = some r) : loopO step s = some r := by
  unfold loopO
  have hx : ∃ n r, loopN step n s = some r := ⟨n, r, h⟩
  rw [dif_pos hx]
  exact congrArg some (loopN_one hx.choose_spec.choose_spec h)
theorem loopO_some (h : loopO step s = some r) : ∃ n, loopN step n s = some r := by
  unfold loopO at h
  split at h
  · rename_i hx
    have := Option.some.inj h
    subst this
    exact ⟨_, hx.choose_spec.choose_spec⟩
  · cases h
theorem loopO_eq : loopO step s = match step s with
    | none => none
    | some (.inl s') => loopO step s'
    | some (.inr r) => some r := by
  cases hs : step s with
  | none =>
    simp only
    cases h : loopO step s with
    | none => rfl
    | some r =>
      obtain ⟨n, hn⟩ := loopO_some h
      cases n with
      | zero => cases hn
      | succ n => simp only [loopN, hs] at hn; cases hn
  | some x =>
    cases x with
    | inr r => exact loopO_of (n := 1) (by simp [loopN, hs])
    | inl s' =>
      simp only
      cases h' : loopO step s' with
      | some r =>
        obtain ⟨n, hn⟩ := loopO_some h'
        exact loopO_of (n := n + 1) (by simpa [loopN, hs] using hn)
      | none =>
        cases h : loopO step s with
        | none => rfl
        | some r =>
          obtain ⟨n, hn⟩ := loopO_some h
          cases n with
          | zero => cases hn
          | succ n =>
            simp only [loopN, hs] at hn
            rw [loopO_of hn] at h'
            cases h'
theorem loopO_inl {s' : σ} (h : step s = some (.inl s')) : loopO step s = loopO step s' := by rw [loopO_eq, h]
theorem loopO_inr (h : step s = some (.inr r)) : loopO step s = some r := by rw [loopO_eq, h]
theorem loopN_bind {n : Nat} (h : loopN step n s = some r) : ∃ m, n = m + 1 ∧ (step s).bind (fun x => Sum.elim (loopN step m) some x) = some r := by
  cases n with
  | zero => cases h
  | succ n =>
    refine ⟨n, rfl, ?_⟩
    simp only [loopN] at h
    cases hs : step s with
    | none => rw [hs] at h; cases h
    | some x =>
      rw [hs] at h
      cases x with
      | inl s' => exact h
      | inr r' => exact h
end
end Go.Proofs.YtpeelghbhihgkaaDoor.K
namespace Go.Proofs.YtpeelghbhihgkaaDoor.K
open Go
set_option linter.unusedVariables false
set_option linter.unusedSimpArgs false
section
variable {P : Program} {W0 : World} {md : List Nat} {μ0 μ : Store} {its : List It} {w : World} {a : Act} {n : Nat} {L : List (Nat × Value)} {dst : Option Nat} {ty t T e : TypeId} {pos : String} {aft : Array Edge} {gd : Option (Nat × Bool)} {x y : Operand} {v : Value} {g o sz m : Nat} {cs : List Value}
theorem Iv.row_ok (hI : Iv W0 md μ0 μ its w) {j : Nat} (hj : its[j]? = some (row e sz v m cs)) : w.ownsRow 0 e sz v m cs := (hI.own _ (List.mem_of_getElem? hj)).1
theorem own_form (h : w.ownsRow 0 e sz v m cs) : ∃ A cp, v = .slice A m cp ∧ m ≤ cp ∧ cp ≤ maxLen ∧ (m ≠ 0 → A = some ⟨sb v, so v, none⟩ ∧ so v = 0) := by
  rcases h.2 with ⟨rfl, rfl⟩ | ⟨g, cap, cur, rfl, _, _, h1, h2, _⟩
  · exact ⟨none, 0, rfl, Nat.le_refl _, by simp [maxLen], fun h => absurd rfl h⟩
  · exact ⟨_, _, rfl, h1, h2, fun _ => ⟨rfl, rfl⟩⟩
theorem own_cells (h : w.ownsRow 0 e sz v m cs) {j : Nat} {u : Value} (hu : cs[j]? = some u) : w.cell? ⟨sb v, so v + j, none⟩ = some u := by
  rcases h.2 with ⟨rfl, rfl⟩ | ⟨g, cap, cur, rfl, _, _⟩
  · have := h.1
    simp only [Nat.zero_mul] at this
    rw [List.eq_nil_of_length_eq_zero this] at hu
    simp at hu
  · have := h.cells (g := g) rfl j u hu
    rw [add_eq] at this
    exact this
theorem r_rlen {j : Nat} {xs : Nat} (hu : P.underlying t = some (.slice e)) (hI : Iv W0 md μ0 μ its w) (hj : its[j]? = some (row T sz v m cs)) (hA : Fr a n L) (hx : ov L x = some v) :
    (execOp a.eval ⟨dst, .call { callee := .builtin .len, args := #[x], argTypes := #[t] }, ty, pos, aft, gd⟩).run P w = .ok (.value (.int .i64 m)) w := by
  obtain ⟨A, cp, e1, _⟩ := own_form (hI.row_ok hj)
  exact r_len hu hA (hx.trans (congrArg some e1))
theorem r_rix {j : Nat} {k : IntKind} {i : Int} (hu : P.underlying t = some (.slice e)) (hs : (P.info? e).map (·.size) = some sz) (hI : Iv W0 md μ0 μ its w) (hj : its[j]? = some (row T sz v m cs)) (hA : Fr a n L) (hx : ov L x = some v) (hy : ov L y = some (.int k i)) (h0 : 0 ≤ i) (h1 : i < (m : Int)) :
    (execOp a.eval ⟨dst, .indexAddr t x y, ty, pos, aft, gd⟩).run P w = .ok (.value (.pointer (some ⟨sb v, so v + i.toNat * sz, none⟩))) w := by
  obtain ⟨A, cp, e1, _, _, h4⟩ := own_form (hI.row_ok hj)
  have h4' := (h4 (by omega)).1
  cases hq : P.info? e with
  | none => simp [hq] at hs
  | some ei =>
    have hs' : ei.size = sz := by simpa [hq] using hs
    subst hs'
    rw [h4'] at e1
    exact r_ixs hu hq hA (hx.trans (congrArg some e1)) hy h0 h1
theorem r_rld1 {d : TypeDesc} {j q : Nat} {u : Value} (hu : P.underlying t = some d) (hd : isAggD d = false) (hI : Iv W0 md μ0 μ its w) (hj : its[j]? = some (row T sz v m cs)) (hc : cs[q]? = some u) (hA : Fr a n L) (hx : ov L x = some (.pointer (some ⟨sb v, o, none⟩))) (ho : so v + q = o) :
    (execOp a.eval ⟨dst, .load t x, ty, pos, aft, gd⟩).run P w = .ok (.value u) w := by
  subst ho
  have := own_cells (hI.row_ok hj) hc
  simp [execOp, hA.ev hx, Instr.loadAt, Instr.sureAddr, run_loadVar_one (P := P) hu hd _ this]
theorem r_rldA {d : TypeDesc} {j q mm : Nat} {A B C : List Value} (hu : P.underlying t = some d) (hd : isAggD d = true) (hs0 : (P.info? t).map (·.size) = some mm) (hs1 : B.length = mm) (hI : Iv W0 md μ0 μ its w) (hj : its[j]? = some (row T sz v m cs)) (hc : cs = A ++ (B ++ C)) (hq : A.length = q) (hA : Fr a n L) (hx : ov L x = some (.pointer (some ⟨sb v, o, none⟩))) (ho : so v + q = o) :
    (execOp a.eval ⟨dst, .load t x, ty, pos, aft, gd⟩).run P w = .ok (.value (.agg B.toArray)) w := by
  have h : ∀ i u, B[i]? = some u → w.cell? ((⟨sb v, o, none⟩ : Addr).add i) = some u := fun i u hi => by
    rw [add_eq, ← ho, Nat.add_assoc]
    have hlt : i < B.length := by
      rcases Nat.lt_or_ge i B.length with h' | h'
      · exact h'
      · rw [List.getElem?_eq_none h'] at hi; cases hi
    exact own_cells (hI.row_ok hj) (by rw [hc, ← hq, List.getElem?_append_right (by omega), Nat.add_sub_cancel_left, List.getElem?_append_left hlt]; exact hi)
  simp [execOp, hA.ev hx, Instr.loadAt, Instr.sureAddr, run_loadVar_agg (P := P) hu hd (hs0.trans (congrArg some hs1.symm)) _ h]
end
theorem els_int_cs {k : IntKind} {xs : List Int} {cs : List Value} (h : Els (RI k) 1 xs cs) : cs = xs.map (.int k) ∧ ∀ x ∈ xs, InR k x := by
  induction h with
  | nil => exact ⟨rfl, by simp⟩
  | cons h1 _ _ ih =>
    obtain ⟨rfl, hr⟩ := h1
    obtain ⟨rfl, h2⟩ := ih
    refine ⟨rfl, fun x hx => ?_⟩
    rcases List.mem_cons.1 hx with rfl | hx
    · exact hr
    · exact h2 x hx
theorem getD_in {k : IntKind} {xs : List Int} (h : ∀ x ∈ xs, InR k x) (i : Nat) : InR k (xs.getD i 0) := by
  rcases Nat.lt_or_ge i xs.length with h' | h'
  · have e : xs.getD i 0 = xs[i] := by simp [List.getD, h']
    rw [e]
    exact h _ (List.getElem_mem h')
  · have e : xs.getD i 0 = 0 := by simp [List.getD, List.getElem?_eq_none h']
    rw [e]
    cases k <;> simp [InR]
theorem one_av (k : IntKind) (m : Nat) (xs : List Int) : ∀ c ∈ av k m xs, c.oneCell' = true := by
  intro c hc
  obtain ⟨x, _, rfl⟩ := List.mem_map.1 hc
  rfl
theorem els_get {k : IntKind} {xs : List Int} {cs : List Value} (h : Els (RI k) 1 xs cs) {i : Int} (h0 : 0 ≤ i) (h1 : i < (xs.length : Int)) : cs[i.toNat * 1]? = some (.int k (xs.getD i.toNat 0)) := by
  obtain ⟨rfl, _⟩ := els_int_cs h
  have : i.toNat < xs.length := by omega
  simp [List.getD, this]
theorem arr_lit {k : IntKind} {m : Nat} {xs : List Int} (h : xs.length = m) (hx : ∀ x ∈ xs, InR k x) : Arr k m xs := ⟨h, hx⟩
theorem fl_nil : ∀ c ∈ ([] : List (List Value)).flatten, c.oneCell' = true := by simp
theorem fl_cons {x : List Value} {xs : List (List Value)} (h : ∀ c ∈ x, c.oneCell' = true) (hs : ∀ c ∈ xs.flatten, c.oneCell' = true) : ∀ c ∈ (x :: xs).flatten, c.oneCell' = true := by
  intro c hc
  rw [List.flatten_cons] at hc
  rcases List.mem_append.1 hc with hc | hc
  · exact h c hc
  · exact hs c hc
theorem one_one {v : Value} (h : v.oneCell' = true) : ∀ c ∈ [v], c.oneCell' = true := by
  intro c hc
  have : c = v := by simpa using hc
  subst this
  exact h
theorem tmod_in {k : IntKind} {x : Int} (h : InR k x) (y : Int) : InR k (Int.tmod x y) := by
  have h1 : (Int.tmod x y).natAbs ≤ x.natAbs := by rw [Int.natAbs_tmod]; exact Nat.mod_le _ _
  have h2 : 0 ≤ x → 0 ≤ Int.tmod x y := fun h => Int.tmod_nonneg y h
  have h3 : x ≤ 0 → Int.tmod x y ≤ 0 := fun h => by
    have := Int.tmod_nonneg y (a := -x) (by omega)
    rw [Int.neg_tmod] at this
    omega
  cases k <;> simp only [InR] at * <;> omega
theorem sR_in {k : IntKind} {x : Int} (hs : k.signed = false) (h : InR k x) (y : Int) : InR k (sR k x y) := by
  unfold sR
  generalize min y.toNat k.bits = n
  have hp : (0 : Int) < 2 ^ n := Int.pow_pos (by decide)
  have e : x.fdiv (2 ^ n) = x / 2 ^ n := Int.fdiv_eq_ediv_of_nonneg x (Int.le_of_lt hp)
  rw [e]
  have h1 : 0 ≤ x → 0 ≤ x / 2 ^ n := fun h => Int.ediv_nonneg h (Int.le_of_lt hp)
  have h2 : 0 ≤ x → x / 2 ^ n ≤ x := fun h => Int.ediv_le_self _ h
  cases k <;> first | (simp [IntKind.signed] at hs; done) | (simp only [InR] at *; omega)
theorem Iv.row_in {W0 : World} {md : List Nat} {μ0 μ : Store} {its : List It} {w : World} (hI : Iv W0 md μ0 μ its w) {j e sz m : Nat} {v : Value} {cs : List Value} (hj : its[j]? = some (row e sz v m cs)) : InR .i64 (m : Int) := by
  obtain ⟨A, cp, _, h1, h2, _⟩ := own_form (hI.row_ok hj)
  simp only [maxLen] at h2
  exact ⟨by omega, by omega⟩
def inb : IntKind → Int → Bool
  | .i8, n => decide (-128 ≤ n) && decide (n < 128)
  | .i16, n => decide (-32768 ≤ n) && decide (n < 32768)
  | .i32, n => decide (-2147483648 ≤ n) && decide (n < 2147483648)
  | .i64, n => decide (-9223372036854775808 ≤ n) && decide (n < 9223372036854775808)
  | .u8, n => decide (0 ≤ n) && decide (n < 256)
  | .u16, n => decide (0 ≤ n) && decide (n < 65536)
  | .u32, n => decide (0 ≤ n) && decide (n < 4294967296)
  | .u64, n => decide (0 ≤ n) && decide (n < 18446744073709551616)
theorem in_lit (k : IntKind) (x : Int) (h : inb k x = true) : InR k x := by
  cases k <;> simpa [inb, InR] using h
theorem r_eqlb {P : Program} {w : World} {a : Act} {n : Nat} {L : List (Nat × Value)} {dst : Option Nat} {ty t t' : TypeId} {pos : String} {aft : Array Edge} {g : Option (Nat × Bool)} {x y : Operand} {b c : Bool} (hu : P.underlying t = some .bool) (hA : Fr a n L) (hx : ov L x = some (.bool b)) (hy : ov L y = some (.bool c)) :
    (execOp a.eval ⟨dst, .binOp .eql t x y t', ty, pos, aft, g⟩).run P w = .ok (.value (.bool (decide (b = c)))) w := by
  have e : (b == c) = decide (b = c) := by cases b <;> cases c <;> rfl
  simp [execOp, hA.ev hx, hA.ev hy, eqGuard, run_eql_bool w t b c hu, e]
section
variable {P : Program} {Q : Exit → AW} {ops : Array Oper} {rest : List Oper} {W0 : World} {md : List Nat} {μ0 μ : Store} {its : List It} {w : World} {a : Act} {n : Nat} {L : List (Nat × Value)} {d : Nat} {dst : Option Nat} {ty t T e : TypeId} {pos : String} {aft : Array Edge} {x y : Operand} {v u vx : Value} {g o sz m mx by_ : Nat} {cs news : List Value}
def TyE (P : Program) (e : TypeId) (sz by_ : Nat) : Prop := ∃ i z, P.info? e = some i ∧ i.zero = some z ∧ i.size = sz ∧ z.cells.size = sz ∧ i.bytes = by_
theorem TyE.of (h1 : (P.info? e).map (·.size) = some sz) (h2 : (P.info? e).map (·.bytes) = some by_) (h3 : ∃ z, (P.info? e).map (·.zero) = some (some z) ∧ z.cells.size = sz) : TyE P e sz by_ := by
  obtain ⟨z, h3, h4⟩ := h3
  cases hq : P.info? e with
  | none => simp [hq] at h1
  | some i => exact ⟨i, z, hq, by simpa [hq] using h3, by simpa [hq] using h1, h4, by simpa [hq] using h2⟩
end
section
variable {P : Program} {W0 : World} {md : List Nat} {μ0 μ : Store} {its : List It} {a : Act} {n : Nat} {L : List (Nat × Value)} {dst : Option Nat} {ty t T e : TypeId} {pos : String} {aft : Array Edge} {gd : Option (Nat × Bool)} {x lo hi : Operand} {v : Value} {g o sz m : Nat} {cs : List Value}
end
section
variable {P : Program} {Q : Exit → AW} {ops : Array Oper} {rest : List Oper} {W0 : World} {md : List Nat} {μ0 μ : Store} {its : List It} {w : World} {a : Act} {n : Nat} {L : List (Nat × Value)} {d : Nat} {ty t T e : TypeId} {pos : String} {aft : Array Edge} {x y : Operand} {v u : Value} {g o sz by_ : Nat} {cs : List Value}
end
def RowOK (μ : Store) (w : World) (e sz : Nat) (v : Value) (n : Nat) (cs : List Value) : Prop := (row e sz v n cs).ok w ∧ (row e sz v n cs).foot.Nodup ∧ ∀ g ∈ (row e sz v n cs).foot, g < w.heap.size ∧ μ g = none
theorem RowOK.start {μ : Store} {w : World} {e sz : Nat} {v : Value} {n : Nat} {cs : List Value} (h : RowOK μ w e sz v n cs) (hμ : Agr μ w) : Iv w (row e sz v n cs).foot μ μ [row e sz v n cs] w := Iv.start1 hμ h.1 h.2.1 h.2.2
section
variable {P : Program} {Q : Exit → AW} {ops : Array Oper} {rest : List Oper} {W0 : World} {md : List Nat} {μ0 μ : Store} {its : List It} {w : World} {a : Act} {n : Nat} {L : List (Nat × Value)} {d : Nat} {dst : Option Nat} {ty t T e : TypeId} {pos : String} {aft : Array Edge} {gd : Option (Nat × Bool)} {sz by_ : Nat}
def plOK (P : Program) : List Field → List (Nat × Nat) → Prop
  | [], [] => True
  | f :: fs, (o, s) :: pl => f.offset = o ∧ (P.info? f.type).map (·.size) = some s ∧ plOK P fs pl
  | _, _ => False
theorem run_places {fs : List Field} {pl : List (Nat × Nat)} (h : plOK P fs pl) : (fs.mapM fun f => Prod.mk f.offset <$> sizeOf f.type).run P w = .ok pl w := by
  induction fs generalizing pl with
  | nil =>
    cases pl with
    | nil => simp
    | cons p pl => exact h.elim
  | cons f fs ih =>
    cases pl with
    | nil => exact h.elim
    | cons p pl =>
      obtain ⟨o, s⟩ := p
      obtain ⟨h1, h2, h3⟩ := h
      have := ih h3
      cases hq : P.info? f.type with
      | none => simp [hq] at h2
      | some i =>
        have h2' : i.size = s := by simpa [hq] using h2
        rw [List.mapM_cons]
        simp [sizeOf, typeInfo, hq, h1, h2'] at this ⊢
        simp [this]
def pvs (L : List (Nat × Value)) : List (Nat × Operand) → Option (List (Nat × Value))
  | [] => some []
  | (i, x) :: xs => match ov L x, pvs L xs with
    | some v, some vs => some ((i, v) :: vs)
    | _, _ => none
theorem Fr.pvs (h : Fr a n L) : ∀ {xs : List (Nat × Operand)} {vs : List (Nat × Value)}, pvs L xs = some vs → xs.map (fun (i, x) => (i, a.eval x)) = vs
  | [], vs, e => by simpa [K.pvs] using e
  | (i, x) :: xs, vs, e => by
    simp only [K.pvs] at e
    cases h1 : ov L x with
    | none => simp [h1] at e
    | some v =>
      cases h2 : K.pvs L xs with
      | none => simp [h1, h2] at e
      | some us =>
        simp [h1, h2] at e
        subst e
        simp [h.ev h1, h.pvs h2]
theorem r_bldS {fs : List Field} {pl : List (Nat × Nat)} {parts : List (Nat × Operand)} {pv : List (Nat × Value)} {zc cs : Array Value} (hz : ∃ z, (P.info? t).map (·.zero) = some (some z) ∧ z.cells = zc) (hu : P.underlying t = some (.struct fs.toArray)) (hpl : plOK P fs pl) (hA : Fr a n L) (hp : pvs L parts = some pv)
    (hf : Instr.fill (fun i => pl.toArray[i]?) zc pv = some cs) : (execOp a.eval ⟨dst, .build t parts.toArray, ty, pos, aft, gd⟩).run P w = .ok (.value (.agg cs)) w := by
  obtain ⟨z, hz, rfl⟩ := hz
  cases hq : P.info? t with
  | none => simp [hq] at hz
  | some ti =>
    have hz' : ti.zero = some z := by simpa [hq] using hz
    have hp' := hA.pvs hp
    have hpr := run_places (P := P) (w := w) hpl
    have hf : Instr.fill (fun i => pl[i]?) z.cells pv = some cs := by simpa using hf
    simp [execOp, Instr.build, zeroValue, typeInfo, program, hp', Sem.run, hq, hz', run_underlying hu, hpr, hf]
theorem r_bldA {mm : Nat} {parts : List (Nat × Operand)} {pv : List (Nat × Value)} {zc cs : Array Value} (hz : ∃ z, (P.info? t).map (·.zero) = some (some z) ∧ z.cells = zc) (hu : P.underlying t = some (.array mm e)) (hs : (P.info? e).map (·.size) = some sz) (hA : Fr a n L) (hp : pvs L parts = some pv)
    (hf : Instr.fill (fun i => some (i * sz, sz)) zc pv = some cs) : (execOp a.eval ⟨dst, .build t parts.toArray, ty, pos, aft, gd⟩).run P w = .ok (.value (.agg cs)) w := by
  obtain ⟨z, hz, rfl⟩ := hz
  cases hq : P.info? t with
  | none => simp [hq] at hz
  | some ti =>
    cases hq' : P.info? e with
    | none => simp [hq'] at hs
    | some ei =>
      have hs' : ei.size = sz := by simpa [hq'] using hs
      subst hs'
      have hz' : ti.zero = some z := by simpa [hq] using hz
      have hp' := hA.pvs hp
      simp [execOp, Instr.build, zeroValue, typeInfo, program, hp', Sem.run, hq, hz', run_underlying hu, hf, sizeOf, hq']
theorem o_bsl {mm : Nat} {parts : List (Nat × Operand)} {pv : List (Nat × Value)} (cs : List Value) {z0 : Array Value} (hte : TyE P e sz by_) (hz : ∃ z, (P.info? e).map (·.zero) = some (some z) ∧ z.cells = z0) (hu : P.underlying t = some (.slice e)) (hI : Iv W0 md μ0 μ its w) (hA : Fr a n L) (hp : pvs L parts = some pv)
    (hpos : Nat.ble 1 sz = true) (hbig : Nat.ble (mm * sz) 16777216 = true) (hlen : cs.length = mm * sz)
    (hf : Instr.fill (fun i => some (i * sz, sz)) ((Array.range (mm * sz)).map ((if mm * sz = 0 then #[] else z0)[· % (if mm * sz = 0 then #[] else z0).size]!)) pv = some cs.toArray) (hd : Nat.ble (d + 1) n = true)
    (k : ∀ g a w, Fr a n ((d, .slice (some ⟨g, 0, none⟩) mm mm) :: L) → Iv W0 md μ0 μ (row e sz (.slice (some ⟨g, 0, none⟩) mm mm) mm cs :: its) w → wpList P ops Q rest a w) :
    wpList P ops Q (⟨some d, .buildSlice t mm parts.toArray, ty, pos, aft, none⟩ :: rest) a w := by
  obtain ⟨z, hz, rfl⟩ := hz
  obtain ⟨i, z', hi, hz1, hsz, hz2, hby⟩ := hte
  subst hsz
  have hzz : i.zero = some z := by simpa [hi] using hz
  have hp' := hA.pvs hp
  have hbig : ¬ mm * i.size > 16777216 := by have := Nat.le_of_ble_eq_true hbig; omega
  have hmm : mm ≤ maxLen := by
    have h0 : 0 < i.size := Nat.le_of_ble_eq_true hpos
    have : mm ≤ mm * i.size := Nat.le_mul_of_pos_right _ h0
    simp only [maxLen]
    omega
  have hr : (execOp a.eval ⟨some d, .buildSlice t mm parts.toArray, ty, pos, aft, none⟩).run P w = .ok (.value (.slice (some ⟨w.heap.size, 0, none⟩) mm mm)) (w.alloc (.cells cs.toArray e)) := by
    by_cases h0 : mm = 0
    · subst h0
      have hcs : cs = [] := List.eq_nil_of_length_eq_zero (by simpa using hlen)
      subst hcs
      simp [Array.range_zero'] at hf
      simp [execOp, Instr.buildSlice, typeInfo, program, hp', Sem.run, run_underlying hu, sizeOf, hi, hf, newRow, Array.range_zero']
    · have h1 : mm * i.size ≠ 0 := Nat.mul_ne_zero h0 (by have := Nat.le_of_ble_eq_true hpos; omega)
      simp only [h1, if_false] at hf
      have h2 : i.size ≠ 0 := by have := Nat.le_of_ble_eq_true hpos; omega
      simp [execOp, Instr.buildSlice, zeroValue, typeInfo, program, hp', Sem.run, run_underlying hu, sizeOf, hi, hzz, h1, hbig, hf, newRow]
  refine wpl_val hr (k _ _ _ (hA.put hd _) (hI.alloc _ _ (by simp [row, Value.ownBlock]) ?_))
  refine ⟨hlen, .inr ⟨w.heap.size, mm, _, rfl, Nat.zero_le _, heap_alloc_new w _, Nat.le_refl _, hmm, by simpa using hlen, ?_⟩⟩
  simp [← hlen]
end
end Go.Proofs.YtpeelghbhihgkaaDoor.K
namespace Go.Proofs.YtpeelghbhihgkaaDoor.K
open Go
section
variable {P : Program} {ops : Array Oper} {Q : Exit → Act → World → Prop} {I I' : World → Prop} {T : List Nat} {l : Array Bool}
def waitsL (ops : Array Oper) : Nat → Nat → Nat → Bool
  | 0, _, _ => false
  | f + 1, t, i => match ops[t]? with
    | some o => o.after.any fun e => Region.binds .any e && (e.on == i || waitsL ops f e.on i)
    | none => false
def Shut (ops : Array Oper) (l : Array Bool) : Prop :=
  ∀ (j : Nat) (oj : Oper), ops[j]? = some oj → l.getD j false = true → ∀ e ∈ oj.after, Region.binds .any e = true → l.getD e.on false = true
def shutB (ops : Array Oper) (l : Array Bool) : Bool :=
  (List.range ops.size).all fun j => !l.getD j false || match ops[j]? with
    | some oj => oj.after.all fun e => !Region.binds .any e || l.getD e.on false
    | none => true
theorem shut_of (h : shutB ops l = true) : Shut ops l := by
  intro j oj hj hl e he hb
  have hlt : j < ops.size := (Array.getElem?_eq_some_iff.1 hj).1
  have h1 := List.all_eq_true.1 h j (List.mem_range.2 hlt)
  rw [hl, hj] at h1
  simp only [Bool.not_true, Bool.false_or] at h1
  have h2 := Array.all_eq_true'.1 h1 e he
  rw [hb] at h2
  simpa using h2
theorem waitsL_not {i : Nat} (hs : Shut ops l) (hi : l.getD i false = false) : ∀ (f t : Nat), waitsL ops f t i = true → l.getD t false = false ∧ t ∉ Region.ready .any ops l
  | 0, t, h => by cases h
  | f + 1, t, h => by
    unfold waitsL at h
    split at h
    case h_2 => cases h
    rename_i o ho
    obtain ⟨e, he, hb⟩ := Array.any_eq_true'.1 h
    simp only [Bool.and_eq_true, Bool.or_eq_true, beq_iff_eq] at hb
    have hn : l.getD e.on false = false := by
      rcases hb.2 with h1 | h1
      · rw [h1]; exact hi
      · exact (waitsL_not hs hi f e.on h1).1
    refine ⟨?_, fun hr => ?_⟩
    · cases hl : l.getD t false with
      | false => rfl
      | true =>
        have := hs t o ho hl e he hb.1
        rw [hn] at this
        cases this
    · obtain ⟨_, o', ho', hall⟩ := mem_ready.1 hr
      have : o' = o := Option.some.inj (ho'.symm.trans ho)
      subst this
      have := hall e he hb.1
      rw [hn] at this
      cases this
theorem Shut.set {i : Nat} (hs : Shut ops l) (hi : i ∈ Region.ready .any ops l) : Shut ops (l.setIfInBounds i true) := by
  obtain ⟨_, oi, hoi, hall⟩ := mem_ready.1 hi
  intro j oj hj hl e he hb
  by_cases hij : i = j
  · subst hij
    have : oj = oi := Option.some.inj (hj.symm.trans hoi)
    subst this
    exact getD_set_true (hall e he hb)
  · rw [getD_set_ne false hij] at hl
    exact getD_set_true (hs j oj hj hl e he hb)
theorem getD_tf {l : Array Bool} {i : Nat} (h : l.getD i true = false) : l.getD i false = false := by
  rcases Nat.lt_or_ge i l.size with h' | h'
  · simp [h'] at h ⊢; exact h
  · simp [Array.getElem?_eq_none h'] at h
def wrote (T : List Nat) (l : Array Bool) : Bool := T.any (l.getD · false)
theorem wrote_set {i : Nat} (h : wrote T (l.setIfInBounds i true) = true) (hi : T.contains i = false) : wrote T l = true := by
  obtain ⟨t, ht, hl⟩ := List.any_eq_true.1 h
  have hne : i ≠ t := fun e => by subst e; rw [List.contains_iff_mem.2 ht] at hi; cases hi
  rw [getD_set_ne false hne] at hl
  exact List.any_eq_true.2 ⟨t, ht, hl⟩
def wpG (P : Program) (ops : Array Oper) (Q : Exit → Act → World → Prop) (T : List Nat) (I : World → Prop) : Nat → Array Bool → Act → World → Prop
  | 0, l, a, w => Region.ready .any ops l = [] ∧ Q .normal a w
  | f + 1, l, a, w =>
    (Region.ready .any ops l = [] → Q .normal a w) ∧
    ∀ i ∈ Region.ready .any ops l, wpOp P ops Q i (fun a' w' => (wrote T (l.setIfInBounds i true) = true ∨ I w') ∧ wpG P ops Q T I f (l.setIfInBounds i true) a' w') a w
theorem wpAny_of_G : ∀ (f : Nat) (l : Array Bool) (a : Act) (w : World), wpG P ops Q T I f l a w → wpAny P .any ops Q f l a w
  | 0, _, _, _, h => h
  | f + 1, _, _, _, h => ⟨h.1, fun i hi => wpOp_mono (fun a' w' h' => wpAny_of_G f _ a' w' h'.2) (h.2 i hi)⟩
theorem g_first {i : Nat} {oi : Oper} {v : Value} (hi : ops[i]? = some oi) (hsel : ∀ (j : Nat) (o : Oper) cs b, ops[j]? = some o → o.op ≠ .select cs b)
    (hQ : ∀ c a w, Q (.panic c) (a.put oi.dst v) w → Q (.panic c) a w) (hT : T.contains i = false) (hW : ∀ t ∈ T, ∃ f, waitsL ops f t i = true) :
    ∀ (f : Nat) (l : Array Bool) (a : Act) (w : World), Shut ops l → wrote T l = false →
      (∀ j oj, ops[j]? = some oj → j ≠ i → l.getD j true = false → (∀ e ∈ oj.after, Region.binds .any e = true → e.on ≠ i) → oi.apart ops oj = true) →
      i ∈ Region.ready .any ops l → YieldsIf P ops I oi v a → I w →
      wpG P ops Q T I f (l.setIfInBounds i true) (a.put oi.dst v) w → wpG P ops Q T I (f + 1) l a w := by
  intro f
  induction f with
  | zero =>
    intro l a w _ _ _ hr hy hS H
    refine ⟨fun h => (by rw [h] at hr; cases hr), fun j hj => ?_⟩
    by_cases hji : j = i
    · subst hji; exact hy.wpOp hi hS ⟨.inr hS, H⟩
    · have := ready_mono hj hji
      rw [H.1] at this
      cases this
  | succ f ih =>
    intro l a w hsh hnw hfree hr hy hS H
    refine ⟨fun h => (by rw [h] at hr; cases hr), fun j hj => ?_⟩
    by_cases hji : j = i
    · subst hji; exact hy.wpOp hi hS ⟨.inr hS, H⟩
    · have h1 := H.2 j (ready_mono hj hji)
      obtain ⟨hjun, oj, hoj, hall⟩ := mem_ready.1 hj
      have hiun := (mem_ready.1 hr).1
      have hnot : ∀ e ∈ oj.after, Region.binds .any e = true → e.on ≠ i := fun e he hb heq => by
        have h1 := hall e he hb
        rw [heq, getD_tf hiun] at h1
        cases h1
      have hjT : T.contains j = false := by
        cases hc : T.contains j with
        | false => rfl
        | true =>
          obtain ⟨f', hf'⟩ := hW j (List.contains_iff_mem.1 hc)
          exact absurd hj (waitsL_not hsh (getD_tf hiun) f' j hf').2
      have h2 := wpOp_putIf hoj (hfree j oj hoj hji hjun hnot) (fun cs b => hsel i oi cs b hi) (fun cs b => hsel j oj cs b hoj) hQ hy h1
      have hfree' : ∀ k ok, ops[k]? = some ok → k ≠ i → (l.setIfInBounds j true).getD k true = false →
          (∀ e ∈ ok.after, Region.binds .any e = true → e.on ≠ i) → oi.apart ops ok = true := fun k ok hk hki hun hno => by
        refine hfree k ok hk hki ?_ hno
        by_cases hjk : j = k
        · subst hjk; exact hjun
        · rw [getD_set_ne true hjk] at hun; exact hun
      have hnw' : wrote T (l.setIfInBounds j true) = false := by
        cases hc : wrote T (l.setIfInBounds j true) with
        | false => rfl
        | true => rw [wrote_set hc hjT] at hnw; cases hnw
      refine wpOp_mono (fun a' w' h3 => ?_) h2
      have hw' : I w' := by
        rcases h3.2.1 with h4 | h4
        · rw [wrote_set (wrote_set h4 hjT) hT] at hnw; cases hnw
        · exact h4
      refine ⟨.inr hw', ih (l.setIfInBounds j true) a' w' (hsh.set hj) hnw' hfree' (ready_mono hr (Ne.symm hji)) h3.1 hw' ?_⟩
      rw [Array.setIfInBounds_comm _ _ hji]
      exact h3.2.2
theorem g_weak {i : Nat} {oi : Oper} {v : Value} (hi : ops[i]? = some oi) (hsel : ∀ (j : Nat) (o : Oper) cs b, ops[j]? = some o → o.op ≠ .select cs b)
    (hQ : ∀ c a w, Q (.panic c) (a.put oi.dst v) w → Q (.panic c) a w) (hT : T.contains i = false) :
    ∀ (f : Nat) (l : Array Bool) (a : Act) (w : World), (wrote T l = true ∨ I w) →
      (∀ j oj, ops[j]? = some oj → j ≠ i → l.getD j true = false → (∀ e ∈ oj.after, Region.binds .any e = true → e.on ≠ i) → oi.apart ops oj = true) →
      i ∈ Region.ready .any ops l → YieldsIf P ops (fun _ => True) oi v a →
      wpG P ops Q T I f (l.setIfInBounds i true) (a.put oi.dst v) w → wpG P ops Q T I (f + 1) l a w := by
  have up : ∀ {l : Array Bool} {k : Nat}, wrote T l = true → wrote T (l.setIfInBounds k true) = true := by
    intro l k h
    obtain ⟨t, ht, hl⟩ := List.any_eq_true.1 h
    exact List.any_eq_true.2 ⟨t, ht, getD_set_true hl⟩
  intro f
  induction f with
  | zero =>
    intro l a w hS _ hr hy H
    refine ⟨fun h => (by rw [h] at hr; cases hr), fun j hj => ?_⟩
    by_cases hji : j = i
    · subst hji; exact hy.wpOp hi trivial ⟨hS.imp up id, H⟩
    · have := ready_mono hj hji
      rw [H.1] at this
      cases this
  | succ f ih =>
    intro l a w hS hfree hr hy H
    refine ⟨fun h => (by rw [h] at hr; cases hr), fun j hj => ?_⟩
    by_cases hji : j = i
    · subst hji; exact hy.wpOp hi trivial ⟨hS.imp up id, H⟩
    · have h1 := H.2 j (ready_mono hj hji)
      obtain ⟨hjun, oj, hoj, hall⟩ := mem_ready.1 hj
      have hiun := (mem_ready.1 hr).1
      have hnot : ∀ e ∈ oj.after, Region.binds .any e = true → e.on ≠ i := fun e he hb heq => by
        have h1 := hall e he hb
        rw [heq, getD_tf hiun] at h1
        cases h1
      have h2 := wpOp_putIf hoj (hfree j oj hoj hji hjun hnot) (fun cs b => hsel i oi cs b hi) (fun cs b => hsel j oj cs b hoj) hQ hy h1
      have hfree' : ∀ k ok, ops[k]? = some ok → k ≠ i → (l.setIfInBounds j true).getD k true = false →
          (∀ e ∈ ok.after, Region.binds .any e = true → e.on ≠ i) → oi.apart ops ok = true := fun k ok hk hki hun hno => by
        refine hfree k ok hk hki ?_ hno
        by_cases hjk : j = k
        · subst hjk; exact hjun
        · rw [getD_set_ne true hjk] at hun; exact hun
      refine wpOp_mono (fun a' w' h3 => ?_) h2
      have hw' : wrote T (l.setIfInBounds j true) = true ∨ I w' := by
        rcases h3.2.1 with h4 | h4
        · rw [Array.setIfInBounds_comm _ _ (Ne.symm hji)] at h4
          exact .inl (wrote_set h4 hT)
        · exact .inr h4
      refine ⟨hw', ih (l.setIfInBounds j true) a' w' hw' hfree' (ready_mono hr (Ne.symm hji)) h3.1 ?_⟩
      rw [Array.setIfInBounds_comm _ _ hji]
      exact h3.2.2
end
section
variable {P : Program} {ops : Array Oper} {N R : AW} {E : List (Nat × AW)} {I I' : World → Prop} {T : List Nat} {l : Array Bool} {f i d n : Nat} {L : List (Nat × Value)} {a : Act} {w : World} {v : Value} {op : Op} {ty : TypeId} {pos : String} {aft : Array Edge} {gd : Option (Nat × Bool)} {dst : Option Nat}
theorem wp_pq {N' : AW} {o : Oper} {K : Act → World → Prop} (h : o.wp P a w K (PQ N' E R)) : o.wp P a w K (PQ N E R) := by
  unfold Oper.wp at *
  generalize (execOp a.eval o).run P w = r at *
  cases r with
  | ok n w' =>
    cases n <;> simp only [Oper.upon] at h ⊢ <;>
      first
        | exact h
        | exact Calls.mono h (fun e w'' he => by cases e <;> exact he)
        | exact Rows.mono h (fun _ _ he => he)
  | halt x w' => cases x <;> simp only [Oper.upon] at h ⊢ <;> exact h
theorem g_forced {o : Oper} (hi : ops[i]? = some o) (hr : Region.ready .any ops l = [i])
    (h : wpList P ops (PQ (fun a' w' => (wrote T (l.setIfInBounds i true) = true ∨ I w') ∧ wpG P ops (PQ N E R) T I f (l.setIfInBounds i true) a' w') E R) [o] a w) : wpG P ops (PQ N E R) T I (f + 1) l a w := by
  refine ⟨fun h0 => (by rw [h0] at hr; cases hr), fun j hj => ?_⟩
  rw [hr] at hj
  obtain rfl : j = i := by simpa using hj
  unfold wpOp
  simp only [hi]
  unfold wpList at h
  split
  · rename_i hw
    rw [if_pos hw] at h
    rcases h with h | ⟨_, _, _, h⟩
    · exact .inl (wp_pq h)
    · exact h.elim
  · rename_i hw
    rw [if_neg hw] at h
    exact h
def weakB (ops : Array Oper) (T : List Nat) (l : Array Bool) (i : Nat) : Bool :=
  Region.noSelect ops && Region.free .any ops l i && (Region.ready .any ops l).contains i && !T.contains i
def takeB (ops : Array Oper) (T : List Nat) (l : Array Bool) (i : Nat) : Bool :=
  weakB ops T l i && shutB ops l && !wrote T l && T.all (waitsL ops 12 · i)
theorem g_take (hA : Fr a n L) (hi : ops[i]? = some ⟨some d, op, ty, pos, aft, gd⟩) (hw : Region.wanted ⟨some d, op, ty, pos, aft, gd⟩ (yielded ops a.tmps) = true) (hB : takeB ops T l i = true) (hI : I w)
    (h : ∀ w, I w → (execOp a.eval ⟨some d, op, ty, pos, aft, gd⟩).run P w = .ok (.value v) w) (hd : Nat.ble (d + 1) n = true)
    (k : ∀ a, Fr a n ((d, v) :: L) → wpG P ops (PQ N E R) T I f (l.setIfInBounds i true) a w) : wpG P ops (PQ N E R) T I (f + 1) l a w := by
  simp only [takeB, weakB, Bool.and_eq_true, Bool.not_eq_true', List.all_eq_true] at hB
  obtain ⟨⟨⟨⟨⟨⟨h1, h2⟩, h3⟩, h4⟩, h5⟩, h6⟩, h7⟩ := hB
  exact g_first (v := v) hi (Region.noSelect_spec h1) (fun c a w h => h) h4 (fun t ht => ⟨_, h7 t ht⟩) f l a w (shut_of h5) h6 (Region.free_spec hi h2) (by simpa using h3) (.inl ⟨hw, h⟩) hI (k _ (hA.put hd v))
theorem g_easy (hA : Fr a n L) (hi : ops[i]? = some ⟨some d, op, ty, pos, aft, gd⟩) (hw : Region.wanted ⟨some d, op, ty, pos, aft, gd⟩ (yielded ops a.tmps) = true) (hB : weakB ops T l i = true) (hI : wrote T l = true ∨ I w)
    (h : ∀ w, (execOp a.eval ⟨some d, op, ty, pos, aft, gd⟩).run P w = .ok (.value v) w) (hd : Nat.ble (d + 1) n = true)
    (k : ∀ a, Fr a n ((d, v) :: L) → wpG P ops (PQ N E R) T I f (l.setIfInBounds i true) a w) : wpG P ops (PQ N E R) T I (f + 1) l a w := by
  simp only [weakB, Bool.and_eq_true, Bool.not_eq_true'] at hB
  obtain ⟨⟨⟨h1, h2⟩, h3⟩, h4⟩ := hB
  exact g_weak (v := v) hi (Region.noSelect_spec h1) (fun c a w h => h) h4 f l a w hI (Region.free_spec hi h2) (by simpa using h3) (.inl ⟨hw, fun w _ => h w⟩) (k _ (hA.put hd v))
theorem w_any {id : Nat} {l : List Oper} {W0 : World} {md : List Nat} {μ0 μ : Store} {its : List It} (T : List Nat) (hm : P.follows .mixedOrders = true) (hI : Iv W0 md μ0 μ its w)
    (h : ∀ w, Iv W0 md μ0 μ its w → wpG P l.toArray (PQ N E R) T (fun w => Iv W0 md μ0 μ its w) l.toArray.size (Array.replicate l.toArray.size false) a w) : (Code.region id l.toArray true).wp P (PQ N E R) a w :=
  wp_region_any hm (wpAny_of_G _ _ _ _ (h _ hI.drew1))
theorem g_nil (hr : Region.ready .any ops l = []) (h : N a w) : wpG P ops (PQ N E R) T I 0 l a w := ⟨hr, h⟩
end
end Go.Proofs.YtpeelghbhihgkaaDoor.K
namespace Go.Proofs.YtpeelghbhihgkaaDoor.K
open Go
set_option linter.unusedVariables false
set_option linter.unusedSimpArgs false
theorem beqd {α : Type} [DecidableEq α] [BEq α] [LawfulBEq α] (a b : α) : (a == b) = decide (a = b) := by
  by_cases h : a = b
  · simp [h]
  · simp [h]
section
variable {P : Program} {d : Nat} {t e : TypeId} {k k' : IntKind} {i j : Int} {A B : Array Value}
end
section
variable {P : Program} {w : World} {a : Act} {n : Nat} {L : List (Nat × Value)} {dst : Option Nat} {ty t t' : TypeId} {pos : String} {aft : Array Edge} {g : Option (Nat × Bool)} {x y : Operand} {p : Prop} [Decidable p] {X Y : Array Value}
end
theorem seq (s u : ByteArray) : (s.toList == u.toList) = decide (s = u) := by
  rw [ByteArray.toList_eq, ByteArray.toList_eq, beqd]
  congr 1
  apply propext
  constructor
  · intro h; exact ByteArray.ext (Array.toList_inj.1 h)
  · intro h; rw [h]
section
variable {P : Program} {w : World} {a : Act} {n : Nat} {L : List (Nat × Value)} {dst : Option Nat} {ty t t' e : TypeId} {pos : String} {aft : Array Edge} {g : Option (Nat × Bool)} {x y : Operand} {s u : ByteArray} {i j : Int} {k k' : IntKind}
end
section
variable {P : Program} {W0 : World} {md : List Nat} {μ0 μ ν : Store} {its : List It} {w : World} {a : Act} {n : Nat} {L : List (Nat × Value)} {dst : Option Nat} {ty t T e : TypeId} {pos : String} {aft : Array Edge} {gd : Option (Nat × Bool)} {x y : Operand} {v : Value} {g o sz m : Nat} {cs : List Value}
theorem Iv.low (hl : μ.le ν) (h : Iv W0 md ν ν its w) : Iv W0 md μ μ its w :=
  ⟨h.os, h.tape, h.out, h.size, h.frame, Store.le.refl _, fun k o e => h.agr k o (hl k o e), fun k o e => .inl e, h.nodup, fun i hi => ⟨(h.own i hi).1, fun g hg => by
    obtain ⟨a, b, c⟩ := (h.own i hi).2 g hg
    refine ⟨a, ?_, c⟩
    cases e : μ g with
    | none => rfl
    | some o => rw [hl g o e] at b; cases b⟩⟩
end
end Go.Proofs.YtpeelghbhihgkaaDoor.K
namespace Go.Proofs.YtpeelghbhihgkaaDoor.K
open Go
set_option linter.unusedVariables false
section
variable {P : Program} {W0 : World} {md : List Nat} {μ0 μ ν : Store} {its : List It} {w : World} {a : Act} {n : Nat} {L : List (Nat × Value)} {dst : Option Nat} {ty t T e : TypeId} {pos : String} {aft : Array Edge} {gd : Option (Nat × Bool)} {x y : Operand} {v : Value} {g o sz m : Nat} {cs : List Value}
theorem eqIn_ptrnil (d : Nat) {p : Addr} (hu : P.underlying t = some (.pointer e)) : (Op.equalIn (d + 1) t (.pointer (some p)) (.pointer none)).run P w = .ok false w := by
  simp [Op.equalIn, run_underlying hu]
theorem r_ptrnil_eql {p : Addr} {t' : TypeId} (hu : P.underlying t = some (.pointer e)) (hA : Fr a n L) (hx : ov L x = some (.pointer (some p))) (hy : ov L y = some (.pointer none)) :
    (execOp a.eval ⟨dst, .binOp .eql t x y t', ty, pos, aft, gd⟩).run P w = .ok (.value (.bool false)) w := by
  have h := eqIn_ptrnil (P := P) (w := w) 9999 (p := p) hu
  have hb : (binOp .eql t (.pointer (some p)) (.pointer none)).run P w = .ok (.bool false) w := by
    simp only [binOp, Op.equal, Op.maxDepth]
    rw [Sem.run_bind, h]
    rfl
  simp [execOp, hA.ev hx, hA.ev hy, eqGuard, hb]
end
end Go.Proofs.YtpeelghbhihgkaaDoor.K
namespace Go.Proofs.YtpeelghbhihgkaaDoor.K
open Go
set_option linter.unusedVariables false
def RS {α : Type} (RE : α → List Value → Prop) (sz : Nat) (μ : Store) (x : List α) (c : List Value) : Prop := ∃ v : Value, c = [[v]].flatten ∧ Slc RE sz μ v x
theorem RS.le {α : Type} {RE RE' : α → List Value → Prop} {sz : Nat} {μ ν : Store} (hm : ∀ x c, RE x c → RE' x c) (hl : μ.le ν) {x : List α} {c : List Value} (h : RS RE sz μ x c) : RS RE' sz ν x c := let ⟨v, h0, h1⟩ := h; ⟨v, h0, h1.le hm hl⟩
section
variable {α : Type} {RE : α → List Value → Prop} {sz : Nat}
theorem Els.set {xs : List α} {cs : List Value} (h : Els RE sz xs cs) {i : Nat} {x : α} (hx : xs[i]? = some x) {y : α} {d : List Value} (hy : RE y d) (hd : d.length = sz) :
    ∃ A c B, cs = A ++ (c ++ B) ∧ A.length = i * sz ∧ c.length = sz ∧ RE x c ∧ Els RE sz (xs.set i y) (A ++ (d ++ B)) := by
  induction h generalizing i with
  | nil => simp at hx
  | @cons z c cs zs h1 h2 h3 ih =>
    cases i with
    | zero =>
      have : z = x := by simpa using hx
      subst this
      exact ⟨[], c, cs, rfl, by simp, h2, h1, Els.cons (c := d) hy hd h3⟩
    | succ i =>
      obtain ⟨A, c', B, e, hA, hc, hr, hE⟩ := ih (by simpa using hx)
      refine ⟨c ++ A, c', B, by rw [e, List.append_assoc], by rw [List.length_append, h2, hA, Nat.add_mul, Nat.one_mul, Nat.add_comm], hc, hr, ?_⟩
      rw [List.set_cons_succ, List.append_assoc]
      exact Els.cons (c := c) h1 h2 hE
end
section
variable {P : Program} {Q : Exit → AW} {ops : Array Oper} {rest : List Oper} {W0 : World} {md : List Nat} {μ0 μ : Store} {its : List It} {w : World} {a : Act} {n : Nat} {L : List (Nat × Value)} {dst : Option Nat} {d : Nat} {ty t T e : TypeId} {pos : String} {aft : Array Edge} {gd : Option (Nat × Bool)} {x y : Operand} {v u : Value} {g o sz m : Nat}
theorem r_rldm1 {k0 : TypeDesc} {j : Nat} {cs : List Value} (A C : List Value) (hcs : cs = A ++ ([u] ++ C)) (hu : P.underlying t = some k0) (hd : isAggD k0 = false) (hI : Iv W0 md μ0 μ its w) (hj : its[j]? = some (row T sz v m cs)) (hA : Fr a n L) (hx : ov L x = some (.pointer (some ⟨sb v, o, none⟩))) (ho : so v + A.length = o) :
    (execOp a.eval ⟨dst, .load t x, ty, pos, aft, gd⟩).run P w = .ok (.value u) w := by
  subst hcs
  exact r_rld1 (q := A.length) hu hd hI hj (by simp) hA hx ho
end
end Go.Proofs.YtpeelghbhihgkaaDoor.K
namespace Go.Proofs.YtpeelghbhihgkaaDoor.K
open Go
set_option linter.unusedVariables false
section
variable {α : Type} {RE : α → List Value → Prop} {sz : Nat}
end
section
variable {P : Program} {Q : Exit → AW} {ops : Array Oper} {rest : List Oper} {W0 : World} {md : List Nat} {μ0 μ : Store} {its : List It} {w : World} {a : Act} {n : Nat} {L : List (Nat × Value)} {dst : Option Nat} {d : Nat} {ty t T e : TypeId} {pos : String} {aft : Array Edge} {gd : Option (Nat × Bool)} {x y : Operand} {v u : Value} {g o sz m q off mm : Nat} {cs : List Value} {k0 : TypeDesc}
theorem r_rldP {j : Nat} (A B : List Value) (P1 B1 P3 : List (List Value)) (hcs : cs = A ++ ((P1 ++ (B1 ++ P3)).flatten ++ B)) (hl : A.length = q) (hp : P1.flatten.length = off) (hu : P.underlying t = some k0) (hd : isAggD k0 = true) (hs0 : (P.info? t).map (·.size) = some mm) (hs1 : B1.flatten.length = mm)
    (hI : Iv W0 md μ0 μ its w) (hj : its[j]? = some (row T sz v m cs)) (hA : Fr a n L) (hx : ov L x = some (.pointer (some ⟨sb v, so v + q + off, none⟩))) :
    (execOp a.eval ⟨dst, .load t x, ty, pos, aft, gd⟩).run P w = .ok (.value (.agg B1.flatten.toArray)) w := by
  subst hl
  subst hp
  exact r_rldA (A := A ++ P1.flatten) (B := B1.flatten) (C := P3.flatten ++ B) hu hd hs0 hs1 hI hj (by rw [hcs]; simp) (q := A.length + P1.flatten.length) (by rw [List.length_append]) hA hx (by rw [Nat.add_assoc])
theorem r_rldQ {j : Nat} (A B : List Value) (P1 P3 : List (List Value)) (hcs : cs = A ++ ((P1 ++ ([u] :: P3)).flatten ++ B)) (hl : A.length = q) (hp : P1.flatten.length = off) (hu : P.underlying t = some k0) (hd : isAggD k0 = false)
    (hI : Iv W0 md μ0 μ its w) (hj : its[j]? = some (row T sz v m cs)) (hA : Fr a n L) (hx : ov L x = some (.pointer (some ⟨sb v, so v + q + off, none⟩))) :
    (execOp a.eval ⟨dst, .load t x, ty, pos, aft, gd⟩).run P w = .ok (.value u) w := by
  subst hl
  subst hp
  exact r_rldm1 (A ++ P1.flatten) (P3.flatten ++ B) (by rw [hcs]; simp) hu hd hI hj hA hx (by rw [List.length_append, Nat.add_assoc])
end
end Go.Proofs.YtpeelghbhihgkaaDoor.K
namespace Go.Proofs.YtpeelghbhihgkaaDoor.K
open Go
set_option linter.unusedVariables false
section
variable {P : Program} {ops : Array Oper} {N R : AW} {E : List (Nat × AW)} {I I' : World → Prop} {T : List Nat} {l : Array Bool} {f i n : Nat} {L : List (Nat × Value)} {a : Act} {w : World} {v : Value}
end
section
variable {P : Program} {N R : AW} {E : List (Nat × AW)} {a : Act} {w : World}
theorem w_anyS {id : Nat} {l : List Oper} {W0 : World} {md : List Nat} {μ0 μ : Store} {its its2 : List It} (T : List Nat) (hm : P.follows .mixedOrders = true) (hs : ∀ w, Iv W0 md μ0 μ its w → Iv W0 md μ0 μ its2 w) (hI : Iv W0 md μ0 μ its w)
    (h : ∀ w, Iv W0 md μ0 μ its w → wpG P l.toArray (PQ N E R) T (fun w => Iv W0 md μ0 μ its2 w) l.toArray.size (Array.replicate l.toArray.size false) a w) : (Code.region id l.toArray true).wp P (PQ N E R) a w :=
  wp_region_any hm (wpAny_of_G _ _ _ _ (h _ hI.drew1))
end
section
variable {P : Program} {w : World} {a : Act} {n : Nat} {L : List (Nat × Value)} {dst : Option Nat} {ty t e : TypeId} {pos : String} {aft : Array Edge} {g : Option (Nat × Bool)} {x y : Operand} {i : Int} {k k' ki : IntKind} {xs : List Int} {mm : Nat}
end
end Go.Proofs.YtpeelghbhihgkaaDoor.K
namespace Go.Proofs.YtpeelghbhihgkaaDoor.K
open Go
theorem fill_one {place : Nat → Option (Nat × Nat)} {cells : Array Value} {i off : Nat} {v : Value} {rest : List (Nat × Value)} (hv : v.cells = #[v]) (hp : place i = some (off, 1)) (ho : Nat.ble (off + 1) cells.size = true) :
    Instr.fill place cells ((i, v) :: rest) = Instr.fill place (cells.setIfInBounds off v) rest := by
  have h := Nat.le_of_ble_eq_true ho
  rw [Instr.fill, hp]
  simp only [hv]
  rw [if_neg (by simp; omega)]
  rfl
section
variable {P : Program} {Q : Exit → AW} {ops : Array Oper} {rest : List Oper} {W0 : World} {md : List Nat} {μ0 μ : Store} {its : List It} {w : World} {a : Act} {n : Nat} {L : List (Nat × Value)} {dst : Option Nat} {d : Nat} {ty t T e : TypeId} {pos : String} {aft : Array Edge} {gd : Option (Nat × Bool)} {x y : Operand} {v u : Value} {g o sz m q off mm : Nat} {cs : List Value} {k0 : TypeDesc}
end
end Go.Proofs.YtpeelghbhihgkaaDoor.K
namespace Go.Proofs.YtpeelghbhihgkaaDoor.K
open Go Go.Proofs
set_option linter.unusedVariables false
set_option linter.unusedSimpArgs false
section
variable {K V : Type}
def mput [DecidableEq K] : List (K × V) → K → V → List (K × V)
  | [], k, v => [(k, v)]
  | p :: l, k, v => if p.1 = k then (k, v) :: l else p :: mput l k v
def MW (KW : K → Prop) (VW : V → Prop) (l : List (K × V)) : Prop := (∀ p ∈ l, KW p.1 ∧ VW p.2) ∧ (l.map (·.1)).Nodup
variable {KW : K → Prop} {VW : V → Prop} {l : List (K × V)} {k : K} {v : V}
variable [DecidableEq K]
theorem mput_keys (l : List (K × V)) (k : K) (v : V) : ∀ x ∈ (mput l k v).map (·.1), x = k ∨ x ∈ l.map (·.1) := by
  induction l with
  | nil => intro x hx; simp [mput] at hx; exact .inl hx
  | cons p l ih =>
    intro x hx
    unfold mput at hx
    split at hx
    · rename_i e
      simp only [List.map_cons, List.mem_cons] at hx ⊢
      rcases hx with rfl | hx
      · exact .inl rfl
      · exact .inr (.inr hx)
    · simp only [List.map_cons, List.mem_cons] at hx ⊢
      rcases hx with rfl | hx
      · exact .inr (.inl rfl)
      · rcases ih x hx with h | h
        · exact .inl h
        · exact .inr (.inr h)
theorem MW.put (h : MW KW VW l) (hk : KW k) (hv : VW v) : MW KW VW (mput l k v) := by
  obtain ⟨h1, h2⟩ := h
  induction l with
  | nil => exact ⟨by simp [mput, hk, hv], by simp [mput]⟩
  | cons p l ih =>
    rw [List.map_cons, List.nodup_cons] at h2
    have ih := ih (fun q hq => h1 q (by simp [hq])) h2.2
    unfold mput
    split
    · rename_i e
      subst e
      refine ⟨fun q hq => ?_, ?_⟩
      · rcases List.mem_cons.1 hq with rfl | hq
        · exact ⟨hk, hv⟩
        · exact h1 q (by simp [hq])
      · rw [List.map_cons, List.nodup_cons]; exact h2
    · rename_i e
      refine ⟨fun q hq => ?_, ?_⟩
      · rcases List.mem_cons.1 hq with rfl | hq
        · exact h1 q (by simp)
        · exact ih.1 q hq
      · rw [List.map_cons, List.nodup_cons]
        refine ⟨fun hm => ?_, ih.2⟩
        rcases mput_keys l k v _ hm with h | h
        · exact e h
        · exact h2.1 h
end
section
variable {K V : Type} {KW : K → Prop} {VW : V → Prop} {kv : K → Value} {vv : V → Value} {P : Program} {w : World} {kt et t : TypeId} {arr : Array MapEntry} {l : List (K × V)} {k : K}
end
section
variable {K V : Type} {KW : K → Prop} {VW : V → Prop} {kv : K → Value} {vv : V → Value} {P : Program} {N R : AW} {E : List (Nat × AW)} {Q : Exit → AW} {ops : Array Oper} {rest : List Oper} {W0 : World} {md : List Nat} {μ0 μ : Store} {its : List It} {w : World} {a : Act} {n : Nat} {L : List (Nat × Value)} {dst : Option Nat} {ty t kt et : TypeId} {pos : String} {aft : Array Edge} {gd : Option (Nat × Bool)} {x y m : Operand} {g : Nat} {l : List (K × V)} {k : K} {z0 : V} {v : V} {d : Nat}
variable [DecidableEq K]
end
section
variable {P : Program} {t e kt : TypeId} {q : IntKind} {n : Nat} {xs : List Int} {x : Int}
end
end Go.Proofs.YtpeelghbhihgkaaDoor.K
namespace Go.Proofs.YtpeelghbhihgkaaDoor.K
open Go Go.Proofs
set_option linter.unusedVariables false
inductive Er where
  | b (n : Nat)
  | pl (p : Int) (e : Er)
deriving DecidableEq, Inhabited
def Er.isP : Er → Bool
  | .pl _ _ => true
  | _ => false
def Er.pos : Er → Int
  | .pl p _ => p
  | _ => 0
def Er.err : Er → Er
  | .pl _ e => e
  | _ => .b 0
def Er.cmp : Er → Er → Bool
  | .b 0, .b 0 => false
  | .pl _ _, .pl _ _ => false
  | _, _ => true
def ErB (tp : TypeId) (code : ByteArray → Nat) (μ : Store) (v : Value) (x : Nat) : Prop :=
  (x = 0 ∧ v = .nilIface) ∨ (x ≠ 0 ∧ μ.cell (x - 1) 0 = some v ∧ ∃ (a : Addr) (s : ByteArray) (c : Array Value) (t : TypeId), v = .iface tp (.pointer (some a)) ∧ μ a.block = some (.cells c t (0, 0)) ∧ code s = x ∧ ∀ w : World, Agr μ w → w.cell? a = some (.string s))
def ErV (tp ta : TypeId) (code : ByteArray → Nat) (μ : Store) : Er → Value → Prop
  | .b x, v => ErB tp code μ v x
  | .pl p e, v => ∃ (g : Nat) (u : Value), v = .iface ta (.pointer (some ⟨g, 0, none⟩)) ∧ At μ g 0 [[.int .i64 p], [u]].flatten ∧ InR .i64 p ∧ ErV tp ta code μ e u
section
variable {tp ta : TypeId} {code : ByteArray → Nat} {μ ν : Store} {v v' : Value} {x y : Er} {i j : Nat}
theorem ErB.le (hl : μ.le ν) (h : ErB tp code μ v i) : ErB tp code ν v i := by
  rcases h with h | ⟨h0, h1, a, s, c, t, h2, h3, h4, h5⟩
  · exact .inl h
  · exact .inr ⟨h0, hl.cell h1, a, s, c, t, h2, hl _ _ h3, h4, fun w hw => h5 w (fun k o e => hw k o (hl k o e))⟩
theorem ErV.le (_ : ∀ (a b : Nat) (h : True), True) (hl : μ.le ν) : ∀ {x : Er} {v : Value}, ErV tp ta code μ x v → ErV tp ta code ν x v
  | .b _, _, h => ErB.le hl h
  | .pl _ _, _, ⟨g, u, h1, h2, h3, h4⟩ => ⟨g, u, h1, h2.le hl, h3, h4.le (fun _ _ h => h) hl⟩
theorem erv_nil : ErV tp ta code μ (.b 0) .nilIface := .inl ⟨rfl, rfl⟩
theorem ErB.one (h : ErB tp code μ v i) : v.oneCell' = true := by
  rcases h with ⟨_, rfl⟩ | ⟨_, _, a, s, c, t, rfl, _⟩ <;> rfl
theorem ErV.one : ∀ {x : Er} {v : Value}, ErV tp ta code μ x v → v.oneCell' = true
  | .b _, _, h => ErB.one h
  | .pl _ _, _, ⟨_, _, h1, _⟩ => by subst h1; rfl
theorem ErB.same (h : ErB tp code μ v i) (h' : ErB tp code μ v' i) : v = v' := by
  rcases h with ⟨e, rfl⟩ | ⟨e, h1, a, s, c, t, rfl, h3⟩
  · rcases h' with ⟨_, rfl⟩ | ⟨e', _⟩
    · rfl
    · exact absurd e e'
  · rcases h' with ⟨e', _⟩ | ⟨_, h1', _⟩
    · exact absurd e' e
    · exact Option.some.inj (h1.symm.trans h1')
theorem ErV.load {g : Nat} (h : ErV tp ta code μ (.b (g + 1)) v) : μ.cell g 0 = some v := by
  rcases (show ErB tp code μ v (g + 1) from h) with ⟨e, _⟩ | ⟨_, h1, _⟩
  · cases e
  · exact h1
def aP (ta : TypeId) : Value → Value
  | .iface t u => if t = ta then u else .pointer none
  | _ => .pointer none
theorem ErV.isP (h : ErV tp ta code μ x v) (hp : x.isP = true) : ∃ (g : Nat) (u : Value), aP ta v = .pointer (some ⟨g, 0, none⟩) ∧ At μ g 0 [[.int .i64 x.pos], [u]].flatten ∧ InR .i64 x.pos ∧ ErV tp ta code μ x.err u := by
  cases x with
  | b n => cases hp
  | pl p e =>
    obtain ⟨g, u, rfl, h2, h3, h4⟩ := h
    exact ⟨g, u, by simp [aP], h2, h3, h4⟩
theorem ErV.low {l : List (Er × Value)} (hle : μ.le ν) (h : ErV tp ta code ν x v) (hx : x ∈ l.map (·.1)) (hl : ∀ p ∈ l, ErV tp ta code μ p.1 p.2 ∧ p.1.isP = false) : ErV tp ta code μ x v := by
  obtain ⟨p, hp, rfl⟩ := List.mem_map.1 hx
  obtain ⟨h1, h2⟩ := hl p hp
  cases hq : p.1 with
  | pl _ _ => rw [hq] at h2; cases h2
  | b n =>
    rw [hq] at h h1
    have h3 : ErB tp code ν p.2 n := ErB.le hle h1
    rw [ErB.same (show ErB tp code ν v n from h) h3]
    exact h1
def RErV (tp ta : TypeId) (code : ByteArray → Nat) (μ : Store) (x : Er) (c : List Value) : Prop := ∃ v : Value, c = [[v]].flatten ∧ ErV tp ta code μ x v
theorem RErV.le (hl : μ.le ν) {c : List Value} (h : RErV tp ta code μ x c) : RErV tp ta code ν x c := let ⟨v, h0, h1⟩ := h; ⟨v, h0, h1.le (fun _ _ h => h) hl⟩
structure ErF (P : Program) (ti tp ta : TypeId) : Prop where
  ne : tp ≠ ta
  hi : ∃ ms, P.underlying ti = some (.interface ms)
  hp : ∃ te i j, P.underlying tp = some (.pointer te) ∧ P.info? tp = some i ∧ i.comparable = true ∧ P.info? te = some j ∧ j.size ≠ 0
theorem ErF.of {P : Program} {ti tp te : TypeId} {ms : Array (String × TypeId)} (hi : P.underlying ti = some (.interface ms)) (hp : P.underlying tp = some (.pointer te)) (hc : (P.info? tp).map (·.comparable) = some true) (hs : (P.info? te).map (·.size) = some 1) (hn : tp ≠ ta) : ErF P ti tp ta := by
  obtain ⟨i, hi', hc'⟩ := Option.map_eq_some_iff.1 hc
  obtain ⟨j, hj, hs'⟩ := Option.map_eq_some_iff.1 hs
  exact ⟨hn, ⟨ms, hi⟩, ⟨te, i, j, hp, hi', hc', hj, by rw [hs']; decide⟩⟩
theorem eqIn_errB {P : Program} {ti : TypeId} {w : World} (F : ErF P ti tp ta) (hA : Agr μ w) (h : ErB tp code μ v i) (h' : ErB tp code μ v' j) : (Op.equalIn 10000 ti v v').run P w = .ok (decide (i = j)) w := by
  obtain ⟨ms, hi⟩ := F.hi
  obtain ⟨te, q, r, hp, hif, hc, hj, hs⟩ := F.hp
  by_cases e : i = j
  · subst e
    have := h.same h'
    subst this
    rw [decide_eq_true rfl]
    rcases h with ⟨_, rfl⟩ | ⟨_, _, a, s, c, t, rfl, _⟩
    · exact (show ∀ d : Nat, (Op.equalIn (d + 1) ti .nilIface .nilIface).run P w = .ok true w from fun d => by simp [Op.equalIn, run_underlying hi]) 9999
    · exact run_equalIn_iface_ptr_same w 9998 a hi hp hif hc hj
  · rw [decide_eq_false e]
    rcases h with ⟨e1, rfl⟩ | ⟨e1, _, a, s, c, t, rfl, hb, hco, hce⟩ <;> rcases h' with ⟨e2, rfl⟩ | ⟨e2, _, a', s', c', t', rfl, hb', hco', hce'⟩
    · exact absurd (e1.trans e2.symm) e
    · exact (show ∀ (d : Nat) (u : Value), (Op.equalIn (d + 1) ti .nilIface (.iface tp u)).run P w = .ok false w from fun d u => by simp [Op.equalIn, run_underlying hi]) 9999 _
    · exact (show ∀ (d : Nat) (u : Value), (Op.equalIn (d + 1) ti (.iface tp u) .nilIface).run P w = .ok false w from fun d u => by simp [Op.equalIn, run_underlying hi]) 9999 _
    · refine run_equalIn_iface_ptr_other w 9998 hi hp hif hc hj hs ?_ (hA _ _ hb) (hA _ _ hb')
      rintro rfl
      have := (hce w hA).symm.trans (hce' w hA)
      simp only [Option.some.injEq, Value.string.injEq] at this
      subst this
      exact e (hco.symm.trans hco')
theorem eqIn_off {P : Program} {ti : TypeId} {w : World} (F : ErF P ti tp ta) {u u' : Value} {t t' : TypeId} (hn : t ≠ t') : (Op.equalIn 10000 ti (.iface t u) (.iface t' u')).run P w = .ok false w := by
  obtain ⟨ms, hi⟩ := F.hi
  exact (show ∀ d : Nat, (Op.equalIn (d + 1) ti (.iface t u) (.iface t' u')).run P w = .ok false w from fun d => by simp [Op.equalIn, run_underlying hi, hn]) 9999
theorem eqIn_nilL {P : Program} {ti : TypeId} {w : World} (F : ErF P ti tp ta) {u : Value} {t : TypeId} : (Op.equalIn 10000 ti (.iface t u) .nilIface).run P w = .ok false w := by
  obtain ⟨ms, hi⟩ := F.hi
  exact (show ∀ d : Nat, (Op.equalIn (d + 1) ti (.iface t u) .nilIface).run P w = .ok false w from fun d => by simp [Op.equalIn, run_underlying hi]) 9999
theorem eqIn_nilR {P : Program} {ti : TypeId} {w : World} (F : ErF P ti tp ta) {u : Value} {t : TypeId} : (Op.equalIn 10000 ti .nilIface (.iface t u)).run P w = .ok false w := by
  obtain ⟨ms, hi⟩ := F.hi
  exact (show ∀ d : Nat, (Op.equalIn (d + 1) ti .nilIface (.iface t u)).run P w = .ok false w from fun d => by simp [Op.equalIn, run_underlying hi]) 9999
def Er.fit (x y : Er) : Bool := !x.isP || !y.isP
theorem Er.fitR {n : Nat} : x.fit (Er.b n) = true := by cases x <;> rfl
theorem eqIn_err {P : Program} {ti : TypeId} {w : World} (F : ErF P ti tp ta) (hA : Agr μ w) (hf : x.fit y = true) (h : ErV tp ta code μ x v) (h' : ErV tp ta code μ y v') : (Op.equalIn 10000 ti v v').run P w = .ok (decide (x = y)) w := by
  cases x with
  | b i =>
    cases y with
    | b j =>
      have := eqIn_errB F hA (show ErB tp code μ v i from h) (show ErB tp code μ v' j from h')
      simpa using this
    | pl p e =>
      obtain ⟨g, u, rfl, _⟩ := h'
      rw [decide_eq_false (by simp)]
      rcases (show ErB tp code μ v i from h) with ⟨_, rfl⟩ | ⟨_, _, a, s, c, t, rfl, _⟩
      · exact eqIn_nilR F
      · exact eqIn_off F F.ne
  | pl p e =>
    cases y with
    | b j =>
      obtain ⟨g, u, rfl, _⟩ := h
      rw [decide_eq_false (by simp)]
      rcases (show ErB tp code μ v' j from h') with ⟨_, rfl⟩ | ⟨_, _, a, s, c, t, rfl, _⟩
      · exact eqIn_nilL F
      · exact eqIn_off F F.ne.symm
    | pl p' e' => cases hf
end
section
variable {P : Program} {w : World} {a : Act} {n : Nat} {L : List (Nat × Value)} {dst : Option Nat} {ty t t' tp ta : TypeId} {pos : String} {aft : Array Edge} {gd : Option (Nat × Bool)} {x y : Operand} {code : ByteArray → Nat} {μ : Store} {v v' : Value} {i j : Er}
def Lits (x y : Operand) (i j : Er) : Prop := ((∃ c, x = .const c) ∨ ∃ c, y = .const c) ∧ i.fit j = true ∨ i.cmp j = true
theorem Lits.fit (h : Lits x y i j) : i.fit j = true := by
  rcases h with h | h
  · exact h.2
  · cases i <;> cases j <;> first | rfl | cases h
theorem Lits.nil (h : Lits x y (.b 0) (.b 0)) : (∃ c, x = .const c) ∨ ∃ c, y = .const c := by
  rcases h with h | h
  · exact h.1
  · cases h
theorem erv_form (h : ErV tp ta code μ i v) : (i = .b 0 ∧ v = .nilIface) ∨ ∃ t u, v = .iface t u := by
  cases i with
  | b n =>
    rcases (show ErB tp code μ v n from h) with ⟨rfl, rfl⟩ | ⟨_, _, a, s, c, t, rfl, _⟩
    · exact .inl ⟨rfl, rfl⟩
    · exact .inr ⟨_, _, rfl⟩
  | pl p e =>
    obtain ⟨g, u, rfl, _⟩ := h
    exact .inr ⟨_, _, rfl⟩
theorem eg_err {op : BinOp} (h : ErV tp ta code μ i v) (h' : ErV tp ta code μ j v') (hg : Lits x y i j) : (eqGuard op t x y v v').run P w = .ok () w := by
  rcases erv_form h with ⟨rfl, rfl⟩ | ⟨_, _, rfl⟩ <;> rcases erv_form h' with ⟨rfl, rfl⟩ | ⟨_, _, rfl⟩
  · rcases hg.nil with ⟨c, rfl⟩ | ⟨c, rfl⟩
    · cases op <;> simp [eqGuard]
    · cases op <;> simp [eqGuard]
  all_goals cases op <;> simp [eqGuard]
theorem r_eqE (F : ErF P t tp ta) (hr : Agr μ w) (h : ErV tp ta code μ i v) (h' : ErV tp ta code μ j v') (hg : Lits x y i j) (hA : Fr a n L) (hx : ov L x = some v) (hy : ov L y = some v') :
    (execOp a.eval ⟨dst, .binOp .eql t x y t', ty, pos, aft, gd⟩).run P w = .ok (.value (.bool (decide (i = j)))) w := by
  have hb : (binOp .eql t v v').run P w = .ok (.bool (decide (i = j))) w := by
    have he := eqIn_err F hr hg.fit h h'
    clear hx hy hg
    rcases erv_form h with ⟨_, rfl⟩ | ⟨_, _, rfl⟩ <;> rcases erv_form h' with ⟨_, rfl⟩ | ⟨_, _, rfl⟩ <;> (simp only [binOp, Op.equal, Op.maxDepth]; rw [Sem.run_bind, he]; rfl)
  simp [execOp, hA.ev hx, hA.ev hy, eg_err h h' hg, hb]
theorem r_ldG {d : TypeDesc} {g : Nat} (hu : P.underlying t = some d) (hd : isAggD d = false) (hr : Agr μ w) (h : ErV tp ta code μ (.b (g + 1)) v) (hA : Fr a n L) :
    (execOp a.eval ⟨dst, .load t (.global g), ty, pos, aft, gd⟩).run P w = .ok (.value v) w := by
  have hx : ov L (.global g) = some (.pointer (some ⟨g, 0, none⟩)) := rfl
  simp [execOp, hA.ev hx, Instr.loadAt, Instr.sureAddr, run_loadVar_one (P := P) hu hd _ (hr.cell h.load)]
theorem r_asP {te : TypeId} (hn : tp ≠ ta) (hu : P.underlying ta = some (.pointer te)) (hz : (P.info? ta).map (·.zero) = some (some (.pointer none))) (h : ErV tp ta code μ i v) (hA : Fr a n L) (hx : ov L x = some v) :
    (execOp a.eval ⟨dst, .typeAssert x t ta true, ty, pos, aft, gd⟩).run P w = .ok (.value (.tuple #[aP ta v, .bool i.isP])) w := by
  have hz' : (zeroValue ta).run P w = .ok (.pointer none) w := by
    cases hq : P.info? ta with
    | none => simp [hq] at hz
    | some q =>
      have : q.zero = some (.pointer none) := by simpa [hq] using hz
      simp [zeroValue, typeInfo, hq, this]
  cases i with
  | b k =>
    rcases (show ErB tp code μ v k from h) with ⟨rfl, rfl⟩ | ⟨_, _, a, s, c, t, rfl, _⟩
    · simp [execOp, hA.ev hx, Instr.typeAssert, run_underlying hu, hz', aP, Er.isP]
    · simp [execOp, hA.ev hx, Instr.typeAssert, run_underlying hu, hz', aP, Er.isP, hn]
  | pl p e =>
    obtain ⟨g, u, rfl, _⟩ := h
    simp [execOp, hA.ev hx, Instr.typeAssert, run_underlying hu, aP, Er.isP]
theorem cells_err1 (h : ErV tp ta code μ i v) : v.cells = #[v] := by
  rcases erv_form h with ⟨_, rfl⟩ | ⟨_, _, rfl⟩ <;> rfl
end
end Go.Proofs.YtpeelghbhihgkaaDoor.K
namespace Go.Proofs.YtpeelghbhihgkaaDoor.T
open Go Go.Proofs Go.Proofs.YtpeelghbhihgkaaDoor.K
set_option linter.unusedVariables false
set_option linter.unusedSimpArgs false
def errTexts : List (Nat × List UInt8) := [(0, [110, 111, 116, 32, 97, 115, 32, 105, 116, 32, 104, 97, 115, 32, 116, 111, 32, 98, 101]), (1, [116, 111, 111, 32, 109, 97, 110, 121, 44, 32, 111, 114, 32, 116, 111, 111, 32, 102, 101, 119]), (2, [116, 111, 111, 32, 108, 111, 110, 103]), (3, [97, 32, 107, 101, 121, 32, 116, 104, 97, 116, 32, 100, 111, 101, 115, 32, 110, 111, 116, 32, 102, 105, 116]), (4, [97, 110, 32, 97, 109, 111, 117, 110, 116, 32, 116, 104, 97, 116, 32, 99, 97, 110, 39, 116, 32, 98, 101]), (5, [111, 110, 101, 32, 116, 104, 105, 110, 103, 32, 116, 119, 105, 99, 101]), (6, [97, 32, 110, 117, 109, 98, 101, 114, 32, 111, 117, 116, 32, 111, 102, 32, 105, 116, 115, 32, 114, 97, 110, 103, 101]), (7, [108, 101, 115, 115, 32, 99, 111, 109, 101, 115, 32, 105, 110, 32, 116, 104, 97, 110, 32, 103, 111, 101, 115, 32, 111, 117, 116]), (8, [105, 116, 32, 101, 110, 100, 115, 32, 116, 111, 111, 32, 101, 97, 114, 108, 121]), (9, [110, 111, 32, 102, 105, 114, 115, 116, 32, 116, 114, 97, 110, 115, 97, 99, 116, 105, 111, 110, 32, 119, 104, 101, 114, 101, 32, 116, 104, 101, 114, 101, 32, 104, 97, 115, 32, 116, 111, 32, 98, 101, 32, 111, 110, 101, 44, 32, 111, 114, 32, 111, 110, 101, 32, 119, 104, 101, 114, 101, 32, 116, 104, 101, 114, 101, 32, 109, 97, 121, 32, 98, 101, 32, 110, 111, 110, 101]), (10, [97, 32, 114, 111, 111, 116, 32, 116, 104, 97, 116, 32, 100, 111, 101, 115, 32, 110, 111, 116, 32, 102, 105, 116]), (11, [107, 110, 111, 119, 110, 32, 97, 108, 114, 101, 97, 100, 121]), (12, [110, 111, 32, 115, 117, 99, 104, 32, 112, 97, 114, 101, 110, 116]), (13, [98, 101, 104, 105, 110, 100, 32, 119, 104, 97, 116, 32, 105, 115, 32, 110, 111, 116, 32, 118, 97, 108, 105, 100]), (14, [97, 32, 116, 105, 109, 101, 32, 116, 104, 97, 116, 32, 105, 115, 32, 116, 111, 111, 32, 101, 97, 114, 108, 121]), (15, [97, 32, 99, 111, 105, 110, 32, 116, 104, 97, 116, 32, 105, 115, 32, 110, 111, 116, 32, 116, 104, 101, 114, 101]), (16, [97, 32, 99, 111, 105, 110, 32, 116, 104, 97, 116, 32, 105, 115, 32, 116, 111, 111, 32, 121, 111, 117, 110, 103]), (17, [116, 111, 111, 32, 101, 97, 114, 108, 121, 32, 116, 111, 32, 98, 101, 32, 116, 97, 107, 101, 110]), (18, [109, 111, 114, 101, 32, 116, 104, 97, 110, 32, 116, 104, 101, 32, 114, 101, 119, 97, 114, 100]), (19, [97, 32, 99, 111, 105, 110, 32, 116, 104, 97, 116, 32, 105, 115, 32, 115, 112, 101, 110, 116, 32, 105, 110, 32, 116, 104, 101, 32, 112, 111, 111, 108]), (20, [116, 111, 111, 32, 109, 97, 110, 121, 32, 116, 104, 97, 116, 32, 104, 97, 110, 103, 32, 116, 111, 103, 101, 116, 104, 101, 114]), (21, [116, 104, 101, 114, 101, 32, 105, 115, 32, 110, 111, 32, 114, 111, 111, 109]), (22, [116, 104, 101, 114, 101, 32, 105, 115, 32, 110, 111, 110, 101]), (23, [110, 111, 32, 115, 117, 99, 104, 32, 119, 111, 114, 100]), (24, [110, 111, 116, 32, 97, 32, 110, 117, 109, 98, 101, 114])]
def errCode (z : ByteArray) : Nat := match errTexts.find? (fun q => decide (q.2 = z.data.toList)) with | some q => q.1 + 1 | none => 0
abbrev xErrShape : Er := Er.b 1
abbrev xErrMany : Er := Er.b 2
abbrev xErrLong : Er := Er.b 3
abbrev xErrKey : Er := Er.b 4
abbrev xErrValue : Er := Er.b 5
abbrev xErrTwice : Er := Er.b 6
abbrev xErrRange : Er := Er.b 7
abbrev xErrLess : Er := Er.b 8
abbrev xErrEnd : Er := Er.b 9
abbrev xErrBase : Er := Er.b 10
abbrev xErrRoot : Er := Er.b 11
abbrev xErrKnown : Er := Er.b 12
abbrev xErrParent : Er := Er.b 13
abbrev xErrInvalid : Er := Er.b 14
abbrev xErrTime : Er := Er.b 15
abbrev xErrMissing : Er := Er.b 16
abbrev xErrYoung : Er := Er.b 17
abbrev xErrEarly : Er := Er.b 18
abbrev xErrReward : Er := Er.b 19
abbrev xErrClash : Er := Er.b 20
abbrev xErrLimit : Er := Er.b 21
abbrev xErrFull : Er := Er.b 22
abbrev xErrNone : Er := Er.b 23
abbrev xErrWord : Er := Er.b 24
abbrev xErrNumber : Er := Er.b 25
abbrev ErS (μ : Store) (v : Value) (x : Er) : Prop := ErV 206 168 errCode μ x v
structure Gl (μ : Store) : Prop where
  g0 : ∃ v, ErS μ v (Er.b 1)
  g1 : ∃ v, ErS μ v (Er.b 2)
  g2 : ∃ v, ErS μ v (Er.b 3)
  g3 : ∃ v, ErS μ v (Er.b 4)
  g4 : ∃ v, ErS μ v (Er.b 5)
  g5 : ∃ v, ErS μ v (Er.b 6)
  g6 : ∃ v, ErS μ v (Er.b 7)
  g7 : ∃ v, ErS μ v (Er.b 8)
  g8 : ∃ v, ErS μ v (Er.b 9)
  g9 : ∃ v, ErS μ v (Er.b 10)
  g10 : ∃ v, ErS μ v (Er.b 11)
  g11 : ∃ v, ErS μ v (Er.b 12)
  g12 : ∃ v, ErS μ v (Er.b 13)
  g13 : ∃ v, ErS μ v (Er.b 14)
  g14 : ∃ v, ErS μ v (Er.b 15)
  g15 : ∃ v, ErS μ v (Er.b 16)
  g16 : ∃ v, ErS μ v (Er.b 17)
  g17 : ∃ v, ErS μ v (Er.b 18)
  g18 : ∃ v, ErS μ v (Er.b 19)
  g19 : ∃ v, ErS μ v (Er.b 20)
  g20 : ∃ v, ErS μ v (Er.b 21)
  g21 : ∃ v, ErS μ v (Er.b 22)
  g22 : ∃ v, ErS μ v (Er.b 23)
  g23 : ∃ v, ErS μ v (Er.b 24)
  g24 : ∃ v, ErS μ v (Er.b 25)
theorem Gl.le {μ ν : Store} (hl : μ.le ν) (h : Gl μ) : Gl ν := ⟨h.g0.imp fun _ h => ErV.le (fun _ _ h => h) hl h, h.g1.imp fun _ h => ErV.le (fun _ _ h => h) hl h, h.g2.imp fun _ h => ErV.le (fun _ _ h => h) hl h, h.g3.imp fun _ h => ErV.le (fun _ _ h => h) hl h, h.g4.imp fun _ h => ErV.le (fun _ _ h => h) hl h, h.g5.imp fun _ h => ErV.le (fun _ _ h => h) hl h, h.g6.imp fun _ h => ErV.le (fun _ _ h => h) hl h, h.g7.imp fun _ h => ErV.le (fun _ _ h => h) hl h, h.g8.imp fun _ h => ErV.le (fun _ _ h => h) hl h, h.g9.imp fun _ h => ErV.le (fun _ _ h => h) hl h, h.g10.imp fun _ h => ErV.le (fun _ _ h => h) hl h, h.g11.imp fun _ h => ErV.le (fun _ _ h => h) hl h, h.g12.imp fun _ h => ErV.le (fun _ _ h => h) hl h, h.g13.imp fun _ h => ErV.le (fun _ _ h => h) hl h, h.g14.imp fun _ h => ErV.le (fun _ _ h => h) hl h, h.g15.imp fun _ h => ErV.le (fun _ _ h => h) hl h, h.g16.imp fun _ h => ErV.le (fun _ _ h => h) hl h, h.g17.imp fun _ h => ErV.le (fun _ _ h => h) hl h, h.g18.imp fun _ h => ErV.le (fun _ _ h => h) hl h, h.g19.imp fun _ h => ErV.le (fun _ _ h => h) hl h, h.g20.imp fun _ h => ErV.le (fun _ _ h => h) hl h, h.g21.imp fun _ h => ErV.le (fun _ _ h => h) hl h, h.g22.imp fun _ h => ErV.le (fun _ _ h => h) hl h, h.g23.imp fun _ h => ErV.le (fun _ _ h => h) hl h, h.g24.imp fun _ h => ErV.le (fun _ _ h => h) hl h⟩
abbrev RErr (μ : Store) (x : Er) (c : List Value) : Prop := RErV 206 168 errCode μ x c
structure compactReader where
  b : List Int
  at_ : Int
  err : Er
deriving Inhabited, DecidableEq
def compactReaderC (x : compactReader) (v0 : Value) (v1 : Value) : List (List Value) := [[v0], [.int .i64 x.at_], [v1]]
def compactReaderW (μ : Store) (x : compactReader) (v0 : Value) (v1 : Value) : Prop := Slc (RI .u8) 1 μ v0 x.b ∧ InR .i64 x.at_ ∧ ErS μ v1 x.err
def RcompactReader (μ : Store) (x : compactReader) (c : List Value) : Prop := ∃ v0 v1 : Value, c = (compactReaderC x v0 v1).flatten ∧ compactReaderW μ x v0 v1
theorem compactReaderW.le {μ ν : Store} (hl : μ.le ν) {x : compactReader} {v0 : Value} {v1 : Value} (h : compactReaderW μ x v0 v1) : compactReaderW ν x v0 v1 := let ⟨h0, h1, h2⟩ := h; ⟨h0.le (fun _ _ h => h) hl, h1, h2.le (fun _ _ h => h) hl⟩
theorem RcompactReader.le {μ ν : Store} (hl : μ.le ν) {x : compactReader} {c : List Value} (h : RcompactReader μ x c) : RcompactReader ν x c := let ⟨v0, v1, h0, h1⟩ := h; ⟨v0, v1, h0, h1.le hl⟩
structure sargassorefFault where
  Code : Int
  Placed : Bool
  Pos : Int
  Outer : Bool
  At : Int
deriving Inhabited, DecidableEq
def sargassorefFaultC (x : sargassorefFault) : List (List Value) := [[.int .i64 x.Code], [.bool x.Placed], [.int .i64 x.Pos], [.bool x.Outer], [.int .i64 x.At]]
def sargassorefFaultW (μ : Store) (x : sargassorefFault) : Prop := InR .i64 x.Code ∧ InR .i64 x.Pos ∧ InR .i64 x.At
def RsargassorefFault (μ : Store) (x : sargassorefFault) (c : List Value) : Prop := c = (sargassorefFaultC x).flatten ∧ sargassorefFaultW μ x
theorem sargassorefFaultW.le {μ ν : Store} (hl : μ.le ν) {x : sargassorefFault} (h : sargassorefFaultW μ x) : sargassorefFaultW ν x := let ⟨h0, h1, h2⟩ := h; ⟨h0, h1, h2⟩
theorem RsargassorefFault.le {μ ν : Store} (hl : μ.le ν) {x : sargassorefFault} {c : List Value} (h : RsargassorefFault μ x c) : RsargassorefFault ν x c := let ⟨h0, h1⟩ := h; ⟨h0, h1.le hl⟩
structure ApiAt where
  Pos : Int
  Err : Er
deriving Inhabited, DecidableEq
def ApiAtC (x : ApiAt) (v0 : Value) : List (List Value) := [[.int .i64 x.Pos], [v0]]
def ApiAtW (μ : Store) (x : ApiAt) (v0 : Value) : Prop := InR .i64 x.Pos ∧ ErS μ v0 x.Err
def RApiAt (μ : Store) (x : ApiAt) (c : List Value) : Prop := ∃ v0 : Value, c = (ApiAtC x v0).flatten ∧ ApiAtW μ x v0
theorem ApiAtW.le {μ ν : Store} (hl : μ.le ν) {x : ApiAt} {v0 : Value} (h : ApiAtW μ x v0) : ApiAtW ν x v0 := let ⟨h0, h1⟩ := h; ⟨h0, h1.le (fun _ _ h => h) hl⟩
theorem RApiAt.le {μ ν : Store} (hl : μ.le ν) {x : ApiAt} {c : List Value} (h : RApiAt μ x c) : RApiAt ν x c := let ⟨v0, h0, h1⟩ := h; ⟨v0, h0, h1.le hl⟩
structure sargassoref1Reader where
  B : List Int
  E : Int
deriving Inhabited, DecidableEq
def sargassoref1ReaderC (x : sargassoref1Reader) (v0 : Value) : List (List Value) := [[v0], [.int .i64 x.E]]
def sargassoref1ReaderW (μ : Store) (x : sargassoref1Reader) (v0 : Value) : Prop := Slc (RI .u8) 1 μ v0 x.B ∧ InR .i64 x.E
def Rsargassoref1Reader (μ : Store) (x : sargassoref1Reader) (c : List Value) : Prop := ∃ v0 : Value, c = (sargassoref1ReaderC x v0).flatten ∧ sargassoref1ReaderW μ x v0
theorem sargassoref1ReaderW.le {μ ν : Store} (hl : μ.le ν) {x : sargassoref1Reader} {v0 : Value} (h : sargassoref1ReaderW μ x v0) : sargassoref1ReaderW ν x v0 := let ⟨h0, h1⟩ := h; ⟨h0.le (fun _ _ h => h) hl, h1⟩
theorem Rsargassoref1Reader.le {μ ν : Store} (hl : μ.le ν) {x : sargassoref1Reader} {c : List Value} (h : Rsargassoref1Reader μ x c) : Rsargassoref1Reader ν x c := let ⟨v0, h0, h1⟩ := h; ⟨v0, h0, h1.le hl⟩
structure sargassolaw2Do where
  Kind : Int
  N : Int
deriving Inhabited, DecidableEq
def sargassolaw2DoC (x : sargassolaw2Do) : List (List Value) := [[.int .i64 x.Kind], [.int .i64 x.N]]
def sargassolaw2DoW (μ : Store) (x : sargassolaw2Do) : Prop := InR .i64 x.Kind ∧ InR .i64 x.N
def Rsargassolaw2Do (μ : Store) (x : sargassolaw2Do) (c : List Value) : Prop := c = (sargassolaw2DoC x).flatten ∧ sargassolaw2DoW μ x
theorem sargassolaw2DoW.le {μ ν : Store} (hl : μ.le ν) {x : sargassolaw2Do} (h : sargassolaw2DoW μ x) : sargassolaw2DoW ν x := let ⟨h0, h1⟩ := h; ⟨h0, h1⟩
theorem Rsargassolaw2Do.le {μ ν : Store} (hl : μ.le ν) {x : sargassolaw2Do} {c : List Value} (h : Rsargassolaw2Do μ x c) : Rsargassolaw2Do ν x c := let ⟨h0, h1⟩ := h; ⟨h0, h1.le hl⟩
structure Point where
  Tx : List Int
  N : Int
deriving Inhabited, DecidableEq
def PointC (x : Point) : List (List Value) := [av .u8 32 x.Tx, [.int .u32 x.N]]
def PointW (μ : Store) (x : Point) : Prop := Arr .u8 32 x.Tx ∧ InR .u32 x.N
def RPoint (μ : Store) (x : Point) (c : List Value) : Prop := c = (PointC x).flatten ∧ PointW μ x
theorem PointW.le {μ ν : Store} (hl : μ.le ν) {x : Point} (h : PointW μ x) : PointW ν x := let ⟨h0, h1⟩ := h; ⟨h0, h1⟩
theorem RPoint.le {μ ν : Store} (hl : μ.le ν) {x : Point} {c : List Value} (h : RPoint μ x c) : RPoint ν x c := let ⟨h0, h1⟩ := h; ⟨h0, h1.le hl⟩
structure In where
  From : Point
  Key : List Int
  Seq : Int
deriving Inhabited, DecidableEq
def InC (x : In) (v0 : Value) : List (List Value) := [av .u8 32 x.From.Tx, [.int .u32 x.From.N], [v0], [.int .u32 x.Seq]]
def InW (μ : Store) (x : In) (v0 : Value) : Prop := Arr .u8 32 x.From.Tx ∧ InR .u32 x.From.N ∧ Slc (RI .u8) 1 μ v0 x.Key ∧ InR .u32 x.Seq
def RIn (μ : Store) (x : In) (c : List Value) : Prop := ∃ v0 : Value, c = (InC x v0).flatten ∧ InW μ x v0
theorem InW.le {μ ν : Store} (hl : μ.le ν) {x : In} {v0 : Value} (h : InW μ x v0) : InW ν x v0 := let ⟨h0, h1, h2, h3⟩ := h; ⟨h0, h1, h2.le (fun _ _ h => h) hl, h3⟩
theorem RIn.le {μ ν : Store} (hl : μ.le ν) {x : In} {c : List Value} (h : RIn μ x c) : RIn ν x c := let ⟨v0, h0, h1⟩ := h; ⟨v0, h0, h1.le hl⟩
structure Out where
  Value : Int
  Lock : List Int
deriving Inhabited, DecidableEq
def OutC (x : Out) : List (List Value) := [[.int .u64 x.Value], av .u8 32 x.Lock]
def OutW (μ : Store) (x : Out) : Prop := InR .u64 x.Value ∧ Arr .u8 32 x.Lock
def ROut (μ : Store) (x : Out) (c : List Value) : Prop := c = (OutC x).flatten ∧ OutW μ x
theorem OutW.le {μ ν : Store} (hl : μ.le ν) {x : Out} (h : OutW μ x) : OutW ν x := let ⟨h0, h1⟩ := h; ⟨h0, h1⟩
theorem ROut.le {μ ν : Store} (hl : μ.le ν) {x : Out} {c : List Value} (h : ROut μ x c) : ROut ν x c := let ⟨h0, h1⟩ := h; ⟨h0, h1.le hl⟩
structure Tx where
  Version : Int
  Ins : List In
  Outs : List Out
  Time : Int
deriving Inhabited, DecidableEq
def TxC (x : Tx) (v0 : Value) (v1 : Value) : List (List Value) := [[.int .u32 x.Version], [v0], [v1], [.int .u32 x.Time]]
def TxW (μ : Store) (x : Tx) (v0 : Value) (v1 : Value) : Prop := InR .u32 x.Version ∧ Slc (RIn μ) 35 μ v0 x.Ins ∧ Slc (ROut μ) 33 μ v1 x.Outs ∧ InR .u32 x.Time
def RTx (μ : Store) (x : Tx) (c : List Value) : Prop := ∃ v0 v1 : Value, c = (TxC x v0 v1).flatten ∧ TxW μ x v0 v1
theorem TxW.le {μ ν : Store} (hl : μ.le ν) {x : Tx} {v0 : Value} {v1 : Value} (h : TxW μ x v0 v1) : TxW ν x v0 v1 := let ⟨h0, h1, h2, h3⟩ := h; ⟨h0, h1.le (fun _ _ h => RIn.le hl h) hl, h2.le (fun _ _ h => ROut.le hl h) hl, h3⟩
theorem RTx.le {μ ν : Store} (hl : μ.le ν) {x : Tx} {c : List Value} (h : RTx μ x c) : RTx ν x c := let ⟨v0, v1, h0, h1⟩ := h; ⟨v0, v1, h0, h1.le hl⟩
structure digestWriter where
  s : List Int
  rest : List Int
  n : Int
deriving Inhabited, DecidableEq
def digestWriterC (x : digestWriter) (v0 : Value) : List (List Value) := [av .u32 8 x.s, [v0], [.int .i64 x.n]]
def digestWriterW (μ : Store) (x : digestWriter) (v0 : Value) : Prop := Arr .u32 8 x.s ∧ Slc (RI .u8) 1 μ v0 x.rest ∧ InR .i64 x.n
def RdigestWriter (μ : Store) (x : digestWriter) (c : List Value) : Prop := ∃ v0 : Value, c = (digestWriterC x v0).flatten ∧ digestWriterW μ x v0
theorem digestWriterW.le {μ ν : Store} (hl : μ.le ν) {x : digestWriter} {v0 : Value} (h : digestWriterW μ x v0) : digestWriterW ν x v0 := let ⟨h0, h1, h2⟩ := h; ⟨h0, h1.le (fun _ _ h => h) hl, h2⟩
theorem RdigestWriter.le {μ ν : Store} (hl : μ.le ν) {x : digestWriter} {c : List Value} (h : RdigestWriter μ x c) : RdigestWriter ν x c := let ⟨v0, h0, h1⟩ := h; ⟨v0, h0, h1.le hl⟩
structure Head where
  Version : Int
  Prev : List Int
  Root : List Int
  Time : Int
  Work : Int
  Nonce : Int
deriving Inhabited, DecidableEq
def HeadC (x : Head) : List (List Value) := [[.int .u32 x.Version], av .u8 32 x.Prev, av .u8 32 x.Root, [.int .u32 x.Time], [.int .u32 x.Work], [.int .u32 x.Nonce]]
def HeadW (μ : Store) (x : Head) : Prop := InR .u32 x.Version ∧ Arr .u8 32 x.Prev ∧ Arr .u8 32 x.Root ∧ InR .u32 x.Time ∧ InR .u32 x.Work ∧ InR .u32 x.Nonce
def RHead (μ : Store) (x : Head) (c : List Value) : Prop := c = (HeadC x).flatten ∧ HeadW μ x
theorem HeadW.le {μ ν : Store} (hl : μ.le ν) {x : Head} (h : HeadW μ x) : HeadW ν x := let ⟨h0, h1, h2, h3, h4, h5⟩ := h; ⟨h0, h1, h2, h3, h4, h5⟩
theorem RHead.le {μ ν : Store} (hl : μ.le ν) {x : Head} {c : List Value} (h : RHead μ x c) : RHead ν x c := let ⟨h0, h1⟩ := h; ⟨h0, h1.le hl⟩
structure Rules where
  Halving : Int
  Maturity : Int
  PoolBytes : Int
  RedoBytes : Int
  LogMost : Int
  Ancestors : Int
  AncestorBytes : Int
  Descendants : Int
  DescendantBytes : Int
deriving Inhabited, DecidableEq
def RulesC (x : Rules) : List (List Value) := [[.int .i64 x.Halving], [.int .i64 x.Maturity], [.int .i64 x.PoolBytes], [.int .i64 x.RedoBytes], [.int .i64 x.LogMost], [.int .i64 x.Ancestors], [.int .i64 x.AncestorBytes], [.int .i64 x.Descendants], [.int .i64 x.DescendantBytes]]
def RulesW (μ : Store) (x : Rules) : Prop := InR .i64 x.Halving ∧ InR .i64 x.Maturity ∧ InR .i64 x.PoolBytes ∧ InR .i64 x.RedoBytes ∧ InR .i64 x.LogMost ∧ InR .i64 x.Ancestors ∧ InR .i64 x.AncestorBytes ∧ InR .i64 x.Descendants ∧ InR .i64 x.DescendantBytes
def RRules (μ : Store) (x : Rules) (c : List Value) : Prop := c = (RulesC x).flatten ∧ RulesW μ x
theorem RulesW.le {μ ν : Store} (hl : μ.le ν) {x : Rules} (h : RulesW μ x) : RulesW ν x := let ⟨h0, h1, h2, h3, h4, h5, h6, h7, h8⟩ := h; ⟨h0, h1, h2, h3, h4, h5, h6, h7, h8⟩
theorem RRules.le {μ ν : Store} (hl : μ.le ν) {x : Rules} {c : List Value} (h : RRules μ x c) : RRules ν x c := let ⟨h0, h1⟩ := h; ⟨h0, h1.le hl⟩
structure Money where
  Value : Int
  Lock : List Int
  Height : Int
  Base : Bool
deriving Inhabited, DecidableEq
def MoneyC (x : Money) : List (List Value) := [[.int .u64 x.Value], av .u8 32 x.Lock, [.int .i64 x.Height], [.bool x.Base]]
def MoneyW (μ : Store) (x : Money) : Prop := InR .u64 x.Value ∧ Arr .u8 32 x.Lock ∧ InR .i64 x.Height
def RMoney (μ : Store) (x : Money) (c : List Value) : Prop := c = (MoneyC x).flatten ∧ MoneyW μ x
theorem MoneyW.le {μ ν : Store} (hl : μ.le ν) {x : Money} (h : MoneyW μ x) : MoneyW ν x := let ⟨h0, h1, h2⟩ := h; ⟨h0, h1, h2⟩
theorem RMoney.le {μ ν : Store} (hl : μ.le ν) {x : Money} {c : List Value} (h : RMoney μ x c) : RMoney ν x c := let ⟨h0, h1⟩ := h; ⟨h0, h1.le hl⟩
structure Note where
  Op : Int
  Tx : List Int
  Reason : Int
deriving Inhabited, DecidableEq
def NoteC (x : Note) : List (List Value) := [[.int .i64 x.Op], av .u8 32 x.Tx, [.int .i64 x.Reason]]
def NoteW (μ : Store) (x : Note) : Prop := InR .i64 x.Op ∧ Arr .u8 32 x.Tx ∧ InR .i64 x.Reason
def RNote (μ : Store) (x : Note) (c : List Value) : Prop := c = (NoteC x).flatten ∧ NoteW μ x
theorem NoteW.le {μ ν : Store} (hl : μ.le ν) {x : Note} (h : NoteW μ x) : NoteW ν x := let ⟨h0, h1, h2⟩ := h; ⟨h0, h1, h2⟩
theorem RNote.le {μ ν : Store} (hl : μ.le ν) {x : Note} {c : List Value} (h : RNote μ x c) : RNote ν x c := let ⟨h0, h1⟩ := h; ⟨h0, h1.le hl⟩
structure sargassoref18Log where
  Most : Int
  Op : Int
  L : List Note
  Gone : List Note
deriving Inhabited, DecidableEq
def sargassoref18LogC (x : sargassoref18Log) (v0 : Value) (v1 : Value) : List (List Value) := [[.int .i64 x.Most], [.int .i64 x.Op], [v0], [v1]]
def sargassoref18LogW (μ : Store) (x : sargassoref18Log) (v0 : Value) (v1 : Value) : Prop := InR .i64 x.Most ∧ InR .i64 x.Op ∧ Slc (RNote μ) 34 μ v0 x.L ∧ Slc (RNote μ) 34 μ v1 x.Gone
def Rsargassoref18Log (μ : Store) (x : sargassoref18Log) (c : List Value) : Prop := ∃ v0 v1 : Value, c = (sargassoref18LogC x v0 v1).flatten ∧ sargassoref18LogW μ x v0 v1
theorem sargassoref18LogW.le {μ ν : Store} (hl : μ.le ν) {x : sargassoref18Log} {v0 : Value} {v1 : Value} (h : sargassoref18LogW μ x v0 v1) : sargassoref18LogW ν x v0 v1 := let ⟨h0, h1, h2, h3⟩ := h; ⟨h0, h1, h2.le (fun _ _ h => RNote.le hl h) hl, h3.le (fun _ _ h => RNote.le hl h) hl⟩
theorem Rsargassoref18Log.le {μ ν : Store} (hl : μ.le ν) {x : sargassoref18Log} {c : List Value} (h : Rsargassoref18Log μ x c) : Rsargassoref18Log ν x c := let ⟨v0, v1, h0, h1⟩ := h; ⟨v0, v1, h0, h1.le hl⟩
structure sargassolaw20Do where
  Kind : Int
  Reason : Int
  Tx : List Int
deriving Inhabited, DecidableEq
def sargassolaw20DoC (x : sargassolaw20Do) : List (List Value) := [[.int .i64 x.Kind], [.int .i64 x.Reason], av .u8 32 x.Tx]
def sargassolaw20DoW (μ : Store) (x : sargassolaw20Do) : Prop := InR .i64 x.Kind ∧ InR .i64 x.Reason ∧ Arr .u8 32 x.Tx
def Rsargassolaw20Do (μ : Store) (x : sargassolaw20Do) (c : List Value) : Prop := c = (sargassolaw20DoC x).flatten ∧ sargassolaw20DoW μ x
theorem sargassolaw20DoW.le {μ ν : Store} (hl : μ.le ν) {x : sargassolaw20Do} (h : sargassolaw20DoW μ x) : sargassolaw20DoW ν x := let ⟨h0, h1, h2⟩ := h; ⟨h0, h1, h2⟩
theorem Rsargassolaw20Do.le {μ ν : Store} (hl : μ.le ν) {x : sargassolaw20Do} {c : List Value} (h : Rsargassolaw20Do μ x c) : Rsargassolaw20Do ν x c := let ⟨h0, h1⟩ := h; ⟨h0, h1.le hl⟩
end Go.Proofs.YtpeelghbhihgkaaDoor.T
namespace Go.Proofs.YtpeelghbhihgkaaDoor.T
open Go Go.Proofs Go.Proofs.YtpeelghbhihgkaaDoor.K
set_option linter.unusedVariables false
set_option linter.unusedSimpArgs false
theorem mo : Tryd.prog.follows .mixedOrders = true := by kernel_rfl
theorem erF : ErF Tryd.prog 34 206 168 := ErF.of Tryd.underlying34 Tryd.underlying206 (by kernel_rfl) (by kernel_rfl) (by decide)
theorem zrA : (Tryd.prog.info? 168).map (·.zero) = some (some (.pointer none)) := by kernel_rfl
theorem sz3 : (Tryd.prog.info? 3).map (·.size) = some 1 := by kernel_rfl
theorem sz4 : (Tryd.prog.info? 4).map (·.size) = some 1 := by kernel_rfl
theorem sz34 : (Tryd.prog.info? 34).map (·.size) = some 1 := by kernel_rfl
theorem sz96 : (Tryd.prog.info? 96).map (·.size) = some 9 := by kernel_rfl
theorem sz109 : (Tryd.prog.info? 109).map (·.size) = some 5 := by kernel_rfl
theorem sz162 : (Tryd.prog.info? 162).map (·.size) = some 3 := by kernel_rfl
theorem cf29 : CalleeF Tryd.prog 29 := ⟨Tryd.f29, Tryd.func29, by decide, rfl⟩
theorem cf31 : CalleeF Tryd.prog 31 := ⟨Tryd.f31, Tryd.func31, by decide, rfl⟩
theorem cf67 : CalleeF Tryd.prog 67 := ⟨Tryd.f67, Tryd.func67, by decide, rfl⟩
theorem cf68 : CalleeF Tryd.prog 68 := ⟨Tryd.f68, Tryd.func68, by decide, rfl⟩
theorem cf69 : CalleeF Tryd.prog 69 := ⟨Tryd.f69, Tryd.func69, by decide, rfl⟩
theorem cf70 : CalleeF Tryd.prog 70 := ⟨Tryd.f70, Tryd.func70, by decide, rfl⟩
theorem cf73 : CalleeF Tryd.prog 73 := ⟨Tryd.f73, Tryd.func73, by decide, rfl⟩
theorem cf74 : CalleeF Tryd.prog 74 := ⟨Tryd.f74, Tryd.func74, by decide, rfl⟩
theorem cf77 : CalleeF Tryd.prog 77 := ⟨Tryd.f77, Tryd.func77, by decide, rfl⟩
theorem cf96 : CalleeF Tryd.prog 96 := ⟨Tryd.f96, Tryd.func96, by decide, rfl⟩
theorem cf129 : CalleeF Tryd.prog 129 := ⟨Tryd.f129, Tryd.func129, by decide, rfl⟩
theorem cf130 : CalleeF Tryd.prog 130 := ⟨Tryd.f130, Tryd.func130, by decide, rfl⟩
theorem cf131 : CalleeF Tryd.prog 131 := ⟨Tryd.f131, Tryd.func131, by decide, rfl⟩
theorem cf148 : CalleeF Tryd.prog 148 := ⟨Tryd.f148, Tryd.func148, by decide, rfl⟩
theorem cf149 : CalleeF Tryd.prog 149 := ⟨Tryd.f149, Tryd.func149, by decide, rfl⟩
theorem cf154 : CalleeF Tryd.prog 154 := ⟨Tryd.f154, Tryd.func154, by decide, rfl⟩
theorem cf155 : CalleeF Tryd.prog 155 := ⟨Tryd.f155, Tryd.func155, by decide, rfl⟩
theorem zr3 : ∃ z, (Tryd.prog.info? 3).map (·.zero) = some (some z) ∧ z.cells = ([[.int .i64 0]] : List (List Value)).flatten.toArray := ⟨.int .i64 0, by kernel_rfl, by kernel_rfl⟩
theorem zr34 : ∃ z, (Tryd.prog.info? 34).map (·.zero) = some (some z) ∧ z.cells = ([[.nilIface]] : List (List Value)).flatten.toArray := ⟨.nilIface, by kernel_rfl, by kernel_rfl⟩
theorem zr96 : ∃ z, (Tryd.prog.info? 96).map (·.zero) = some (some z) ∧ z.cells = ([[.int .i64 0], [.int .i64 0], [.int .i64 0], [.int .i64 0], [.int .i64 0], [.int .i64 0], [.int .i64 0], [.int .i64 0], [.int .i64 0]] : List (List Value)).flatten.toArray := ⟨.agg #[.int .i64 0, .int .i64 0, .int .i64 0, .int .i64 0, .int .i64 0, .int .i64 0, .int .i64 0, .int .i64 0, .int .i64 0], by kernel_rfl, by kernel_rfl⟩
theorem zr109 : ∃ z, (Tryd.prog.info? 109).map (·.zero) = some (some z) ∧ z.cells = ([[.int .i64 0], [.bool false], [.int .i64 0], [.bool false], [.int .i64 0]] : List (List Value)).flatten.toArray := ⟨.agg #[.int .i64 0, .bool false, .int .i64 0, .bool false, .int .i64 0], by kernel_rfl, by kernel_rfl⟩
theorem zr162 : ∃ z, (Tryd.prog.info? 162).map (·.zero) = some (some z) ∧ z.cells = ([av .i64 3 (List.replicate 3 0)] : List (List Value)).flatten.toArray := ⟨.agg #[.int .i64 0, .int .i64 0, .int .i64 0], by kernel_rfl, by kernel_rfl⟩
theorem te3 : TyE Tryd.prog 3 1 8 := TyE.of (by kernel_rfl) (by kernel_rfl) ⟨.int .i64 0, by kernel_rfl, by kernel_rfl⟩
theorem te34 : TyE Tryd.prog 34 1 16 := TyE.of (by kernel_rfl) (by kernel_rfl) ⟨.nilIface, by kernel_rfl, by kernel_rfl⟩
theorem te162 : TyE Tryd.prog 162 3 24 := TyE.of (by kernel_rfl) (by kernel_rfl) ⟨.agg #[.int .i64 0, .int .i64 0, .int .i64 0], by kernel_rfl, by kernel_rfl⟩
end Go.Proofs.YtpeelghbhihgkaaDoor.T
namespace Go.Proofs.YtpeelghbhihgkaaDoor.T
open Go Go.Proofs Go.Proofs.YtpeelghbhihgkaaDoor.K
set_option linter.unusedVariables false
set_option linter.unusedSimpArgs false
noncomputable def sargassoworld_Number.f (x0 : Int) (x1 : Int) : Option Int := (if x1 ≠ 0 then (((if (Int.tmod x0 x1) < 0 then some (IntKind.i64.wrap ((Int.tmod x0 x1) + x1)) else some (Int.tmod x0 x1))).bind fun c1 => some c1) else none)
noncomputable def sargassoref_SameFault.f (x0 : sargassorefFault) (x1 : sargassorefFault) : Option Bool := (((if x0.Code = x1.Code then (if x0.Placed = x1.Placed then (if x0.Pos = x1.Pos then (if x0.Outer = x1.Outer then some (decide (x0.At = x1.At)) else some false) else some false) else some false) else some false)).bind fun c1 => some c1)
noncomputable def sargassoref_None.f : Option sargassorefFault := some (⟨0, false, 0, false, 0⟩ : sargassorefFault)
noncomputable def sargassoref_Placed.f (x0 : Int) (x1 : Int) : Option sargassorefFault := (if x0 = 0 then ((sargassoref_None.f).bind fun r1 => some r1) else some (⟨x0, true, x1, false, 0⟩ : sargassorefFault))
noncomputable def sargassoref_Bare.f (x0 : Int) : Option sargassorefFault := some (⟨x0, false, 0, false, 0⟩ : sargassorefFault)
noncomputable def sargassosee_sentinels.f : Option (List Er) := some ([xErrEnd, xErrShape, xErrLong, xErrMany, xErrValue, xErrTwice, xErrBase, xErrRoot, xErrKnown, xErrParent, xErrInvalid, xErrTime, xErrMissing, xErrKey, xErrYoung, xErrEarly, xErrLess, xErrReward, xErrClash, xErrLimit, xErrFull, xErrRange, xErrNone, xErrWord, xErrNumber] : List Er)
noncomputable def sargassosee_Alike.f (x0 : Er) (x1 : Er) : Option Bool := (((if x0 = (Er.b 0) then some true else some (decide (x1 = (Er.b 0))))).bind fun c1 => (if c1 = true then (((if x0 = (Er.b 0) then some (decide (x1 = (Er.b 0))) else some false)).bind fun c2 => some c2) else (if Er.cmp x0 x1 = true then some (decide (x0 = x1)) else none)))
noncomputable def sargassosee_sentinel.s0 (x0 : Er) (r1 : List Er) : Int → Option (Int ⊕ Int) := fun s1 => (if s1 < (r1.length : Int) then (if 0 ≤ s1 ∧ s1 < (r1.length : Int) then ((sargassosee_Alike.f x0 (r1.getD s1.toNat (Er.b 0))).bind fun r2 => (if r2 = true then some (.inr (IntKind.i64.wrap (101 + s1))) else some (.inl (IntKind.i64.wrap (s1 + 1))))) else none) else some (.inr (-1)))
noncomputable def sargassosee_sentinel.f (x0 : Er) : Option Int := ((sargassosee_sentinels.f).bind fun r1 => loopO (sargassosee_sentinel.s0 x0 r1) 0)
noncomputable def sargassoref_Around.f (x0 : sargassorefFault) (x1 : Int) : Option sargassorefFault := (if x0.Code = 0 then some x0 else (if x0.Placed = true then some (⟨x0.Code, x0.Placed, x0.Pos, true, x1⟩ : sargassorefFault) else ((sargassoref_Placed.f x0.Code x1).bind fun r1 => some r1)))
noncomputable def sargassosee_Fault.f (x0 : Er) : Option sargassorefFault := (if x0 = (Er.b 0) then ((sargassoref_None.f).bind fun r1 => some r1) else (if x0.isP = true then ((some (decide (x0.err = (Er.b 0)))).bind fun c1 => (if c1 = true then ((sargassoref_Bare.f (-1)).bind fun r4 => some r4) else (if x0.err.isP = true then ((some (decide (x0.err.err = (Er.b 0)))).bind fun c2 => (if c2 = true then ((sargassoref_Bare.f (-1)).bind fun r7 => some r7) else ((sargassosee_sentinel.f x0.err.err).bind fun r8 => ((sargassoref_Placed.f r8 x0.err.pos).bind fun r9 => ((sargassoref_Around.f r9 x0.pos).bind fun r10 => some r10))))) else ((sargassosee_sentinel.f x0.err).bind fun r5 => ((sargassoref_Placed.f r5 x0.pos).bind fun r6 => some r6))))) else ((sargassosee_sentinel.f x0).bind fun r2 => ((sargassoref_Bare.f r2).bind fun r3 => some r3))))
noncomputable def sargassosee_Same.f (x0 : Er) (x1 : sargassorefFault) : Option Bool := ((sargassosee_Fault.f x0).bind fun r1 => ((sargassoref_SameFault.f r1 x1).bind fun r2 => some r2))
noncomputable def sargassosee_Is.f (x0 : Er) (x1 : Int) : Option Bool := ((sargassoref_Bare.f x1).bind fun r1 => ((sargassosee_Same.f x0 r1).bind fun r2 => some r2))
end Go.Proofs.YtpeelghbhihgkaaDoor.T
namespace Go.Proofs.YtpeelghbhihgkaaDoor.T
open Go Go.Proofs Go.Proofs.YtpeelghbhihgkaaDoor.K
set_option linter.unusedVariables false
set_option linter.unusedSimpArgs false
set_option maxRecDepth 20000 in
theorem sargassoworld_Number.c (μ : Store) (w0 : World) (hμ : Agr μ w0) (x0 : Int) (hx0 : InR .i64 x0) (x1 : Int) (hx1 : InR .i64 x1) (r : Int) (H : sargassoworld_Number.f x0 x1 = some r) :
    Calls Tryd.prog 29 [.int .i64 x0, .int .i64 x1].toArray w0 (fun e w' => ∃ v, e = .returned v ∧ v = .int .i64 r ∧ InR .i64 r ∧ Iv w0 [] μ μ [] w') := by
  refine enter Tryd.func29 rfl Tryd.ntmps29 rfl fun a hA => ?_
  have hI := Iv.start hμ
  have H := bI H
  refine w_seq fun _ hN1 => ?_
  refine w_reg ?_
  refine stp hA (r_as hA rfl) rfl fun a hA => ?_
  refine o_nil ?_
  refine hN1 _ _ ?_
  refine w_seq fun _ hN2 => ?_
  refine w_reg ?_
  refine stp hA (r_mv hA rfl) rfl fun a hA => 
    stp hA (r_mv hA rfl) rfl fun a hA => ?_
  obtain ⟨hb1, H⟩ := bG H
  refine stp hA (r_rem hA rfl rfl hb1) rfl fun a hA => 
    stp hA (r_as hA rfl) rfl fun a hA => ?_
  refine o_nil ?_
  refine hN2 _ _ ?_
  obtain ⟨c1, hz1, Hk1⟩ := bB H
  refine w_cut (fun a w => InR .i64 c1 ∧ Fr a 15 [(0, .int .i64 x0), (1, .int .i64 x1), (4, .int .i64 0), (5, .int .i64 c1)] ∧ Iv w0 [] μ μ [] w) ?_ ?_
  · have H := bI hz1
    refine w_seq fun _ hN3 => ?_
    refine w_reg ?_
    refine stp hA (r_mv hA rfl) rfl fun a hA => 
      stp hA (r_lss hA rfl rfl) rfl fun a hA => ?_
    refine o_nil ?_
    refine hN3 _ _ ?_
    refine w_cond hA rfl (fun hc1 => ?_) (fun hc1 => ?_)
    · have hc10 := hc1; have hc1 := of_decide_eq_true hc1; have H := bT H hc1
      refine w_reg ?_
      refine stp hA (r_mv hA rfl) rfl fun a hA => 
        stp hA (r_mv hA rfl) rfl fun a hA => 
        stp hA (r_add hA rfl rfl) rfl fun a hA => 
        stp hA (r_as hA rfl) rfl fun a hA => ?_
      refine o_nil ?_
      cases Option.some.inj (bS H)
      exact ⟨(wrap_in _ _), hA.sub ⟨rfl, rfl, rfl, rfl, trivial⟩, hI⟩
    · have hc10 := hc1; have hc1 := of_decide_eq_false hc1; have H := bF H hc1
      refine w_skip ?_
      cases Option.some.inj (bS H)
      exact ⟨(tmod_in hx0 _), hA.sub ⟨rfl, rfl, rfl, rfl, trivial⟩, hI⟩
  · rintro a w ⟨wc1, hA, hI⟩
    have H := Hk1
    refine w_seq fun _ hN4 => ?_
    refine w_reg ?_
    refine stp hA (r_mv hA rfl) rfl fun a hA => 
      stp hA (r_as hA rfl) rfl fun a hA => ?_
    refine o_nil ?_
    refine hN4 _ _ ?_
    refine w_ret ?_
    obtain rfl := Option.some.inj (bS H)
    exact ret1 hA Tryd.results29 rfl ⟨_, rfl, rfl, wc1, hI.forget0⟩
set_option maxRecDepth 20000 in
theorem sargassoref_SameFault.c (μ : Store) (w0 : World) (hμ : Agr μ w0) (x0 : sargassorefFault) (hx0 : sargassorefFaultW μ x0) (x1 : sargassorefFault) (hx1 : sargassorefFaultW μ x1) (r : Bool) (H : sargassoref_SameFault.f x0 x1 = some r) :
    Calls Tryd.prog 129 [.agg [[.int .i64 x0.Code], [.bool x0.Placed], [.int .i64 x0.Pos], [.bool x0.Outer], [.int .i64 x0.At]].flatten.toArray, .agg [[.int .i64 x1.Code], [.bool x1.Placed], [.int .i64 x1.Pos], [.bool x1.Outer], [.int .i64 x1.At]].flatten.toArray].toArray w0 (fun e w' => ∃ v, e = .returned v ∧ v = .bool r ∧ True ∧ Iv w0 [] μ μ [] w') := by
  refine enter Tryd.func129 rfl Tryd.ntmps129 rfl fun a hA => ?_
  have hI := Iv.start hμ
  have H := bI H
  refine w_seq fun _ hN1 => ?_
  refine w_reg ?_
  refine o_box [[.int .i64 x0.Code], [.bool x0.Placed], [.int .i64 x0.Pos], [.bool x0.Outer], [.int .i64 x0.At]] hI hA rfl rfl rfl fun g1 a w hA hI hg1 => 
    o_box [[.int .i64 x1.Code], [.bool x1.Placed], [.int .i64 x1.Pos], [.bool x1.Outer], [.int .i64 x1.At]] hI hA rfl rfl rfl fun g2 a w hA hI hg2 => 
    stp hA (r_as hA rfl) rfl fun a hA => ?_
  refine o_nil ?_
  refine hN1 _ _ ?_
  obtain ⟨c1, hz1, Hk1⟩ := bB H
  refine w_cut (fun a w => Fr a 38 [(0, .agg [[.int .i64 x0.Code], [.bool x0.Placed], [.int .i64 x0.Pos], [.bool x0.Outer], [.int .i64 x0.At]].flatten.toArray), (1, .agg [[.int .i64 x1.Code], [.bool x1.Placed], [.int .i64 x1.Pos], [.bool x1.Outer], [.int .i64 x1.At]].flatten.toArray), (2, .pointer (some ⟨g1, 0, none⟩)), (3, .pointer (some ⟨g2, 0, none⟩)), (4, .bool c1)] ∧ Iv w0 [] μ μ [cel g2 [[.int .i64 x1.Code], [.bool x1.Placed], [.int .i64 x1.Pos], [.bool x1.Outer], [.int .i64 x1.At]] 109, cel g1 [[.int .i64 x0.Code], [.bool x0.Placed], [.int .i64 x0.Pos], [.bool x0.Outer], [.int .i64 x0.At]] 109] w) ?_ ?_
  · have H := bI hz1
    refine w_reg ?_
    refine stp hA (r_fd (k := 0) Tryd.underlying109 rfl sz3 hA rfl rfl) rfl fun a hA => 
      stp hA (r_ld1 (j := 1) [] [[.bool x0.Placed], [.int .i64 x0.Pos], [.bool x0.Outer], [.int .i64 x0.At]] Tryd.underlying3 rfl hI rfl hA rfl rfl) rfl fun a hA => 
      stp hA (r_fd (k := 0) Tryd.underlying109 rfl sz3 hA rfl rfl) rfl fun a hA => 
      stp hA (r_ld1 (j := 0) [] [[.bool x1.Placed], [.int .i64 x1.Pos], [.bool x1.Outer], [.int .i64 x1.At]] Tryd.underlying3 rfl hI rfl hA rfl rfl) rfl fun a hA => 
      stp hA (r_eql hA rfl rfl) rfl fun a hA => 
      stp hA (r_mv hA rfl) rfl fun a hA => ?_
    rcases Bool.eq_false_or_eq_true (decide (x0.Code = x1.Code)) with hc1 | hc1
    · have hc10 := hc1; have hc1 := of_decide_eq_true hc1; have H := bT H hc1
      refine o_yes hA rfl rfl hc10 <| 
        stp hA (r_fd (k := 1) Tryd.underlying109 rfl sz4 hA rfl rfl) rfl fun a hA => 
        o_yes hA rfl rfl hc10 <| 
        stp hA (r_ld1 (j := 1) [[.int .i64 x0.Code]] [[.int .i64 x0.Pos], [.bool x0.Outer], [.int .i64 x0.At]] Tryd.underlying4 rfl hI rfl hA rfl rfl) rfl fun a hA => 
        o_yes hA rfl rfl hc10 <| 
        stp hA (r_fd (k := 1) Tryd.underlying109 rfl sz4 hA rfl rfl) rfl fun a hA => 
        o_yes hA rfl rfl hc10 <| 
        stp hA (r_ld1 (j := 0) [[.int .i64 x1.Code]] [[.int .i64 x1.Pos], [.bool x1.Outer], [.int .i64 x1.At]] Tryd.underlying4 rfl hI rfl hA rfl rfl) rfl fun a hA => 
        o_yes hA rfl rfl hc10 <| 
        stp hA (r_eqlb Tryd.underlying4 hA rfl rfl) rfl fun a hA => 
        stp hA (r_pick_t hA rfl hc10 rfl) rfl fun a hA => 
        stp hA (r_mv hA rfl) rfl fun a hA => ?_
      rcases Bool.eq_false_or_eq_true (decide (x0.Placed = x1.Placed)) with hc2 | hc2
      · have hc20 := hc2; have hc2 := of_decide_eq_true hc2; have H := bT H hc2
        refine o_yes hA rfl rfl hc20 <| 
          stp hA (r_fd (k := 2) Tryd.underlying109 rfl sz3 hA rfl rfl) rfl fun a hA => 
          o_yes hA rfl rfl hc20 <| 
          stp hA (r_ld1 (j := 1) [[.int .i64 x0.Code], [.bool x0.Placed]] [[.bool x0.Outer], [.int .i64 x0.At]] Tryd.underlying3 rfl hI rfl hA rfl rfl) rfl fun a hA => 
          o_yes hA rfl rfl hc20 <| 
          stp hA (r_fd (k := 2) Tryd.underlying109 rfl sz3 hA rfl rfl) rfl fun a hA => 
          o_yes hA rfl rfl hc20 <| 
          stp hA (r_ld1 (j := 0) [[.int .i64 x1.Code], [.bool x1.Placed]] [[.bool x1.Outer], [.int .i64 x1.At]] Tryd.underlying3 rfl hI rfl hA rfl rfl) rfl fun a hA => 
          o_yes hA rfl rfl hc20 <| 
          stp hA (r_eql hA rfl rfl) rfl fun a hA => 
          stp hA (r_pick_t hA rfl hc20 rfl) rfl fun a hA => 
          stp hA (r_mv hA rfl) rfl fun a hA => ?_
        rcases Bool.eq_false_or_eq_true (decide (x0.Pos = x1.Pos)) with hc3 | hc3
        · have hc30 := hc3; have hc3 := of_decide_eq_true hc3; have H := bT H hc3
          refine o_yes hA rfl rfl hc30 <| 
            stp hA (r_fd (k := 3) Tryd.underlying109 rfl sz4 hA rfl rfl) rfl fun a hA => 
            o_yes hA rfl rfl hc30 <| 
            stp hA (r_ld1 (j := 1) [[.int .i64 x0.Code], [.bool x0.Placed], [.int .i64 x0.Pos]] [[.int .i64 x0.At]] Tryd.underlying4 rfl hI rfl hA rfl rfl) rfl fun a hA => 
            o_yes hA rfl rfl hc30 <| 
            stp hA (r_fd (k := 3) Tryd.underlying109 rfl sz4 hA rfl rfl) rfl fun a hA => 
            o_yes hA rfl rfl hc30 <| 
            stp hA (r_ld1 (j := 0) [[.int .i64 x1.Code], [.bool x1.Placed], [.int .i64 x1.Pos]] [[.int .i64 x1.At]] Tryd.underlying4 rfl hI rfl hA rfl rfl) rfl fun a hA => 
            o_yes hA rfl rfl hc30 <| 
            stp hA (r_eqlb Tryd.underlying4 hA rfl rfl) rfl fun a hA => 
            stp hA (r_pick_t hA rfl hc30 rfl) rfl fun a hA => 
            stp hA (r_mv hA rfl) rfl fun a hA => ?_
          rcases Bool.eq_false_or_eq_true (decide (x0.Outer = x1.Outer)) with hc4 | hc4
          · have hc40 := hc4; have hc4 := of_decide_eq_true hc4; have H := bT H hc4
            refine o_yes hA rfl rfl hc40 <| 
              stp hA (r_fd (k := 4) Tryd.underlying109 rfl sz3 hA rfl rfl) rfl fun a hA => 
              o_yes hA rfl rfl hc40 <| 
              stp hA (r_ld1 (j := 1) [[.int .i64 x0.Code], [.bool x0.Placed], [.int .i64 x0.Pos], [.bool x0.Outer]] [] Tryd.underlying3 rfl hI rfl hA rfl rfl) rfl fun a hA => 
              o_yes hA rfl rfl hc40 <| 
              stp hA (r_fd (k := 4) Tryd.underlying109 rfl sz3 hA rfl rfl) rfl fun a hA => 
              o_yes hA rfl rfl hc40 <| 
              stp hA (r_ld1 (j := 0) [[.int .i64 x1.Code], [.bool x1.Placed], [.int .i64 x1.Pos], [.bool x1.Outer]] [] Tryd.underlying3 rfl hI rfl hA rfl rfl) rfl fun a hA => 
              o_yes hA rfl rfl hc40 <| 
              stp hA (r_eql hA rfl rfl) rfl fun a hA => 
              stp hA (r_pick_t hA rfl hc40 rfl) rfl fun a hA => 
              stp hA (r_as hA rfl) rfl fun a hA => ?_
            refine o_nil ?_
            cases Option.some.inj (bS H)
            exact ⟨hA.sub ⟨rfl, rfl, rfl, rfl, rfl, trivial⟩, hI⟩
          · have hc40 := hc4; have hc4 := of_decide_eq_false hc4; have H := bF H hc4
            refine o_no hA rfl rfl (by rw [hc40]; simp [vb]) rfl fun a hA => 
              o_no hA rfl rfl (by rw [hc40]; simp [vb]) rfl fun a hA => 
              o_no hA rfl rfl (by rw [hc40]; simp [vb]) rfl fun a hA => 
              o_no hA rfl rfl (by rw [hc40]; simp [vb]) rfl fun a hA => 
              o_no hA rfl rfl (by rw [hc40]; simp [vb]) rfl fun a hA => 
              stp hA (r_pick_f hA rfl hc40 rfl) rfl fun a hA => 
              stp hA (r_as hA rfl) rfl fun a hA => ?_
            refine o_nil ?_
            cases Option.some.inj (bS H)
            exact ⟨hA.sub ⟨rfl, rfl, rfl, rfl, rfl, trivial⟩, hI⟩
        · have hc30 := hc3; have hc3 := of_decide_eq_false hc3; have H := bF H hc3
          refine o_no hA rfl rfl (by rw [hc30]; simp [vb]) rfl fun a hA => 
            o_no hA rfl rfl (by rw [hc30]; simp [vb]) rfl fun a hA => 
            o_no hA rfl rfl (by rw [hc30]; simp [vb]) rfl fun a hA => 
            o_no hA rfl rfl (by rw [hc30]; simp [vb]) rfl fun a hA => 
            o_no hA rfl rfl (by rw [hc30]; simp [vb]) rfl fun a hA => 
            stp hA (r_pick_f hA rfl hc30 rfl) rfl fun a hA => 
            stp hA (r_mv hA rfl) rfl fun a hA => 
            o_no hA rfl rfl (by simp [vb]) rfl fun a hA => 
            o_no hA rfl rfl (by simp [vb]) rfl fun a hA => 
            o_no hA rfl rfl (by simp [vb]) rfl fun a hA => 
            o_no hA rfl rfl (by simp [vb]) rfl fun a hA => 
            o_no hA rfl rfl (by simp [vb]) rfl fun a hA => 
            stp hA (r_pick_f hA rfl rfl rfl) rfl fun a hA => 
            stp hA (r_as hA rfl) rfl fun a hA => ?_
          refine o_nil ?_
          cases Option.some.inj (bS H)
          exact ⟨hA.sub ⟨rfl, rfl, rfl, rfl, rfl, trivial⟩, hI⟩
      · have hc20 := hc2; have hc2 := of_decide_eq_false hc2; have H := bF H hc2
        refine o_no hA rfl rfl (by rw [hc20]; simp [vb]) rfl fun a hA => 
          o_no hA rfl rfl (by rw [hc20]; simp [vb]) rfl fun a hA => 
          o_no hA rfl rfl (by rw [hc20]; simp [vb]) rfl fun a hA => 
          o_no hA rfl rfl (by rw [hc20]; simp [vb]) rfl fun a hA => 
          o_no hA rfl rfl (by rw [hc20]; simp [vb]) rfl fun a hA => 
          stp hA (r_pick_f hA rfl hc20 rfl) rfl fun a hA => 
          stp hA (r_mv hA rfl) rfl fun a hA => 
          o_no hA rfl rfl (by simp [vb]) rfl fun a hA => 
          o_no hA rfl rfl (by simp [vb]) rfl fun a hA => 
          o_no hA rfl rfl (by simp [vb]) rfl fun a hA => 
          o_no hA rfl rfl (by simp [vb]) rfl fun a hA => 
          o_no hA rfl rfl (by simp [vb]) rfl fun a hA => 
          stp hA (r_pick_f hA rfl rfl rfl) rfl fun a hA => 
          stp hA (r_mv hA rfl) rfl fun a hA => 
          o_no hA rfl rfl (by simp [vb]) rfl fun a hA => 
          o_no hA rfl rfl (by simp [vb]) rfl fun a hA => 
          o_no hA rfl rfl (by simp [vb]) rfl fun a hA => 
          o_no hA rfl rfl (by simp [vb]) rfl fun a hA => 
          o_no hA rfl rfl (by simp [vb]) rfl fun a hA => 
          stp hA (r_pick_f hA rfl rfl rfl) rfl fun a hA => 
          stp hA (r_as hA rfl) rfl fun a hA => ?_
        refine o_nil ?_
        cases Option.some.inj (bS H)
        exact ⟨hA.sub ⟨rfl, rfl, rfl, rfl, rfl, trivial⟩, hI⟩
    · have hc10 := hc1; have hc1 := of_decide_eq_false hc1; have H := bF H hc1
      refine o_no hA rfl rfl (by rw [hc10]; simp [vb]) rfl fun a hA => 
        o_no hA rfl rfl (by rw [hc10]; simp [vb]) rfl fun a hA => 
        o_no hA rfl rfl (by rw [hc10]; simp [vb]) rfl fun a hA => 
        o_no hA rfl rfl (by rw [hc10]; simp [vb]) rfl fun a hA => 
        o_no hA rfl rfl (by rw [hc10]; simp [vb]) rfl fun a hA => 
        stp hA (r_pick_f hA rfl hc10 rfl) rfl fun a hA => 
        stp hA (r_mv hA rfl) rfl fun a hA => 
        o_no hA rfl rfl (by simp [vb]) rfl fun a hA => 
        o_no hA rfl rfl (by simp [vb]) rfl fun a hA => 
        o_no hA rfl rfl (by simp [vb]) rfl fun a hA => 
        o_no hA rfl rfl (by simp [vb]) rfl fun a hA => 
        o_no hA rfl rfl (by simp [vb]) rfl fun a hA => 
        stp hA (r_pick_f hA rfl rfl rfl) rfl fun a hA => 
        stp hA (r_mv hA rfl) rfl fun a hA => 
        o_no hA rfl rfl (by simp [vb]) rfl fun a hA => 
        o_no hA rfl rfl (by simp [vb]) rfl fun a hA => 
        o_no hA rfl rfl (by simp [vb]) rfl fun a hA => 
        o_no hA rfl rfl (by simp [vb]) rfl fun a hA => 
        o_no hA rfl rfl (by simp [vb]) rfl fun a hA => 
        stp hA (r_pick_f hA rfl rfl rfl) rfl fun a hA => 
        stp hA (r_mv hA rfl) rfl fun a hA => 
        o_no hA rfl rfl (by simp [vb]) rfl fun a hA => 
        o_no hA rfl rfl (by simp [vb]) rfl fun a hA => 
        o_no hA rfl rfl (by simp [vb]) rfl fun a hA => 
        o_no hA rfl rfl (by simp [vb]) rfl fun a hA => 
        o_no hA rfl rfl (by simp [vb]) rfl fun a hA => 
        stp hA (r_pick_f hA rfl rfl rfl) rfl fun a hA => 
        stp hA (r_as hA rfl) rfl fun a hA => ?_
      refine o_nil ?_
      cases Option.some.inj (bS H)
      exact ⟨hA.sub ⟨rfl, rfl, rfl, rfl, rfl, trivial⟩, hI⟩
  · rintro a w ⟨hA, hI⟩
    have H := Hk1
    refine w_ret ?_
    obtain rfl := Option.some.inj (bS H)
    exact ret1 hA Tryd.results129 rfl ⟨_, rfl, rfl, trivial, hI.forget0⟩
set_option maxRecDepth 20000 in
theorem sargassoref_None.c (μ : Store) (w0 : World) (hμ : Agr μ w0) (r : sargassorefFault) (H : sargassoref_None.f = some r) :
    Calls Tryd.prog 131 [].toArray w0 (fun e w' => ∃ v, e = .returned v ∧ v = .agg [[.int .i64 r.Code], [.bool r.Placed], [.int .i64 r.Pos], [.bool r.Outer], [.int .i64 r.At]].flatten.toArray ∧ sargassorefFaultW μ r ∧ Iv w0 [] μ μ [] w') := by
  refine enter Tryd.func131 rfl Tryd.ntmps131 rfl fun a hA => ?_
  have hI := Iv.start hμ
  have H := bI H
  refine w_seq fun _ hN1 => ?_
  refine w_reg ?_
  refine o_new [[.int .i64 0], [.bool false], [.int .i64 0], [.bool false], [.int .i64 0]] zr109 hI hA rfl fun g1 a w hA hI hg1 => ?_
  refine o_nil ?_
  refine hN1 _ _ ?_
  refine w_seq fun _ hN2 => ?_
  refine w_reg ?_
  refine stp hA (r_bldS (cs := [[.int .i64 0], [.bool false], [.int .i64 0], [.bool false], [.int .i64 0]].flatten.toArray) (pl := [(0, 1), (1, 1), (2, 1), (3, 1), (4, 1)]) zr109 Tryd.underlying109 ⟨rfl, sz3, rfl, sz4, rfl, sz3, rfl, sz4, rfl, sz3, trivial⟩ hA rfl (by kernel_rfl)) rfl fun a hA => 
    o_st (j := 0) [] [[.int .i64 0], [.bool false], [.int .i64 0], [.bool false], [.int .i64 0]] [[.int .i64 0], [.bool false], [.int .i64 0], [.bool false], [.int .i64 0]] [] sz109 rfl rfl (fl_cons (one_one rfl) (fl_cons (one_one rfl) (fl_cons (one_one rfl) (fl_cons (one_one rfl) (fl_cons (one_one rfl) fl_nil))))) hI rfl hA rfl rfl rfl rfl fun w hI => ?_
  refine o_nil ?_
  refine hN2 _ _ ?_
  refine w_ret ?_
  obtain rfl := Option.some.inj (bS H)
  exact retc Tryd.underlying109 rfl sz109 rfl hI (j := 0) rfl hA Tryd.results131 rfl ⟨_, rfl, rfl, ⟨(in_lit .i64 0 rfl), (in_lit .i64 0 rfl), (in_lit .i64 0 rfl)⟩, hI.forget0⟩
set_option maxRecDepth 20000 in
theorem sargassoref_Placed.c (μ : Store) (w0 : World) (hμ : Agr μ w0) (x0 : Int) (hx0 : InR .i64 x0) (x1 : Int) (hx1 : InR .i64 x1) (r : sargassorefFault) (H : sargassoref_Placed.f x0 x1 = some r) :
    Calls Tryd.prog 74 [.int .i64 x0, .int .i64 x1].toArray w0 (fun e w' => ∃ v, e = .returned v ∧ v = .agg [[.int .i64 r.Code], [.bool r.Placed], [.int .i64 r.Pos], [.bool r.Outer], [.int .i64 r.At]].flatten.toArray ∧ sargassorefFaultW μ r ∧ Iv w0 [] μ μ [] w') := by
  refine enter Tryd.func74 rfl Tryd.ntmps74 rfl fun a hA => ?_
  have hI := Iv.start hμ
  have H := bI H
  refine w_seq fun _ hN1 => ?_
  refine w_reg ?_
  refine o_new [[.int .i64 0], [.bool false], [.int .i64 0], [.bool false], [.int .i64 0]] zr109 hI hA rfl fun g1 a w hA hI hg1 => ?_
  refine o_nil ?_
  refine hN1 _ _ ?_
  refine w_seq fun _ hN2 => ?_
  refine w_seq fun _ hN3 => ?_
  refine w_reg ?_
  refine stp hA (r_mv hA rfl) rfl fun a hA => 
    stp hA (r_eql hA rfl rfl) rfl fun a hA => ?_
  refine o_nil ?_
  refine hN3 _ _ ?_
  refine w_cond hA rfl (fun hc1 => ?_) (fun hc1 => ?_)
  · have hc10 := hc1; have hc1 := of_decide_eq_true hc1; have H := bT H hc1
    refine w_seq fun _ hN4 => ?_
    refine w_reg ?_
    obtain ⟨r1, hr1, H⟩ := bB H
    refine o_callp (u := .agg [[.int .i64 r1.Code], [.bool r1.Placed], [.int .i64 r1.Pos], [.bool r1.Outer], [.int .i64 r1.At]].flatten.toArray) cf131 hA rfl hI (sargassoref_None.c μ _ hI.agr  r1 hr1) rfl fun a w hz1 hI hA => 
      o_st (j := 0) [] [[.int .i64 0], [.bool false], [.int .i64 0], [.bool false], [.int .i64 0]] [[.int .i64 r1.Code], [.bool r1.Placed], [.int .i64 r1.Pos], [.bool r1.Outer], [.int .i64 r1.At]] [] sz109 rfl rfl (fl_cons (one_one rfl) (fl_cons (one_one rfl) (fl_cons (one_one rfl) (fl_cons (one_one rfl) (fl_cons (one_one rfl) fl_nil))))) hI rfl hA rfl rfl rfl rfl fun w hI => ?_
    refine o_nil ?_
    refine hN4 _ _ ?_
    refine w_ret ?_
    obtain rfl := Option.some.inj (bS H)
    exact retc Tryd.underlying109 rfl sz109 rfl hI (j := 0) rfl hA Tryd.results74 rfl ⟨_, rfl, rfl, ⟨hz1.1, hz1.2.1, hz1.2.2⟩, hI.forget0⟩
  · have hc10 := hc1; have hc1 := of_decide_eq_false hc1; have H := bF H hc1
    refine w_skip ?_
    refine hN2 _ _ ?_
    refine w_seq fun _ hN5 => ?_
    refine w_reg ?_
    refine stp hA (r_mv hA rfl) rfl fun a hA => 
      stp hA (r_mv hA rfl) rfl fun a hA => 
      stp hA (r_bldS (cs := [[.int .i64 x0], [.bool true], [.int .i64 x1], [.bool false], [.int .i64 0]].flatten.toArray) (pl := [(0, 1), (1, 1), (2, 1), (3, 1), (4, 1)]) zr109 Tryd.underlying109 ⟨rfl, sz3, rfl, sz4, rfl, sz3, rfl, sz4, rfl, sz3, trivial⟩ hA rfl (by kernel_rfl)) rfl fun a hA => 
      o_st (j := 0) [] [[.int .i64 0], [.bool false], [.int .i64 0], [.bool false], [.int .i64 0]] [[.int .i64 x0], [.bool true], [.int .i64 x1], [.bool false], [.int .i64 0]] [] sz109 rfl rfl (fl_cons (one_one rfl) (fl_cons (one_one rfl) (fl_cons (one_one rfl) (fl_cons (one_one rfl) (fl_cons (one_one rfl) fl_nil))))) hI rfl hA rfl rfl rfl rfl fun w hI => ?_
    refine o_nil ?_
    refine hN5 _ _ ?_
    refine w_ret ?_
    obtain rfl := Option.some.inj (bS H)
    exact retc Tryd.underlying109 rfl sz109 rfl hI (j := 0) rfl hA Tryd.results74 rfl ⟨_, rfl, rfl, ⟨hx0, hx1, (in_lit .i64 0 rfl)⟩, hI.forget0⟩
set_option maxRecDepth 20000 in
theorem sargassoref_Bare.c (μ : Store) (w0 : World) (hμ : Agr μ w0) (x0 : Int) (hx0 : InR .i64 x0) (r : sargassorefFault) (H : sargassoref_Bare.f x0 = some r) :
    Calls Tryd.prog 96 [.int .i64 x0].toArray w0 (fun e w' => ∃ v, e = .returned v ∧ v = .agg [[.int .i64 r.Code], [.bool r.Placed], [.int .i64 r.Pos], [.bool r.Outer], [.int .i64 r.At]].flatten.toArray ∧ sargassorefFaultW μ r ∧ Iv w0 [] μ μ [] w') := by
  refine enter Tryd.func96 rfl Tryd.ntmps96 rfl fun a hA => ?_
  have hI := Iv.start hμ
  have H := bI H
  refine w_seq fun _ hN1 => ?_
  refine w_reg ?_
  refine o_new [[.int .i64 0], [.bool false], [.int .i64 0], [.bool false], [.int .i64 0]] zr109 hI hA rfl fun g1 a w hA hI hg1 => ?_
  refine o_nil ?_
  refine hN1 _ _ ?_
  refine w_seq fun _ hN2 => ?_
  refine w_reg ?_
  refine stp hA (r_mv hA rfl) rfl fun a hA => 
    stp hA (r_bldS (cs := [[.int .i64 x0], [.bool false], [.int .i64 0], [.bool false], [.int .i64 0]].flatten.toArray) (pl := [(0, 1), (1, 1), (2, 1), (3, 1), (4, 1)]) zr109 Tryd.underlying109 ⟨rfl, sz3, rfl, sz4, rfl, sz3, rfl, sz4, rfl, sz3, trivial⟩ hA rfl (by kernel_rfl)) rfl fun a hA => 
    o_st (j := 0) [] [[.int .i64 0], [.bool false], [.int .i64 0], [.bool false], [.int .i64 0]] [[.int .i64 x0], [.bool false], [.int .i64 0], [.bool false], [.int .i64 0]] [] sz109 rfl rfl (fl_cons (one_one rfl) (fl_cons (one_one rfl) (fl_cons (one_one rfl) (fl_cons (one_one rfl) (fl_cons (one_one rfl) fl_nil))))) hI rfl hA rfl rfl rfl rfl fun w hI => ?_
  refine o_nil ?_
  refine hN2 _ _ ?_
  refine w_ret ?_
  obtain rfl := Option.some.inj (bS H)
  exact retc Tryd.underlying109 rfl sz109 rfl hI (j := 0) rfl hA Tryd.results96 rfl ⟨_, rfl, rfl, ⟨hx0, (in_lit .i64 0 rfl), (in_lit .i64 0 rfl)⟩, hI.forget0⟩
set_option maxRecDepth 20000 in
theorem sargassosee_sentinels.c (μ : Store) (w0 : World) (hμ : Agr μ w0) (hG : Gl μ) (r : List Er) (H : sargassosee_sentinels.f = some r) :
    Calls Tryd.prog 154 [].toArray w0 (fun e w' => ∃ v, e = .returned v ∧ ∃ (v0 : Value) (c0 : List Value) (μ' : Store), v = v0 ∧ Els (RErr μ') 1 r c0 ∧ Iv w0 [] μ μ' [row 34 1 v0 r.length c0] w') := by
  refine enter Tryd.func154 rfl Tryd.ntmps154 rfl fun a hA => ?_
  have hI := Iv.start hμ
  have H := bI H
  obtain ⟨e0, he0⟩ := hG.g0
  obtain ⟨e1, he1⟩ := hG.g1
  obtain ⟨e2, he2⟩ := hG.g2
  obtain ⟨e3, he3⟩ := hG.g3
  obtain ⟨e4, he4⟩ := hG.g4
  obtain ⟨e5, he5⟩ := hG.g5
  obtain ⟨e6, he6⟩ := hG.g6
  obtain ⟨e7, he7⟩ := hG.g7
  obtain ⟨e8, he8⟩ := hG.g8
  obtain ⟨e9, he9⟩ := hG.g9
  obtain ⟨e10, he10⟩ := hG.g10
  obtain ⟨e11, he11⟩ := hG.g11
  obtain ⟨e12, he12⟩ := hG.g12
  obtain ⟨e13, he13⟩ := hG.g13
  obtain ⟨e14, he14⟩ := hG.g14
  obtain ⟨e15, he15⟩ := hG.g15
  obtain ⟨e16, he16⟩ := hG.g16
  obtain ⟨e17, he17⟩ := hG.g17
  obtain ⟨e18, he18⟩ := hG.g18
  obtain ⟨e19, he19⟩ := hG.g19
  obtain ⟨e20, he20⟩ := hG.g20
  obtain ⟨e21, he21⟩ := hG.g21
  obtain ⟨e22, he22⟩ := hG.g22
  obtain ⟨e23, he23⟩ := hG.g23
  obtain ⟨e24, he24⟩ := hG.g24
  refine w_seq fun _ hN1 => ?_
  refine w_reg ?_
  refine stp hA (r_as hA rfl) rfl fun a hA => ?_
  refine o_nil ?_
  refine hN1 _ _ ?_
  refine w_seq fun _ hN2 => ?_
  refine w_reg ?_
  refine stp hA (r_ldG Tryd.underlying34 rfl hI.agr he8 hA) rfl fun a hA => 
    stp hA (r_ldG Tryd.underlying34 rfl hI.agr he0 hA) rfl fun a hA => 
    stp hA (r_ldG Tryd.underlying34 rfl hI.agr he2 hA) rfl fun a hA => 
    stp hA (r_ldG Tryd.underlying34 rfl hI.agr he1 hA) rfl fun a hA => 
    stp hA (r_ldG Tryd.underlying34 rfl hI.agr he4 hA) rfl fun a hA => 
    stp hA (r_ldG Tryd.underlying34 rfl hI.agr he5 hA) rfl fun a hA => 
    stp hA (r_ldG Tryd.underlying34 rfl hI.agr he9 hA) rfl fun a hA => 
    stp hA (r_ldG Tryd.underlying34 rfl hI.agr he10 hA) rfl fun a hA => 
    stp hA (r_ldG Tryd.underlying34 rfl hI.agr he11 hA) rfl fun a hA => 
    stp hA (r_ldG Tryd.underlying34 rfl hI.agr he12 hA) rfl fun a hA => 
    stp hA (r_ldG Tryd.underlying34 rfl hI.agr he13 hA) rfl fun a hA => 
    stp hA (r_ldG Tryd.underlying34 rfl hI.agr he14 hA) rfl fun a hA => 
    stp hA (r_ldG Tryd.underlying34 rfl hI.agr he15 hA) rfl fun a hA => 
    stp hA (r_ldG Tryd.underlying34 rfl hI.agr he3 hA) rfl fun a hA => 
    stp hA (r_ldG Tryd.underlying34 rfl hI.agr he16 hA) rfl fun a hA => 
    stp hA (r_ldG Tryd.underlying34 rfl hI.agr he17 hA) rfl fun a hA => 
    stp hA (r_ldG Tryd.underlying34 rfl hI.agr he7 hA) rfl fun a hA => 
    stp hA (r_ldG Tryd.underlying34 rfl hI.agr he18 hA) rfl fun a hA => 
    stp hA (r_ldG Tryd.underlying34 rfl hI.agr he19 hA) rfl fun a hA => 
    stp hA (r_ldG Tryd.underlying34 rfl hI.agr he20 hA) rfl fun a hA => 
    stp hA (r_ldG Tryd.underlying34 rfl hI.agr he21 hA) rfl fun a hA => 
    stp hA (r_ldG Tryd.underlying34 rfl hI.agr he6 hA) rfl fun a hA => 
    stp hA (r_ldG Tryd.underlying34 rfl hI.agr he22 hA) rfl fun a hA => 
    stp hA (r_ldG Tryd.underlying34 rfl hI.agr he23 hA) rfl fun a hA => 
    stp hA (r_ldG Tryd.underlying34 rfl hI.agr he24 hA) rfl fun a hA => ?_
  have hE1 : Els (RErr μ) 1 ([xErrEnd, xErrShape, xErrLong, xErrMany, xErrValue, xErrTwice, xErrBase, xErrRoot, xErrKnown, xErrParent, xErrInvalid, xErrTime, xErrMissing, xErrKey, xErrYoung, xErrEarly, xErrLess, xErrReward, xErrClash, xErrLimit, xErrFull, xErrRange, xErrNone, xErrWord, xErrNumber] : List Er) ([[e8]].flatten ++ ([[e0]].flatten ++ ([[e2]].flatten ++ ([[e1]].flatten ++ ([[e4]].flatten ++ ([[e5]].flatten ++ ([[e9]].flatten ++ ([[e10]].flatten ++ ([[e11]].flatten ++ ([[e12]].flatten ++ ([[e13]].flatten ++ ([[e14]].flatten ++ ([[e15]].flatten ++ ([[e3]].flatten ++ ([[e16]].flatten ++ ([[e17]].flatten ++ ([[e7]].flatten ++ ([[e18]].flatten ++ ([[e19]].flatten ++ ([[e20]].flatten ++ ([[e21]].flatten ++ ([[e6]].flatten ++ ([[e22]].flatten ++ ([[e23]].flatten ++ ([[e24]].flatten ++ ([])))))))))))))))))))))))))) := (Els.cons (c := [[e8]].flatten) ⟨_, rfl, he8⟩ rfl (Els.cons (c := [[e0]].flatten) ⟨_, rfl, he0⟩ rfl (Els.cons (c := [[e2]].flatten) ⟨_, rfl, he2⟩ rfl (Els.cons (c := [[e1]].flatten) ⟨_, rfl, he1⟩ rfl (Els.cons (c := [[e4]].flatten) ⟨_, rfl, he4⟩ rfl (Els.cons (c := [[e5]].flatten) ⟨_, rfl, he5⟩ rfl (Els.cons (c := [[e9]].flatten) ⟨_, rfl, he9⟩ rfl (Els.cons (c := [[e10]].flatten) ⟨_, rfl, he10⟩ rfl (Els.cons (c := [[e11]].flatten) ⟨_, rfl, he11⟩ rfl (Els.cons (c := [[e12]].flatten) ⟨_, rfl, he12⟩ rfl (Els.cons (c := [[e13]].flatten) ⟨_, rfl, he13⟩ rfl (Els.cons (c := [[e14]].flatten) ⟨_, rfl, he14⟩ rfl (Els.cons (c := [[e15]].flatten) ⟨_, rfl, he15⟩ rfl (Els.cons (c := [[e3]].flatten) ⟨_, rfl, he3⟩ rfl (Els.cons (c := [[e16]].flatten) ⟨_, rfl, he16⟩ rfl (Els.cons (c := [[e17]].flatten) ⟨_, rfl, he17⟩ rfl (Els.cons (c := [[e7]].flatten) ⟨_, rfl, he7⟩ rfl (Els.cons (c := [[e18]].flatten) ⟨_, rfl, he18⟩ rfl (Els.cons (c := [[e19]].flatten) ⟨_, rfl, he19⟩ rfl (Els.cons (c := [[e20]].flatten) ⟨_, rfl, he20⟩ rfl (Els.cons (c := [[e21]].flatten) ⟨_, rfl, he21⟩ rfl (Els.cons (c := [[e6]].flatten) ⟨_, rfl, he6⟩ rfl (Els.cons (c := [[e22]].flatten) ⟨_, rfl, he22⟩ rfl (Els.cons (c := [[e23]].flatten) ⟨_, rfl, he23⟩ rfl (Els.cons (c := [[e24]].flatten) ⟨_, rfl, he24⟩ rfl Els.nil)))))))))))))))))))))))))
  refine o_bsl ([[e8]].flatten ++ ([[e0]].flatten ++ ([[e2]].flatten ++ ([[e1]].flatten ++ ([[e4]].flatten ++ ([[e5]].flatten ++ ([[e9]].flatten ++ ([[e10]].flatten ++ ([[e11]].flatten ++ ([[e12]].flatten ++ ([[e13]].flatten ++ ([[e14]].flatten ++ ([[e15]].flatten ++ ([[e3]].flatten ++ ([[e16]].flatten ++ ([[e17]].flatten ++ ([[e7]].flatten ++ ([[e18]].flatten ++ ([[e19]].flatten ++ ([[e20]].flatten ++ ([[e21]].flatten ++ ([[e6]].flatten ++ ([[e22]].flatten ++ ([[e23]].flatten ++ ([[e24]].flatten ++ ([])))))))))))))))))))))))))) te34 zr34 Tryd.underlying196 hI hA rfl rfl rfl rfl ((fill_one (cells_err1 he8) rfl (by kernel_rfl)).trans ((fill_one (cells_err1 he0) rfl (by kernel_rfl)).trans ((fill_one (cells_err1 he2) rfl (by kernel_rfl)).trans ((fill_one (cells_err1 he1) rfl (by kernel_rfl)).trans ((fill_one (cells_err1 he4) rfl (by kernel_rfl)).trans ((fill_one (cells_err1 he5) rfl (by kernel_rfl)).trans ((fill_one (cells_err1 he9) rfl (by kernel_rfl)).trans ((fill_one (cells_err1 he10) rfl (by kernel_rfl)).trans ((fill_one (cells_err1 he11) rfl (by kernel_rfl)).trans ((fill_one (cells_err1 he12) rfl (by kernel_rfl)).trans ((fill_one (cells_err1 he13) rfl (by kernel_rfl)).trans ((fill_one (cells_err1 he14) rfl (by kernel_rfl)).trans ((fill_one (cells_err1 he15) rfl (by kernel_rfl)).trans ((fill_one (cells_err1 he3) rfl (by kernel_rfl)).trans ((fill_one (cells_err1 he16) rfl (by kernel_rfl)).trans ((fill_one (cells_err1 he17) rfl (by kernel_rfl)).trans ((fill_one (cells_err1 he7) rfl (by kernel_rfl)).trans ((fill_one (cells_err1 he18) rfl (by kernel_rfl)).trans ((fill_one (cells_err1 he19) rfl (by kernel_rfl)).trans ((fill_one (cells_err1 he20) rfl (by kernel_rfl)).trans ((fill_one (cells_err1 he21) rfl (by kernel_rfl)).trans ((fill_one (cells_err1 he6) rfl (by kernel_rfl)).trans ((fill_one (cells_err1 he22) rfl (by kernel_rfl)).trans ((fill_one (cells_err1 he23) rfl (by kernel_rfl)).trans ((fill_one (cells_err1 he24) rfl (by kernel_rfl)).trans (by kernel_rfl)))))))))))))))))))))))))) rfl fun g1 a w hA hI => ?_
  generalize hcs : ([[e8]].flatten ++ ([[e0]].flatten ++ ([[e2]].flatten ++ ([[e1]].flatten ++ ([[e4]].flatten ++ ([[e5]].flatten ++ ([[e9]].flatten ++ ([[e10]].flatten ++ ([[e11]].flatten ++ ([[e12]].flatten ++ ([[e13]].flatten ++ ([[e14]].flatten ++ ([[e15]].flatten ++ ([[e3]].flatten ++ ([[e16]].flatten ++ ([[e17]].flatten ++ ([[e7]].flatten ++ ([[e18]].flatten ++ ([[e19]].flatten ++ ([[e20]].flatten ++ ([[e21]].flatten ++ ([[e6]].flatten ++ ([[e22]].flatten ++ ([[e23]].flatten ++ ([[e24]].flatten ++ ([]))))))))))))))))))))))))) : List Value) = cs1 at hE1 hI
  clear hcs
  refine stp hA (r_as hA rfl) rfl fun a hA => ?_
  refine o_nil ?_
  refine hN2 _ _ ?_
  refine w_ret ?_
  obtain rfl := Option.some.inj (bS H)
  exact ret1 hA Tryd.results154 rfl ⟨_, rfl, (.slice (some ⟨g1, 0, none⟩) 25 25), cs1, μ, rfl, hE1, hI⟩
set_option maxRecDepth 20000 in
theorem sargassosee_Alike.c (μ : Store) (w0 : World) (hμ : Agr μ w0) (x0 : Er) (u0 : Value) (hx0 : ErS μ u0 x0) (x1 : Er) (u1 : Value) (hx1 : ErS μ u1 x1) (r : Bool) (H : sargassosee_Alike.f x0 x1 = some r) :
    Calls Tryd.prog 155 [u0, u1].toArray w0 (fun e w' => ∃ v, e = .returned v ∧ v = .bool r ∧ True ∧ Iv w0 [] μ μ [] w') := by
  refine enter Tryd.func155 rfl Tryd.ntmps155 rfl fun a hA => ?_
  have hI := Iv.start hμ
  have H := bI H
  refine w_seq fun _ hN1 => ?_
  refine w_reg ?_
  refine stp hA (r_as hA rfl) rfl fun a hA => ?_
  refine o_nil ?_
  refine hN1 _ _ ?_
  refine w_seq fun _ hN2 => ?_
  obtain ⟨c1, hz1, Hk1⟩ := bB H
  refine w_cut (fun a w => Fr a 20 [(0, u0), (1, u1), (4, .bool false), (10, .bool c1)] ∧ Iv w0 [] μ μ [] w) ?_ ?_
  · have H := bI hz1
    refine w_reg ?_
    refine stp hA (r_mv hA rfl) rfl fun a hA => 
      stp hA (r_eqE erF hI.agr hx0 erv_nil (.inl ⟨.inr ⟨_, rfl⟩, Er.fitR⟩) hA rfl rfl) rfl fun a hA => 
      stp hA (r_mv hA rfl) rfl fun a hA => ?_
    rcases Bool.eq_false_or_eq_true (decide (x0 = (Er.b 0))) with hc1 | hc1
    · have hc10 := hc1; have hc1 := of_decide_eq_true hc1; have H := bT H hc1
      refine o_no hA rfl rfl (by rw [hc10]; simp [vb]) rfl fun a hA => 
        o_no hA rfl rfl (by rw [hc10]; simp [vb]) rfl fun a hA => 
        stp hA (r_pick_t hA rfl hc10 rfl) rfl fun a hA => ?_
      refine o_nil ?_
      cases Option.some.inj (bS H)
      exact ⟨hA.sub ⟨rfl, rfl, rfl, rfl, trivial⟩, hI⟩
    · have hc10 := hc1; have hc1 := of_decide_eq_false hc1; have H := bF H hc1
      refine o_yes hA rfl rfl hc10 <| 
        stp hA (r_mv hA rfl) rfl fun a hA => 
        o_yes hA rfl rfl hc10 <| 
        stp hA (r_eqE erF hI.agr hx1 erv_nil (.inl ⟨.inr ⟨_, rfl⟩, Er.fitR⟩) hA rfl rfl) rfl fun a hA => 
        stp hA (r_pick_f hA rfl hc10 rfl) rfl fun a hA => ?_
      refine o_nil ?_
      cases Option.some.inj (bS H)
      exact ⟨hA.sub ⟨rfl, rfl, rfl, rfl, trivial⟩, hI⟩
  · rintro a w ⟨hA, hI⟩
    have H := Hk1
    refine w_cond hA rfl (fun hc2 => ?_) (fun hc2 => ?_)
    · have hc20 := hc2; have H := bT H hc2
      obtain ⟨c2, hz2, Hk2⟩ := bB H
      refine w_cut (fun a w => Fr a 20 [(0, u0), (1, u1), (4, .bool c2), (10, .bool c1)] ∧ Iv w0 [] μ μ [] w) ?_ ?_
      · have H := bI hz2
        refine w_reg ?_
        refine stp hA (r_mv hA rfl) rfl fun a hA => 
          stp hA (r_eqE erF hI.agr hx0 erv_nil (.inl ⟨.inr ⟨_, rfl⟩, Er.fitR⟩) hA rfl rfl) rfl fun a hA => 
          stp hA (r_mv hA rfl) rfl fun a hA => ?_
        rcases Bool.eq_false_or_eq_true (decide (x0 = (Er.b 0))) with hc3 | hc3
        · have hc30 := hc3; have hc3 := of_decide_eq_true hc3; have H := bT H hc3
          refine o_yes hA rfl rfl hc30 <| 
            stp hA (r_mv hA rfl) rfl fun a hA => 
            o_yes hA rfl rfl hc30 <| 
            stp hA (r_eqE erF hI.agr hx1 erv_nil (.inl ⟨.inr ⟨_, rfl⟩, Er.fitR⟩) hA rfl rfl) rfl fun a hA => 
            stp hA (r_pick_t hA rfl hc30 rfl) rfl fun a hA => 
            stp hA (r_as hA rfl) rfl fun a hA => ?_
          refine o_nil ?_
          cases Option.some.inj (bS H)
          exact ⟨hA.sub ⟨rfl, rfl, rfl, rfl, trivial⟩, hI⟩
        · have hc30 := hc3; have hc3 := of_decide_eq_false hc3; have H := bF H hc3
          refine o_no hA rfl rfl (by rw [hc30]; simp [vb]) rfl fun a hA => 
            o_no hA rfl rfl (by rw [hc30]; simp [vb]) rfl fun a hA => 
            stp hA (r_pick_f hA rfl hc30 rfl) rfl fun a hA => 
            stp hA (r_as hA rfl) rfl fun a hA => ?_
          refine o_nil ?_
          cases Option.some.inj (bS H)
          exact ⟨hA.sub ⟨rfl, rfl, rfl, rfl, trivial⟩, hI⟩
      · rintro a w ⟨hA, hI⟩
        have H := Hk2
        refine w_ret ?_
        obtain rfl := Option.some.inj (bS H)
        exact ret1 hA Tryd.results155 rfl ⟨_, rfl, rfl, trivial, hI.forget0⟩
    · have hc20 := hc2; have hc2 := ft hc2; have H := bF H hc2
      refine w_skip ?_
      refine hN2 _ _ ?_
      refine w_seq fun _ hN3 => ?_
      refine w_reg ?_
      refine stp hA (r_mv hA rfl) rfl fun a hA => 
        stp hA (r_mv hA rfl) rfl fun a hA => ?_
      obtain ⟨hb1, H⟩ := bG H
      refine stp hA (r_eqE erF hI.agr hx0 hx1 (.inr hb1) hA rfl rfl) rfl fun a hA => 
        stp hA (r_as hA rfl) rfl fun a hA => ?_
      refine o_nil ?_
      refine hN3 _ _ ?_
      refine w_ret ?_
      obtain rfl := Option.some.inj (bS H)
      exact ret1 hA Tryd.results155 rfl ⟨_, rfl, rfl, trivial, hI.forget0⟩
set_option maxRecDepth 20000 in
theorem sargassosee_sentinel.c (μ : Store) (w0 : World) (hμ : Agr μ w0) (x0 : Er) (u0 : Value) (hx0 : ErS μ u0 x0) (hG : Gl μ) (r : Int) (H : sargassosee_sentinel.f x0 = some r) :
    Calls Tryd.prog 148 [u0].toArray w0 (fun e w' => ∃ v, e = .returned v ∧ v = .int .i64 r ∧ InR .i64 r ∧ Iv w0 [] μ μ [] w') := by
  refine enter Tryd.func148 rfl Tryd.ntmps148 rfl fun a hA => ?_
  have hI := Iv.start hμ
  have H := bI H
  refine w_seq fun _ hN1 => ?_
  refine w_reg ?_
  refine stp hA (r_as hA rfl) rfl fun a hA => ?_
  refine o_nil ?_
  refine hN1 _ _ ?_
  refine w_seq fun _ hN2 => ?_
  refine w_reg ?_
  obtain ⟨r1, hr1, H⟩ := bB H
  refine o_call _ cf154 hA rfl (sargassosee_sentinels.c μ _ hI.agr hG r1 hr1) rfl fun v1 a w hz1 hA => ?_
  obtain ⟨_, cs1, μ1, rfl, hE1, hi1⟩ := hz1
  have hI := hI.call hi1
  refine stp hA (r_as hA rfl) rfl fun a hA => ?_
  refine o_nil ?_
  refine hN2 _ _ ?_
  refine w_seq fun _ hN3 => ?_
  refine w_seq fun _ hN4 => ?_
  refine w_reg ?_
  refine stp hA (r_as hA rfl) rfl fun a hA => ?_
  refine o_nil ?_
  refine hN4 _ _ ?_
  refine w_block ?_
  obtain ⟨z1, hz2, Hk1⟩ := bind_some H
  obtain ⟨n1, hn1⟩ := loopO_some hz2
  refine w_loop (fun n a w => ∃ (s1 : Int), loopN (sargassosee_sentinel.s0 x0 r1) n s1 = some z1 ∧ InR .i64 s1 ∧ Fr a 20 [(0, u0), (2, .int .i64 0), (3, v1), (4, .int .i64 s1)] ∧ Iv w0 [] μ μ1 [row 34 1 v1 r1.length cs1] w) n1 ⟨0, hn1, (in_lit .i64 0 rfl), hA.sub ⟨rfl, rfl, rfl, rfl, trivial⟩, hI⟩ ?_
  clear hA hI
  rintro n a w ⟨s1, hn1, ws1, hA, hI⟩
  obtain ⟨m1, rfl, H⟩ := loopN_bind hn1
  clear hn1
  refine w_seq fun _ hN5 => ?_
  refine w_seq fun _ hN6 => ?_
  refine w_reg ?_
  refine stp hA (r_mv hA rfl) rfl fun a hA => 
    stp hA (r_mv hA rfl) rfl fun a hA => ?_
  have hlen1 := Iv.row_in hI (j := 0) rfl
  refine stp hA (r_rlen (xs := 0) Tryd.underlying196 hI (j := 0) rfl hA rfl) rfl fun a hA => 
    stp hA (r_lss hA rfl rfl) rfl fun a hA => ?_
  refine o_nil ?_
  refine hN6 _ _ ?_
  refine w_cond hA rfl (fun hc1 => ?_) (fun hc1 => ?_)
  · have hc10 := hc1; have hc1 := of_decide_eq_true hc1; have H := bT H hc1
    refine w_skip ?_
    refine hN5 _ _ ?_
    refine w_seq fun _ hN7 => ?_
    refine w_block ?_
    refine w_seq fun _ hN8 => ?_
    refine w_reg ?_
    refine stp hA (r_mv hA rfl) rfl fun a hA => 
      stp hA (r_mv hA rfl) rfl fun a hA => 
      stp hA (r_mv hA rfl) rfl fun a hA => ?_
    obtain ⟨hb1, H⟩ := bG H
    refine stp hA (r_rix (j := 0) Tryd.underlying196 sz34 hI rfl hA rfl rfl hb1.1 hb1.2) rfl fun a hA => ?_
    obtain ⟨A1, _, B1, hc2, hl1, _, he1⟩ := Els.at_ hE1 (getD_some (Er.b 0) hb1.1 hb1.2)
    obtain ⟨v2, rfl, hw1⟩ := he1
    refine stp hA (r_rldQ (j := 0) (q := s1.toNat * 1) (off := 0) A1 B1 [] [] hc2 hl1 rfl Tryd.underlying34 rfl hI rfl hA rfl) rfl fun a hA => ?_
    obtain ⟨r2, hr2, H⟩ := bB H
    refine o_callp (u := .bool r2) cf155 hA rfl hI (sargassosee_Alike.c μ1 _ hI.agr x0 u0 (ErV.le (fun _ _ h => h) hi1.le hx0) (r1.getD s1.toNat (Er.b 0)) v2 hw1 r2 hr2) rfl fun a w hz3 hI hA => ?_
    refine o_nil ?_
    refine hN8 _ _ ?_
    refine w_cond hA rfl (fun hc3 => ?_) (fun hc3 => ?_)
    · have hc30 := hc3; have H := bT H hc3
      refine w_seq fun _ hN9 => ?_
      refine w_reg ?_
      refine stp hA (r_mv hA rfl) rfl fun a hA => 
        stp hA (r_add hA rfl rfl) rfl fun a hA => 
        stp hA (r_as hA rfl) rfl fun a hA => ?_
      refine o_nil ?_
      refine hN9 _ _ ?_
      refine w_ret ?_
      have H : some (IntKind.i64.wrap (101 + s1)) = some z1 := H
      obtain rfl := Option.some.inj H
      have H := Hk1
      obtain rfl := Option.some.inj (bS H)
      exact ret1 hA Tryd.results148 rfl ⟨_, rfl, rfl, (wrap_in _ _), hI.forget0⟩
    · have hc30 := hc3; have hc3 := ft hc3; have H := bF H hc3
      refine w_skip ?_
      refine hN7 _ _ ?_
      refine w_reg ?_
      refine stp hA (r_mv hA rfl) rfl fun a hA => 
        stp hA (r_add hA rfl rfl) rfl fun a hA => 
        stp hA (r_as hA rfl) rfl fun a hA => ?_
      refine o_nil ?_
      exact ⟨m1, Nat.lt_succ_self _, IntKind.i64.wrap (s1 + 1), H, (wrap_in _ _), hA.sub ⟨rfl, rfl, rfl, rfl, trivial⟩, hI⟩
  · have hc10 := hc1; have hc1 := of_decide_eq_false hc1; have H := bF H hc1
    refine w_exit rfl ?_
    refine hN3 _ _ ?_
    refine w_seq fun _ hN10 => ?_
    refine w_reg ?_
    refine stp hA (r_as hA rfl) rfl fun a hA => ?_
    refine o_nil ?_
    refine hN10 _ _ ?_
    refine w_ret ?_
    have H : some (-1) = some z1 := H
    obtain rfl := Option.some.inj H
    have H := Hk1
    obtain rfl := Option.some.inj (bS H)
    exact ret1 hA Tryd.results148 rfl ⟨_, rfl, rfl, (in_lit .i64 (-1) rfl), hI.forget0⟩
set_option maxRecDepth 20000 in
theorem sargassoref_Around.c (μ : Store) (w0 : World) (hμ : Agr μ w0) (x0 : sargassorefFault) (hx0 : sargassorefFaultW μ x0) (x1 : Int) (hx1 : InR .i64 x1) (r : sargassorefFault) (H : sargassoref_Around.f x0 x1 = some r) :
    Calls Tryd.prog 149 [.agg [[.int .i64 x0.Code], [.bool x0.Placed], [.int .i64 x0.Pos], [.bool x0.Outer], [.int .i64 x0.At]].flatten.toArray, .int .i64 x1].toArray w0 (fun e w' => ∃ v, e = .returned v ∧ v = .agg [[.int .i64 r.Code], [.bool r.Placed], [.int .i64 r.Pos], [.bool r.Outer], [.int .i64 r.At]].flatten.toArray ∧ sargassorefFaultW μ r ∧ Iv w0 [] μ μ [] w') := by
  refine enter Tryd.func149 rfl Tryd.ntmps149 rfl fun a hA => ?_
  have hI := Iv.start hμ
  have H := bI H
  refine w_seq fun _ hN1 => ?_
  refine w_reg ?_
  refine o_box [[.int .i64 x0.Code], [.bool x0.Placed], [.int .i64 x0.Pos], [.bool x0.Outer], [.int .i64 x0.At]] hI hA rfl rfl rfl fun g1 a w hA hI hg1 => 
    o_new [[.int .i64 0], [.bool false], [.int .i64 0], [.bool false], [.int .i64 0]] zr109 hI hA rfl fun g2 a w hA hI hg2 => ?_
  refine o_nil ?_
  refine hN1 _ _ ?_
  refine w_seq fun _ hN2 => ?_
  refine w_block ?_
  refine w_seq fun _ hN3 => ?_
  refine w_reg ?_
  refine stp hA (r_fd (k := 0) Tryd.underlying109 rfl sz3 hA rfl rfl) rfl fun a hA => 
    stp hA (r_ld1 (j := 1) [] [[.bool x0.Placed], [.int .i64 x0.Pos], [.bool x0.Outer], [.int .i64 x0.At]] Tryd.underlying3 rfl hI rfl hA rfl rfl) rfl fun a hA => 
    stp hA (r_eql hA rfl rfl) rfl fun a hA => 
    stp hA (r_as hA rfl) rfl fun a hA => ?_
  refine o_nil ?_
  refine hN3 _ _ ?_
  refine w_cond hA rfl (fun hc1 => ?_) (fun hc1 => ?_)
  · have hc10 := hc1; have hc1 := of_decide_eq_true hc1; have H := bT H hc1
    refine w_seq fun _ hN4 => ?_
    refine w_reg ?_
    refine stp hA (r_ldA (j := 1) [] [[.int .i64 x0.Code], [.bool x0.Placed], [.int .i64 x0.Pos], [.bool x0.Outer], [.int .i64 x0.At]] [] Tryd.underlying109 rfl sz109 rfl hI rfl hA rfl rfl) rfl fun a hA => 
      o_st (j := 0) [] [[.int .i64 0], [.bool false], [.int .i64 0], [.bool false], [.int .i64 0]] [[.int .i64 x0.Code], [.bool x0.Placed], [.int .i64 x0.Pos], [.bool x0.Outer], [.int .i64 x0.At]] [] sz109 rfl rfl (fl_cons (one_one rfl) (fl_cons (one_one rfl) (fl_cons (one_one rfl) (fl_cons (one_one rfl) (fl_cons (one_one rfl) fl_nil))))) hI rfl hA rfl rfl rfl rfl fun w hI => ?_
    refine o_nil ?_
    refine hN4 _ _ ?_
    refine w_ret ?_
    obtain rfl := Option.some.inj (bS H)
    exact retc Tryd.underlying109 rfl sz109 rfl hI (j := 0) rfl hA Tryd.results149 rfl ⟨_, rfl, rfl, ⟨hx0.1, hx0.2.1, hx0.2.2⟩, hI.forget0⟩
  · have hc10 := hc1; have hc1 := of_decide_eq_false hc1; have H := bF H hc1
    refine w_seq fun _ hN5 => ?_
    refine w_reg ?_
    refine stp hA (r_fd (k := 1) Tryd.underlying109 rfl sz4 hA rfl rfl) rfl fun a hA => 
      stp hA (r_ld1 (j := 1) [[.int .i64 x0.Code]] [[.int .i64 x0.Pos], [.bool x0.Outer], [.int .i64 x0.At]] Tryd.underlying4 rfl hI rfl hA rfl rfl) rfl fun a hA => 
      stp hA (r_not hA rfl) rfl fun a hA => 
      stp hA (r_as hA rfl) rfl fun a hA => ?_
    refine o_nil ?_
    refine hN5 _ _ ?_
    refine w_cond hA rfl (fun hc2 => ?_) (fun hc2 => ?_)
    · have hc20 := hc2; have hc2 := nT hc2; have hc2 := ft hc2; have H := bF H hc2
      refine w_seq fun _ hN6 => ?_
      refine w_reg ?_
      refine stp hA (r_fd (k := 0) Tryd.underlying109 rfl sz3 hA rfl rfl) rfl fun a hA => 
        stp hA (r_ld1 (j := 1) [] [[.bool x0.Placed], [.int .i64 x0.Pos], [.bool x0.Outer], [.int .i64 x0.At]] Tryd.underlying3 rfl hI rfl hA rfl rfl) rfl fun a hA => 
        stp hA (r_mv hA rfl) rfl fun a hA => ?_
      obtain ⟨r1, hr1, H⟩ := bB H
      refine o_callp (u := .agg [[.int .i64 r1.Code], [.bool r1.Placed], [.int .i64 r1.Pos], [.bool r1.Outer], [.int .i64 r1.At]].flatten.toArray) cf74 hA rfl hI (sargassoref_Placed.c μ _ hI.agr x0.Code hx0.1 x1 hx1 r1 hr1) rfl fun a w hz1 hI hA => 
        o_st (j := 0) [] [[.int .i64 0], [.bool false], [.int .i64 0], [.bool false], [.int .i64 0]] [[.int .i64 r1.Code], [.bool r1.Placed], [.int .i64 r1.Pos], [.bool r1.Outer], [.int .i64 r1.At]] [] sz109 rfl rfl (fl_cons (one_one rfl) (fl_cons (one_one rfl) (fl_cons (one_one rfl) (fl_cons (one_one rfl) (fl_cons (one_one rfl) fl_nil))))) hI rfl hA rfl rfl rfl rfl fun w hI => ?_
      refine o_nil ?_
      refine hN6 _ _ ?_
      refine w_ret ?_
      obtain rfl := Option.some.inj (bS H)
      exact retc Tryd.underlying109 rfl sz109 rfl hI (j := 0) rfl hA Tryd.results149 rfl ⟨_, rfl, rfl, ⟨hz1.1, hz1.2.1, hz1.2.2⟩, hI.forget0⟩
    · have hc20 := hc2; have hc2 := nF hc2; have H := bT H hc2
      refine w_skip ?_
      refine hN2 _ _ ?_
      refine w_seq fun _ hN7 => ?_
      refine w_reg ?_
      refine stp hA (r_fd (k := 3) Tryd.underlying109 rfl sz4 hA rfl rfl) rfl fun a hA => 
        o_st (j := 1) [[.int .i64 x0.Code], [.bool x0.Placed], [.int .i64 x0.Pos]] [[.bool x0.Outer]] [[.bool true]] [[.int .i64 x0.At]] sz4 rfl rfl (fl_cons (one_one rfl) fl_nil) hI rfl hA rfl rfl rfl rfl fun w hI => ?_
      refine o_nil ?_
      refine hN7 _ _ ?_
      refine w_seq fun _ hN8 => ?_
      refine w_reg ?_
      refine stp hA (r_mv hA rfl) rfl fun a hA => 
        stp hA (r_fd (k := 4) Tryd.underlying109 rfl sz3 hA rfl rfl) rfl fun a hA => 
        o_st (j := 1) [[.int .i64 x0.Code], [.bool x0.Placed], [.int .i64 x0.Pos], [.bool true]] [[.int .i64 x0.At]] [[.int .i64 x1]] [] sz3 rfl rfl (fl_cons (one_one rfl) fl_nil) hI rfl hA rfl rfl rfl rfl fun w hI => ?_
      refine o_nil ?_
      refine hN8 _ _ ?_
      refine w_seq fun _ hN9 => ?_
      refine w_reg ?_
      refine stp hA (r_ldA (j := 1) [] [[.int .i64 x0.Code], [.bool x0.Placed], [.int .i64 x0.Pos], [.bool true], [.int .i64 x1]] [] Tryd.underlying109 rfl sz109 rfl hI rfl hA rfl rfl) rfl fun a hA => 
        o_st (j := 0) [] [[.int .i64 0], [.bool false], [.int .i64 0], [.bool false], [.int .i64 0]] [[.int .i64 x0.Code], [.bool x0.Placed], [.int .i64 x0.Pos], [.bool true], [.int .i64 x1]] [] sz109 rfl rfl (fl_cons (one_one rfl) (fl_cons (one_one rfl) (fl_cons (one_one rfl) (fl_cons (one_one rfl) (fl_cons (one_one rfl) fl_nil))))) hI rfl hA rfl rfl rfl rfl fun w hI => ?_
      refine o_nil ?_
      refine hN9 _ _ ?_
      refine w_ret ?_
      obtain rfl := Option.some.inj (bS H)
      exact retc Tryd.underlying109 rfl sz109 rfl hI (j := 0) rfl hA Tryd.results149 rfl ⟨_, rfl, rfl, ⟨hx0.1, hx0.2.1, hx1⟩, hI.forget0⟩
set_option maxRecDepth 20000 in
theorem sargassosee_Fault.c (μ : Store) (w0 : World) (hμ : Agr μ w0) (x0 : Er) (u0 : Value) (hx0 : ErS μ u0 x0) (hG : Gl μ) (r : sargassorefFault) (H : sargassosee_Fault.f x0 = some r) :
    Calls Tryd.prog 130 [u0].toArray w0 (fun e w' => ∃ v, e = .returned v ∧ v = .agg [[.int .i64 r.Code], [.bool r.Placed], [.int .i64 r.Pos], [.bool r.Outer], [.int .i64 r.At]].flatten.toArray ∧ sargassorefFaultW μ r ∧ Iv w0 [] μ μ [] w') := by
  refine enter Tryd.func130 rfl Tryd.ntmps130 rfl fun a hA => ?_
  have hI := Iv.start hμ
  have H := bI H
  refine w_seq fun _ hN1 => ?_
  refine w_reg ?_
  refine o_new [[.int .i64 0], [.bool false], [.int .i64 0], [.bool false], [.int .i64 0]] zr109 hI hA rfl fun g1 a w hA hI hg1 => ?_
  refine o_nil ?_
  refine hN1 _ _ ?_
  refine w_seq fun _ hN2 => ?_
  refine w_seq fun _ hN3 => ?_
  refine w_reg ?_
  refine stp hA (r_mv hA rfl) rfl fun a hA => 
    stp hA (r_eqE erF hI.agr hx0 erv_nil (.inl ⟨.inr ⟨_, rfl⟩, Er.fitR⟩) hA rfl rfl) rfl fun a hA => ?_
  refine o_nil ?_
  refine hN3 _ _ ?_
  refine w_cond hA rfl (fun hc1 => ?_) (fun hc1 => ?_)
  · have hc10 := hc1; have hc1 := of_decide_eq_true hc1; have H := bT H hc1
    refine w_seq fun _ hN4 => ?_
    refine w_reg ?_
    obtain ⟨r1, hr1, H⟩ := bB H
    refine o_callp (u := .agg [[.int .i64 r1.Code], [.bool r1.Placed], [.int .i64 r1.Pos], [.bool r1.Outer], [.int .i64 r1.At]].flatten.toArray) cf131 hA rfl hI (sargassoref_None.c μ _ hI.agr  r1 hr1) rfl fun a w hz1 hI hA => 
      o_st (j := 0) [] [[.int .i64 0], [.bool false], [.int .i64 0], [.bool false], [.int .i64 0]] [[.int .i64 r1.Code], [.bool r1.Placed], [.int .i64 r1.Pos], [.bool r1.Outer], [.int .i64 r1.At]] [] sz109 rfl rfl (fl_cons (one_one rfl) (fl_cons (one_one rfl) (fl_cons (one_one rfl) (fl_cons (one_one rfl) (fl_cons (one_one rfl) fl_nil))))) hI rfl hA rfl rfl rfl rfl fun w hI => ?_
    refine o_nil ?_
    refine hN4 _ _ ?_
    refine w_ret ?_
    obtain rfl := Option.some.inj (bS H)
    exact retc Tryd.underlying109 rfl sz109 rfl hI (j := 0) rfl hA Tryd.results130 rfl ⟨_, rfl, rfl, ⟨hz1.1, hz1.2.1, hz1.2.2⟩, hI.forget0⟩
  · have hc10 := hc1; have hc1 := of_decide_eq_false hc1; have H := bF H hc1
    refine w_skip ?_
    refine hN2 _ _ ?_
    refine w_seq fun _ hN5 => ?_
    refine w_reg ?_
    refine stp hA (r_mv hA rfl) rfl fun a hA => 
      stp hA (r_asP (by decide) Tryd.underlying168 zrA hx0 hA rfl) rfl fun a hA => 
      stp hA (r_mv hA rfl) rfl fun a hA => 
      stp hA (r_extr (vs := [aP 168 u0, .bool x0.isP]) hA rfl rfl) rfl fun a hA => 
      stp hA (r_extr (vs := [aP 168 u0, .bool x0.isP]) hA rfl rfl) rfl fun a hA => 
      stp hA (r_as hA rfl) rfl fun a hA => 
      stp hA (r_as hA rfl) rfl fun a hA => ?_
    refine o_nil ?_
    refine hN5 _ _ ?_
    refine w_seq fun _ hN6 => ?_
    refine w_seq fun _ hN7 => ?_
    refine w_reg ?_
    refine stp hA (r_mv hA rfl) rfl fun a hA => 
      stp hA (r_not hA rfl) rfl fun a hA => ?_
    refine o_nil ?_
    refine hN7 _ _ ?_
    refine w_cond hA rfl (fun hc2 => ?_) (fun hc2 => ?_)
    · have hc20 := hc2; have hc2 := nT hc2; have hc2 := ft hc2; have H := bF H hc2; have hc2P : x0.isP = false := by simpa using hc20
      refine w_seq fun _ hN8 => ?_
      refine w_reg ?_
      refine stp hA (r_mv hA rfl) rfl fun a hA => ?_
      obtain ⟨r2, hr2, H⟩ := bB H
      refine o_callp (u := .int .i64 r2) cf148 hA rfl hI (sargassosee_sentinel.c μ _ hI.agr x0 u0 hx0 hG r2 hr2) rfl fun a w hz2 hI hA => ?_
      obtain ⟨r3, hr3, H⟩ := bB H
      refine o_callp (u := .agg [[.int .i64 r3.Code], [.bool r3.Placed], [.int .i64 r3.Pos], [.bool r3.Outer], [.int .i64 r3.At]].flatten.toArray) cf96 hA rfl hI (sargassoref_Bare.c μ _ hI.agr r2 hz2 r3 hr3) rfl fun a w hz3 hI hA => 
        o_st (j := 0) [] [[.int .i64 0], [.bool false], [.int .i64 0], [.bool false], [.int .i64 0]] [[.int .i64 r3.Code], [.bool r3.Placed], [.int .i64 r3.Pos], [.bool r3.Outer], [.int .i64 r3.At]] [] sz109 rfl rfl (fl_cons (one_one rfl) (fl_cons (one_one rfl) (fl_cons (one_one rfl) (fl_cons (one_one rfl) (fl_cons (one_one rfl) fl_nil))))) hI rfl hA rfl rfl rfl rfl fun w hI => ?_
      refine o_nil ?_
      refine hN8 _ _ ?_
      refine w_ret ?_
      obtain rfl := Option.some.inj (bS H)
      exact retc Tryd.underlying109 rfl sz109 rfl hI (j := 0) rfl hA Tryd.results130 rfl ⟨_, rfl, rfl, ⟨hz3.1, hz3.2.1, hz3.2.2⟩, hI.forget0⟩
    · have hc20 := hc2; have hc2 := nF hc2; have H := bT H hc2; have hc2P : x0.isP = true := by simpa using hc20
      refine w_skip ?_
      refine hN6 _ _ ?_
      refine w_seq fun _ hN9 => ?_
      obtain ⟨g2, v1, hv1, hat1, hw1, hE1⟩ := ErV.isP hx0 hc2P
      rw [hv1] at hA
      obtain ⟨c1, hz4, Hk1⟩ := bB H
      refine w_cut (fun a w => Fr a 75 [(0, u0), (2, .pointer (some ⟨g1, 0, none⟩)), (3, .pointer (some ⟨g2, 0, none⟩)), (4, .bool x0.isP), (8, .bool (decide (x0 = (Er.b 0)))), (16, .bool (!x0.isP)), (28, .bool c1)] ∧ Iv w0 [] μ μ [cel g1 [[.int .i64 0], [.bool false], [.int .i64 0], [.bool false], [.int .i64 0]] 109] w) ?_ ?_
      · have H := bI hz4
        refine w_reg ?_
        refine stp hA (r_mv hA rfl) rfl fun a hA => 
          stp hA (r_ptrnil_eql Tryd.underlying168 hA rfl rfl) rfl fun a hA => 
          stp hA (r_mv hA rfl) rfl fun a hA => 
          o_yes hA rfl rfl rfl <| 
          stp hA (r_mv hA rfl) rfl fun a hA => 
          o_yes hA rfl rfl rfl <| 
          stp hA (r_nilc hA rfl) rfl fun a hA => 
          o_yes hA rfl rfl rfl <| 
          stp hA (r_fd (k := 0 + 1) Tryd.underlying170 rfl sz34 hA rfl rfl) rfl fun a hA => 
          o_yes hA rfl rfl rfl <| 
          stp hA (r_ldm1 [[.int .i64 x0.pos]] [] Tryd.underlying34 rfl hI.agr hat1 hA rfl rfl) rfl fun a hA => 
          o_yes hA rfl rfl rfl <| 
          stp hA (r_eqE erF hI.agr hE1 erv_nil (.inl ⟨.inr ⟨_, rfl⟩, Er.fitR⟩) hA rfl rfl) rfl fun a hA => 
          stp hA (r_pick_f hA rfl rfl rfl) rfl fun a hA => ?_
        refine o_nil ?_
        cases Option.some.inj (bS H)
        exact ⟨hA.sub ⟨rfl, rfl, rfl, rfl, rfl, rfl, rfl, trivial⟩, hI⟩
      · rintro a w ⟨hA, hI⟩
        have H := Hk1
        refine w_cond hA rfl (fun hc3 => ?_) (fun hc3 => ?_)
        · have hc30 := hc3; have H := bT H hc3
          refine w_seq fun _ hN10 => ?_
          refine w_reg ?_
          obtain ⟨r4, hr4, H⟩ := bB H
          refine o_callp (u := .agg [[.int .i64 r4.Code], [.bool r4.Placed], [.int .i64 r4.Pos], [.bool r4.Outer], [.int .i64 r4.At]].flatten.toArray) cf96 hA rfl hI (sargassoref_Bare.c μ _ hI.agr (-1) (in_lit .i64 (-1) rfl) r4 hr4) rfl fun a w hz5 hI hA => 
            o_st (j := 0) [] [[.int .i64 0], [.bool false], [.int .i64 0], [.bool false], [.int .i64 0]] [[.int .i64 r4.Code], [.bool r4.Placed], [.int .i64 r4.Pos], [.bool r4.Outer], [.int .i64 r4.At]] [] sz109 rfl rfl (fl_cons (one_one rfl) (fl_cons (one_one rfl) (fl_cons (one_one rfl) (fl_cons (one_one rfl) (fl_cons (one_one rfl) fl_nil))))) hI rfl hA rfl rfl rfl rfl fun w hI => ?_
          refine o_nil ?_
          refine hN10 _ _ ?_
          refine w_ret ?_
          obtain rfl := Option.some.inj (bS H)
          exact retc Tryd.underlying109 rfl sz109 rfl hI (j := 0) rfl hA Tryd.results130 rfl ⟨_, rfl, rfl, ⟨hz5.1, hz5.2.1, hz5.2.2⟩, hI.forget0⟩
        · have hc30 := hc3; have hc3 := ft hc3; have H := bF H hc3
          refine w_skip ?_
          refine hN9 _ _ ?_
          refine w_seq fun _ hN11 => ?_
          refine w_reg ?_
          refine stp hA (r_mv hA rfl) rfl fun a hA => 
            stp hA (r_nilc hA rfl) rfl fun a hA => 
            stp hA (r_fd (k := 0 + 1) Tryd.underlying170 rfl sz34 hA rfl rfl) rfl fun a hA => 
            stp hA (r_ldm1 [[.int .i64 x0.pos]] [] Tryd.underlying34 rfl hI.agr hat1 hA rfl rfl) rfl fun a hA => 
            stp hA (r_asP (by decide) Tryd.underlying168 zrA hE1 hA rfl) rfl fun a hA => 
            stp hA (r_mv hA rfl) rfl fun a hA => 
            stp hA (r_extr (vs := [aP 168 v1, .bool x0.err.isP]) hA rfl rfl) rfl fun a hA => 
            stp hA (r_extr (vs := [aP 168 v1, .bool x0.err.isP]) hA rfl rfl) rfl fun a hA => 
            stp hA (r_as hA rfl) rfl fun a hA => 
            stp hA (r_as hA rfl) rfl fun a hA => ?_
          refine o_nil ?_
          refine hN11 _ _ ?_
          refine w_seq fun _ hN12 => ?_
          refine w_seq fun _ hN13 => ?_
          refine w_reg ?_
          refine stp hA (r_mv hA rfl) rfl fun a hA => 
            stp hA (r_not hA rfl) rfl fun a hA => ?_
          refine o_nil ?_
          refine hN13 _ _ ?_
          refine w_cond hA rfl (fun hc4 => ?_) (fun hc4 => ?_)
          · have hc40 := hc4; have hc4 := nT hc4; have hc4 := ft hc4; have H := bF H hc4; have hc4P : x0.err.isP = false := by simpa using hc40
            refine w_seq fun _ hN14 => ?_
            refine w_anyS [] mo (fun w (h : Iv w0 [] μ μ [cel g1 [[.int .i64 0], [.bool false], [.int .i64 0], [.bool false], [.int .i64 0]] 109] w) => (h.sel [] (by decide) rfl : Iv w0 [] μ μ [] w)) hI fun w hI => ?_
            refine g_easy (i := 0) hA rfl rfl (by kernel_rfl) (.inr (hI.sel [] (by decide) rfl)) (fun _ => r_mv hA rfl) rfl fun a hA => ?_
            refine g_easy (i := 1) hA rfl rfl (by kernel_rfl) (.inr (hI.sel [] (by decide) rfl)) (fun _ => r_nilc hA rfl) rfl fun a hA => ?_
            refine g_easy (i := 2) hA rfl rfl (by kernel_rfl) (.inr (hI.sel [] (by decide) rfl)) (fun _ => r_fd (k := 0 + 1) Tryd.underlying170 rfl sz34 hA rfl rfl) rfl fun a hA => ?_
            refine g_take (i := 3) hA rfl rfl (by kernel_rfl) (hI.sel [] (by decide) rfl) (fun w hI => r_ldm1 [[.int .i64 x0.pos]] [] Tryd.underlying34 rfl hI.agr hat1 hA rfl rfl) rfl fun a hA => ?_
            refine g_easy (i := 5) hA rfl rfl (by kernel_rfl) (.inr (hI.sel [] (by decide) rfl)) (fun _ => r_mv hA rfl) rfl fun a hA => ?_
            refine g_easy (i := 6) hA rfl rfl (by kernel_rfl) (.inr (hI.sel [] (by decide) rfl)) (fun _ => r_nilc hA rfl) rfl fun a hA => ?_
            refine g_easy (i := 7) hA rfl rfl (by kernel_rfl) (.inr (hI.sel [] (by decide) rfl)) (fun _ => r_fd (k := 0) Tryd.underlying170 rfl sz3 hA rfl rfl) rfl fun a hA => ?_
            refine g_take (i := 8) hA rfl rfl (by kernel_rfl) (hI.sel [] (by decide) rfl) (fun w hI => r_ldm1 [] [[v1]] Tryd.underlying3 rfl hI.agr hat1 hA rfl rfl) rfl fun a hA => ?_
            refine g_forced (i := 4) rfl (by kernel_rfl) ?_
            obtain ⟨r5, hr5, H⟩ := bB H
            refine o_callp (u := .int .i64 r5) cf148 hA rfl hI (sargassosee_sentinel.c μ _ hI.agr x0.err v1 hE1 hG r5 hr5) rfl fun a w hz6 hI hA => ?_
            refine o_nil ?_
            refine ⟨(.inr (hI.sel [] (by decide) rfl)), ?_⟩
            refine g_forced (i := 9) rfl (by kernel_rfl) ?_
            obtain ⟨r6, hr6, H⟩ := bB H
            refine o_callp (u := .agg [[.int .i64 r6.Code], [.bool r6.Placed], [.int .i64 r6.Pos], [.bool r6.Outer], [.int .i64 r6.At]].flatten.toArray) cf74 hA rfl hI (sargassoref_Placed.c μ _ hI.agr r5 hz6 x0.pos hw1 r6 hr6) rfl fun a w hz7 hI hA => ?_
            refine o_nil ?_
            refine ⟨(.inr (hI.sel [] (by decide) rfl)), ?_⟩
            refine g_forced (i := 10) rfl (by kernel_rfl) ?_
            refine o_st (j := 0) [] [[.int .i64 0], [.bool false], [.int .i64 0], [.bool false], [.int .i64 0]] [[.int .i64 r6.Code], [.bool r6.Placed], [.int .i64 r6.Pos], [.bool r6.Outer], [.int .i64 r6.At]] [] sz109 rfl rfl (fl_cons (one_one rfl) (fl_cons (one_one rfl) (fl_cons (one_one rfl) (fl_cons (one_one rfl) (fl_cons (one_one rfl) fl_nil))))) hI rfl hA rfl rfl rfl rfl fun w hI => ?_
            refine o_nil ?_
            refine ⟨(.inr (hI.sel [] (by decide) rfl)), ?_⟩
            refine g_nil (by kernel_rfl) ?_
            refine hN14 _ _ ?_
            refine w_ret ?_
            obtain rfl := Option.some.inj (bS H)
            exact retc Tryd.underlying109 rfl sz109 rfl hI (j := 0) rfl hA Tryd.results130 rfl ⟨_, rfl, rfl, ⟨hz7.1, hz7.2.1, hz7.2.2⟩, hI.forget0⟩
          · have hc40 := hc4; have hc4 := nF hc4; have H := bT H hc4; have hc4P : x0.err.isP = true := by simpa using hc40
            refine w_skip ?_
            refine hN12 _ _ ?_
            refine w_seq fun _ hN15 => ?_
            obtain ⟨g3, v2, hv2, hat2, hw2, hE2⟩ := ErV.isP hE1 hc4P
            rw [hv2] at hA
            obtain ⟨c2, hz8, Hk2⟩ := bB H
            refine w_cut (fun a w => Fr a 75 [(0, u0), (2, .pointer (some ⟨g1, 0, none⟩)), (3, .pointer (some ⟨g2, 0, none⟩)), (4, .bool x0.isP), (5, .pointer (some ⟨g3, 0, none⟩)), (6, .bool x0.err.isP), (8, .bool (decide (x0 = (Er.b 0)))), (16, .bool (!x0.isP)), (28, .bool c1), (39, .bool (!x0.err.isP)), (58, .bool c2)] ∧ Iv w0 [] μ μ [cel g1 [[.int .i64 0], [.bool false], [.int .i64 0], [.bool false], [.int .i64 0]] 109] w) ?_ ?_
            · have H := bI hz8
              refine w_reg ?_
              refine stp hA (r_mv hA rfl) rfl fun a hA => 
                stp hA (r_ptrnil_eql Tryd.underlying168 hA rfl rfl) rfl fun a hA => 
                stp hA (r_mv hA rfl) rfl fun a hA => 
                o_yes hA rfl rfl rfl <| 
                stp hA (r_mv hA rfl) rfl fun a hA => 
                o_yes hA rfl rfl rfl <| 
                stp hA (r_nilc hA rfl) rfl fun a hA => 
                o_yes hA rfl rfl rfl <| 
                stp hA (r_fd (k := 0 + 1) Tryd.underlying170 rfl sz34 hA rfl rfl) rfl fun a hA => 
                o_yes hA rfl rfl rfl <| 
                stp hA (r_ldm1 [[.int .i64 x0.err.pos]] [] Tryd.underlying34 rfl hI.agr hat2 hA rfl rfl) rfl fun a hA => 
                o_yes hA rfl rfl rfl <| 
                stp hA (r_eqE erF hI.agr hE2 erv_nil (.inl ⟨.inr ⟨_, rfl⟩, Er.fitR⟩) hA rfl rfl) rfl fun a hA => 
                stp hA (r_pick_f hA rfl rfl rfl) rfl fun a hA => ?_
              refine o_nil ?_
              cases Option.some.inj (bS H)
              exact ⟨hA.sub ⟨rfl, rfl, rfl, rfl, rfl, rfl, rfl, rfl, rfl, rfl, rfl, trivial⟩, hI⟩
            · rintro a w ⟨hA, hI⟩
              have H := Hk2
              refine w_cond hA rfl (fun hc5 => ?_) (fun hc5 => ?_)
              · have hc50 := hc5; have H := bT H hc5
                refine w_seq fun _ hN16 => ?_
                refine w_reg ?_
                obtain ⟨r7, hr7, H⟩ := bB H
                refine o_callp (u := .agg [[.int .i64 r7.Code], [.bool r7.Placed], [.int .i64 r7.Pos], [.bool r7.Outer], [.int .i64 r7.At]].flatten.toArray) cf96 hA rfl hI (sargassoref_Bare.c μ _ hI.agr (-1) (in_lit .i64 (-1) rfl) r7 hr7) rfl fun a w hz9 hI hA => 
                  o_st (j := 0) [] [[.int .i64 0], [.bool false], [.int .i64 0], [.bool false], [.int .i64 0]] [[.int .i64 r7.Code], [.bool r7.Placed], [.int .i64 r7.Pos], [.bool r7.Outer], [.int .i64 r7.At]] [] sz109 rfl rfl (fl_cons (one_one rfl) (fl_cons (one_one rfl) (fl_cons (one_one rfl) (fl_cons (one_one rfl) (fl_cons (one_one rfl) fl_nil))))) hI rfl hA rfl rfl rfl rfl fun w hI => ?_
                refine o_nil ?_
                refine hN16 _ _ ?_
                refine w_ret ?_
                obtain rfl := Option.some.inj (bS H)
                exact retc Tryd.underlying109 rfl sz109 rfl hI (j := 0) rfl hA Tryd.results130 rfl ⟨_, rfl, rfl, ⟨hz9.1, hz9.2.1, hz9.2.2⟩, hI.forget0⟩
              · have hc50 := hc5; have hc5 := ft hc5; have H := bF H hc5
                refine w_skip ?_
                refine hN15 _ _ ?_
                refine w_seq fun _ hN17 => ?_
                refine w_anyS [] mo (fun w (h : Iv w0 [] μ μ [cel g1 [[.int .i64 0], [.bool false], [.int .i64 0], [.bool false], [.int .i64 0]] 109] w) => (h.sel [] (by decide) rfl : Iv w0 [] μ μ [] w)) hI fun w hI => ?_
                refine g_easy (i := 0) hA rfl rfl (by kernel_rfl) (.inr (hI.sel [] (by decide) rfl)) (fun _ => r_mv hA rfl) rfl fun a hA => ?_
                refine g_easy (i := 1) hA rfl rfl (by kernel_rfl) (.inr (hI.sel [] (by decide) rfl)) (fun _ => r_nilc hA rfl) rfl fun a hA => ?_
                refine g_easy (i := 2) hA rfl rfl (by kernel_rfl) (.inr (hI.sel [] (by decide) rfl)) (fun _ => r_fd (k := 0 + 1) Tryd.underlying170 rfl sz34 hA rfl rfl) rfl fun a hA => ?_
                refine g_take (i := 3) hA rfl rfl (by kernel_rfl) (hI.sel [] (by decide) rfl) (fun w hI => r_ldm1 [[.int .i64 x0.err.pos]] [] Tryd.underlying34 rfl hI.agr hat2 hA rfl rfl) rfl fun a hA => ?_
                refine g_easy (i := 5) hA rfl rfl (by kernel_rfl) (.inr (hI.sel [] (by decide) rfl)) (fun _ => r_mv hA rfl) rfl fun a hA => ?_
                refine g_easy (i := 6) hA rfl rfl (by kernel_rfl) (.inr (hI.sel [] (by decide) rfl)) (fun _ => r_nilc hA rfl) rfl fun a hA => ?_
                refine g_easy (i := 7) hA rfl rfl (by kernel_rfl) (.inr (hI.sel [] (by decide) rfl)) (fun _ => r_fd (k := 0) Tryd.underlying170 rfl sz3 hA rfl rfl) rfl fun a hA => ?_
                refine g_take (i := 8) hA rfl rfl (by kernel_rfl) (hI.sel [] (by decide) rfl) (fun w hI => r_ldm1 [] [[v2]] Tryd.underlying3 rfl hI.agr hat2 hA rfl rfl) rfl fun a hA => ?_
                refine g_easy (i := 10) hA rfl rfl (by kernel_rfl) (.inr (hI.sel [] (by decide) rfl)) (fun _ => r_mv hA rfl) rfl fun a hA => ?_
                refine g_easy (i := 11) hA rfl rfl (by kernel_rfl) (.inr (hI.sel [] (by decide) rfl)) (fun _ => r_nilc hA rfl) rfl fun a hA => ?_
                refine g_easy (i := 12) hA rfl rfl (by kernel_rfl) (.inr (hI.sel [] (by decide) rfl)) (fun _ => r_fd (k := 0) Tryd.underlying170 rfl sz3 hA rfl rfl) rfl fun a hA => ?_
                refine g_take (i := 13) hA rfl rfl (by kernel_rfl) (hI.sel [] (by decide) rfl) (fun w hI => r_ldm1 [] [[v1]] Tryd.underlying3 rfl hI.agr hat1 hA rfl rfl) rfl fun a hA => ?_
                refine g_forced (i := 4) rfl (by kernel_rfl) ?_
                obtain ⟨r8, hr8, H⟩ := bB H
                refine o_callp (u := .int .i64 r8) cf148 hA rfl hI (sargassosee_sentinel.c μ _ hI.agr x0.err.err v2 hE2 hG r8 hr8) rfl fun a w hz10 hI hA => ?_
                refine o_nil ?_
                refine ⟨(.inr (hI.sel [] (by decide) rfl)), ?_⟩
                refine g_forced (i := 9) rfl (by kernel_rfl) ?_
                obtain ⟨r9, hr9, H⟩ := bB H
                refine o_callp (u := .agg [[.int .i64 r9.Code], [.bool r9.Placed], [.int .i64 r9.Pos], [.bool r9.Outer], [.int .i64 r9.At]].flatten.toArray) cf74 hA rfl hI (sargassoref_Placed.c μ _ hI.agr r8 hz10 x0.err.pos hw2 r9 hr9) rfl fun a w hz11 hI hA => ?_
                refine o_nil ?_
                refine ⟨(.inr (hI.sel [] (by decide) rfl)), ?_⟩
                refine g_forced (i := 14) rfl (by kernel_rfl) ?_
                obtain ⟨r10, hr10, H⟩ := bB H
                refine o_callp (u := .agg [[.int .i64 r10.Code], [.bool r10.Placed], [.int .i64 r10.Pos], [.bool r10.Outer], [.int .i64 r10.At]].flatten.toArray) cf149 hA rfl hI (sargassoref_Around.c μ _ hI.agr r9 ⟨hz11.1, hz11.2.1, hz11.2.2⟩ x0.pos hw1 r10 hr10) rfl fun a w hz12 hI hA => ?_
                refine o_nil ?_
                refine ⟨(.inr (hI.sel [] (by decide) rfl)), ?_⟩
                refine g_forced (i := 15) rfl (by kernel_rfl) ?_
                refine o_st (j := 0) [] [[.int .i64 0], [.bool false], [.int .i64 0], [.bool false], [.int .i64 0]] [[.int .i64 r10.Code], [.bool r10.Placed], [.int .i64 r10.Pos], [.bool r10.Outer], [.int .i64 r10.At]] [] sz109 rfl rfl (fl_cons (one_one rfl) (fl_cons (one_one rfl) (fl_cons (one_one rfl) (fl_cons (one_one rfl) (fl_cons (one_one rfl) fl_nil))))) hI rfl hA rfl rfl rfl rfl fun w hI => ?_
                refine o_nil ?_
                refine ⟨(.inr (hI.sel [] (by decide) rfl)), ?_⟩
                refine g_nil (by kernel_rfl) ?_
                refine hN17 _ _ ?_
                refine w_ret ?_
                obtain rfl := Option.some.inj (bS H)
                exact retc Tryd.underlying109 rfl sz109 rfl hI (j := 0) rfl hA Tryd.results130 rfl ⟨_, rfl, rfl, ⟨hz12.1, hz12.2.1, hz12.2.2⟩, hI.forget0⟩
set_option maxRecDepth 20000 in
theorem sargassosee_Same.c (μ : Store) (w0 : World) (hμ : Agr μ w0) (x0 : Er) (u0 : Value) (hx0 : ErS μ u0 x0) (x1 : sargassorefFault) (hx1 : sargassorefFaultW μ x1) (hG : Gl μ) (r : Bool) (H : sargassosee_Same.f x0 x1 = some r) :
    Calls Tryd.prog 73 [u0, .agg [[.int .i64 x1.Code], [.bool x1.Placed], [.int .i64 x1.Pos], [.bool x1.Outer], [.int .i64 x1.At]].flatten.toArray].toArray w0 (fun e w' => ∃ v, e = .returned v ∧ v = .bool r ∧ True ∧ Iv w0 [] μ μ [] w') := by
  refine enter Tryd.func73 rfl Tryd.ntmps73 rfl fun a hA => ?_
  have hI := Iv.start hμ
  have H := bI H
  refine w_seq fun _ hN1 => ?_
  refine w_reg ?_
  refine o_box [[.int .i64 x1.Code], [.bool x1.Placed], [.int .i64 x1.Pos], [.bool x1.Outer], [.int .i64 x1.At]] hI hA rfl rfl rfl fun g1 a w hA hI hg1 => 
    stp hA (r_as hA rfl) rfl fun a hA => ?_
  refine o_nil ?_
  refine hN1 _ _ ?_
  refine w_seq fun _ hN2 => ?_
  refine w_any [] mo hI fun w hI => ?_
  refine g_easy (i := 0) hA rfl rfl (by kernel_rfl) (.inr hI) (fun _ => r_mv hA rfl) rfl fun a hA => ?_
  refine g_take (i := 2) hA rfl rfl (by kernel_rfl) hI (fun w hI => r_ldA (j := 0) [] [[.int .i64 x1.Code], [.bool x1.Placed], [.int .i64 x1.Pos], [.bool x1.Outer], [.int .i64 x1.At]] [] Tryd.underlying109 rfl sz109 rfl hI rfl hA rfl rfl) rfl fun a hA => ?_
  refine g_forced (i := 1) rfl (by kernel_rfl) ?_
  obtain ⟨r1, hr1, H⟩ := bB H
  refine o_callp (u := .agg [[.int .i64 r1.Code], [.bool r1.Placed], [.int .i64 r1.Pos], [.bool r1.Outer], [.int .i64 r1.At]].flatten.toArray) cf130 hA rfl hI (sargassosee_Fault.c μ _ hI.agr x0 u0 hx0 hG r1 hr1) rfl fun a w hz1 hI hA => ?_
  refine o_nil ?_
  refine ⟨(.inr hI), ?_⟩
  refine g_forced (i := 3) rfl (by kernel_rfl) ?_
  obtain ⟨r2, hr2, H⟩ := bB H
  refine o_callp (u := .bool r2) cf129 hA rfl hI (sargassoref_SameFault.c μ _ hI.agr r1 ⟨hz1.1, hz1.2.1, hz1.2.2⟩ x1 ⟨hx1.1, hx1.2.1, hx1.2.2⟩ r2 hr2) rfl fun a w hz2 hI hA => ?_
  refine o_nil ?_
  refine ⟨(.inr hI), ?_⟩
  refine g_easy (i := 4) hA rfl rfl (by kernel_rfl) (.inr hI) (fun _ => r_as hA rfl) rfl fun a hA => ?_
  refine g_nil (by kernel_rfl) ?_
  refine hN2 _ _ ?_
  refine w_ret ?_
  obtain rfl := Option.some.inj (bS H)
  exact ret1 hA Tryd.results73 rfl ⟨_, rfl, rfl, trivial, hI.forget0⟩
set_option maxRecDepth 20000 in
theorem sargassosee_Is.c (μ : Store) (w0 : World) (hμ : Agr μ w0) (x0 : Er) (u0 : Value) (hx0 : ErS μ u0 x0) (x1 : Int) (hx1 : InR .i64 x1) (hG : Gl μ) (r : Bool) (H : sargassosee_Is.f x0 x1 = some r) :
    Calls Tryd.prog 31 [u0, .int .i64 x1].toArray w0 (fun e w' => ∃ v, e = .returned v ∧ v = .bool r ∧ True ∧ Iv w0 [] μ μ [] w') := by
  refine enter Tryd.func31 rfl Tryd.ntmps31 rfl fun a hA => ?_
  have hI := Iv.start hμ
  have H := bI H
  refine w_seq fun _ hN1 => ?_
  refine w_reg ?_
  refine stp hA (r_as hA rfl) rfl fun a hA => ?_
  refine o_nil ?_
  refine hN1 _ _ ?_
  refine w_seq fun _ hN2 => ?_
  refine w_reg ?_
  refine stp hA (r_mv hA rfl) rfl fun a hA => 
    stp hA (r_mv hA rfl) rfl fun a hA => ?_
  obtain ⟨r1, hr1, H⟩ := bB H
  refine o_callp (u := .agg [[.int .i64 r1.Code], [.bool r1.Placed], [.int .i64 r1.Pos], [.bool r1.Outer], [.int .i64 r1.At]].flatten.toArray) cf96 hA rfl hI (sargassoref_Bare.c μ _ hI.agr x1 hx1 r1 hr1) rfl fun a w hz1 hI hA => ?_
  obtain ⟨r2, hr2, H⟩ := bB H
  refine o_callp (u := .bool r2) cf73 hA rfl hI (sargassosee_Same.c μ _ hI.agr x0 u0 hx0 r1 ⟨hz1.1, hz1.2.1, hz1.2.2⟩ hG r2 hr2) rfl fun a w hz2 hI hA => 
    stp hA (r_as hA rfl) rfl fun a hA => ?_
  refine o_nil ?_
  refine hN2 _ _ ?_
  refine w_ret ?_
  obtain rfl := Option.some.inj (bS H)
  exact ret1 hA Tryd.results31 rfl ⟨_, rfl, rfl, trivial, hI.forget0⟩
end Go.Proofs.YtpeelghbhihgkaaDoor.T
namespace Go.Proofs.YtpeelghbhihgkaaDoor.T
open Go Go.Proofs Go.Proofs.YtpeelghbhihgkaaDoor.K
set_option linter.unusedVariables false
set_option linter.unusedSimpArgs false
noncomputable def value_Reward.f (x0 : Int) (x1 : Int) : Option Int := (((if x0 < 0 then some true else (if x1 < 1 then some true else (if x1 ≠ 0 then some (decide (64 ≤ (IntKind.i64.wrap (Int.tdiv x0 x1)))) else none)))).bind fun c1 => (if c1 = true then some 0 else (if x1 ≠ 0 then (if 0 ≤ (IntKind.i64.wrap (Int.tdiv x0 x1)) then some (sR .u64 5000000000 (IntKind.i64.wrap (Int.tdiv x0 x1))) else none) else none)))
noncomputable def sargassomake_Rules.f (x0 : Int) : Option Rules := ((((sargassoworld_Number.f x0 6).bind fun r1 => (if r1 = 1 then some (0, 700, 2000, 200, 5, 2000, 5, 2000) else (if r1 = 2 then some (2, 3000, 300, 4, 5, 2000, 5, 2000) else (if r1 = 3 then some (1, 3000, 2000, 200, 2, 2000, 3, 2000) else (if r1 = 4 then some (1, 3000, 2000, 200, 5, 400, 5, 500) else (if r1 = 5 then some (0, 1048576, 1048576, 200, 50, 1048576, 50, 1048576) else some (1, 3000, 2000, 200, 5, 2000, 5, 2000)))))))).bind fun (c1, c2, c3, c4, c5, c6, c7, c8) => some (⟨5, c1, c2, c3, c4, c5, c6, c7, c8⟩ : Rules))
noncomputable def value_Rules.s0 (x0 : Rules) : Int → Option (Int ⊕ Er) := fun s1 => (if s1 < (([[x0.Halving, 1, 1048576], [x0.Maturity, 0, 1000], [x0.PoolBytes, 1, 16777216], [x0.RedoBytes, 1, 16777216], [x0.LogMost, 1, 65536], [x0.Ancestors, 1, 1000], [x0.Descendants, 1, 1000], [x0.AncestorBytes, 1, 16777216], [x0.DescendantBytes, 1, 16777216]] : List (List Int)).length : Int) then (if 0 ≤ s1 ∧ s1 < (([[x0.Halving, 1, 1048576], [x0.Maturity, 0, 1000], [x0.PoolBytes, 1, 16777216], [x0.RedoBytes, 1, 16777216], [x0.LogMost, 1, 65536], [x0.Ancestors, 1, 1000], [x0.Descendants, 1, 1000], [x0.AncestorBytes, 1, 16777216], [x0.DescendantBytes, 1, 16777216]] : List (List Int)).length : Int) then (((if ((([[x0.Halving, 1, 1048576], [x0.Maturity, 0, 1000], [x0.PoolBytes, 1, 16777216], [x0.RedoBytes, 1, 16777216], [x0.LogMost, 1, 65536], [x0.Ancestors, 1, 1000], [x0.Descendants, 1, 1000], [x0.AncestorBytes, 1, 16777216], [x0.DescendantBytes, 1, 16777216]] : List (List Int)).getD s1.toNat []).getD (0 : Int).toNat 0) < ((([[x0.Halving, 1, 1048576], [x0.Maturity, 0, 1000], [x0.PoolBytes, 1, 16777216], [x0.RedoBytes, 1, 16777216], [x0.LogMost, 1, 65536], [x0.Ancestors, 1, 1000], [x0.Descendants, 1, 1000], [x0.AncestorBytes, 1, 16777216], [x0.DescendantBytes, 1, 16777216]] : List (List Int)).getD s1.toNat []).getD (1 : Int).toNat 0) then some true else some (decide (((([[x0.Halving, 1, 1048576], [x0.Maturity, 0, 1000], [x0.PoolBytes, 1, 16777216], [x0.RedoBytes, 1, 16777216], [x0.LogMost, 1, 65536], [x0.Ancestors, 1, 1000], [x0.Descendants, 1, 1000], [x0.AncestorBytes, 1, 16777216], [x0.DescendantBytes, 1, 16777216]] : List (List Int)).getD s1.toNat []).getD (2 : Int).toNat 0) < ((([[x0.Halving, 1, 1048576], [x0.Maturity, 0, 1000], [x0.PoolBytes, 1, 16777216], [x0.RedoBytes, 1, 16777216], [x0.LogMost, 1, 65536], [x0.Ancestors, 1, 1000], [x0.Descendants, 1, 1000], [x0.AncestorBytes, 1, 16777216], [x0.DescendantBytes, 1, 16777216]] : List (List Int)).getD s1.toNat []).getD (0 : Int).toNat 0))))).bind fun c1 => (if c1 = true then some (.inr xErrRange) else some (.inl (IntKind.i64.wrap (s1 + 1))))) else none) else some (.inr (Er.b 0)))
noncomputable def value_Rules.f (x0 : Rules) : Option Er := loopO (value_Rules.s0 x0) 0
end Go.Proofs.YtpeelghbhihgkaaDoor.T
