/- A helper of this seat's claims. It proves no statement by itself. -/
/- slices.Grow on nothing. -/
import Derived.Test.YtnbnnphlffhgiaaK11
namespace Go.Proofs.Ytnbnnphlffhgiaa.K
open Go
set_option linter.unusedVariables false
section
variable {P : Program} {Q : Exit → AW} {ops : Array Oper} {rest : List Oper} {W0 : World} {md : List Nat} {μ0 μ : Store} {its : List It} {w : World} {a : Act} {n : Nat} {L : List (Nat × Value)} {dst : Option Nat} {d : Nat} {ty t T e : TypeId} {pos : String} {aft : Array Edge} {gd : Option (Nat × Bool)} {x y : Operand} {v u : Value} {g o sz m : Nat}
/-- 'append(nil, make([]E, q)...)'. -/
theorem o_appmake {k : IntKind} {ti : TypeId} {by_ : Nat} {q : Int} (hte : TyE P e sz by_) (hpos : Nat.ble 1 sz = true) (ht : P.underlying t = some (.slice e)) (hti : P.underlying ti = some (.int k)) (hI : Iv W0 md μ0 μ its w) (hA : Fr a n L) (hx : ov L x = some (.slice none 0 0)) (hy : ov L y = some (.int .i64 q)) (h0 : 0 < q) (h2 : q * (by_ : Int) ≤ 140737488355328) (h3 : q ≤ 140737488355328)
    (hd : Nat.ble (d + 1) n = true)
    (kk : ∀ g cap cur a w, q.toNat ≤ cap → cap ≤ maxLen → cur.size = cap * sz → Fr a n ((d, .slice (some ⟨g, 0, none⟩) q.toNat cap) :: L) → (∀ i : It, i.foot = [g] → i.ok w → Iv W0 md μ0 μ (i :: its) w) → w.heap[g]? = some (.cells cur e (0, 0)) → wpList P ops Q rest a w) :
    wpList P ops Q (⟨some d, .call { callee := .builtin .append, args := #[x, y], argTypes := #[t, ti] }, ty, pos, aft, none⟩ :: rest) a w := by
  obtain ⟨i, z, hi, hz, hsize, hzs, hby⟩ := hte
  subst hsize
  subst hby
  obtain ⟨q', rfl⟩ : ∃ q' : Nat, q = q' := ⟨q.toNat, by omega⟩
  have hq : q' ≠ 0 := by omega
  have hq0 : 0 < q' := by omega
  have hwr : IntKind.i64.wrap (q' : Int) = q' := wrap_id ⟨by omega, by omega⟩
  have hlt : ¬ ((q' : Int) < 0) := by omega
  have h2' : q' * i.bytes ≤ 140737488355328 := by
    have : ((q' * i.bytes : Nat) : Int) ≤ 140737488355328 := by rw [Int.natCast_mul]; exact h2
    omega
  have h48 : ¬ ((281474976710656 : Int) < (q' : Int) * (i.bytes : Int)) := by rw [← Int.natCast_mul]; omega
  have h48' : ¬ (281474976710656 < Builtin.nextslicecap q' 0 * i.bytes) := by rw [nextslicecap_zero hq0]; omega
  have h63 : ¬ (9223372036854775807 < (q' : Int)) := by omega
  have hcap := grownCap_ge w q' 0 e
  have hcm : grownCap w q' 0 e ≤ maxLen := grownCap_le_maxLen w q' 0 e (by simp only [maxLen]; omega)
  have main : ∃ cur, cur.size = grownCap w q' 0 e * i.size ∧ (Builtin.append_ #[t, ti] ty #[.slice none 0 0, .int .i64 (q' : Int)]).run P w = .ok (.slice (some ⟨w.heap.size, 0, none⟩) q' (grownCap w q' 0 e)) (w.drew.alloc (.cells cur e)) := by
    have hz0 : i.size ≠ 0 := by have := Nat.le_of_ble_eq_true hpos; omega
    refine ⟨Builtin.zeroCells z.cells q' ++ Builtin.zeroCells z.cells (grownCap w q' 0 e - q'), ?_, ?_⟩
    · rw [Array.size_append, size_zeroCells, size_zeroCells, hzs, ← Nat.add_mul]
      congr 1
      omega
    · simp [Builtin.append_, run_underlying ht, run_underlying hti, sizeOf, typeInfo, zeroValue, hi, hz, asInt, asIntOf, hwr, hlt, h48, h48', h63, hq, Question.forced, newRow, grownCap, run_firstCells_none]
      intro h
      rcases Nat.mul_eq_zero.1 h with h | h <;> omega
  obtain ⟨cur, hcs, hr⟩ := main
  refine wpl_val (v := .slice (some ⟨w.heap.size, 0, none⟩) q' (grownCap w q' 0 e)) (w' := w.drew.alloc (.cells cur e)) ?_ (kk w.heap.size (grownCap w q' 0 e) cur _ _ (by simpa using hcap) hcm hcs (hA.put hd _) (fun j hf ho => hI.drew1.alloc _ j hf ho) (heap_alloc_new w.drew _))
  simp only [execOp, resolve, invoke, builtin, Sem.run_bind, Sem.run_pure, Result.andThen_ok, List.map_toArray, List.map_cons, List.map_nil, hA.ev hx, hA.ev hy, hr]
theorem r_cap {A : Option Addr} {m cp : Nat} (hu : P.underlying t = some (.slice e)) (hA : Fr a n L) (hx : ov L x = some (.slice A m cp)) :
    (execOp a.eval ⟨dst, .call { callee := .builtin .cap, args := #[x], argTypes := #[t] }, ty, pos, aft, gd⟩).run P w = .ok (.value (.int .i64 cp)) w := by
  simp [execOp, resolve, invoke, builtin, hA.ev hx, Builtin.cap_, goInt, run_underlying hu]
/-- A slice's front. -/
theorem r_front {A : Option Addr} {m cp : Nat} {h : Operand} {kd : IntKind} {q : Int} (hu : P.underlying t = some (.slice e)) (hs : (P.info? e).map (·.size) = some sz) (hA : Fr a n L) (hx : ov L x = some (.slice A m cp)) (hh : ov L h = some (.int kd q)) (h0 : 0 ≤ q) (h1 : q ≤ (cp : Int)) :
    (execOp a.eval ⟨dst, .slice t x none (some h) none, ty, pos, aft, gd⟩).run P w = .ok (.value (.slice A q.toNat cp)) w := by
  cases hq : P.info? e with
  | none => simp [hq] at hs
  | some ei =>
    have hb := run_bounds (P := P) true (l := none) (h := some h) hA (i := 0) (j := q) rfl (m := m) (cp := cp) (by simp [hiOf, hh]) (Int.le_refl _) h0 h1 w
    have e3 : a.eval x = .slice A m cp := hA.ev hx
    have hb' : (Instr.sliceBounds true m cp none (some (a.eval h)) none).run P w = .ok (0, q.toNat, cp) w := hb
    have e4 : A.map (fun x => x.add 0) = A := by cases A <;> simp [Addr.add]
    simp [execOp, Instr.sliceAt, e3, run_underlying hu, Instr.slice, hb', sizeOf, typeInfo, hq, e4]
end
end Go.Proofs.Ytnbnnphlffhgiaa.K
