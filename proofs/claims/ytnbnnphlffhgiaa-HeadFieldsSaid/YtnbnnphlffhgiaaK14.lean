/- A helper of this seat's claims. It proves no statement by itself. -/
/- Several operations that may come next, each of which makes or writes memory; an array's element by value. -/
import Derived.Test.YtnbnnphlffhgiaaK13
namespace Go.Proofs.Ytnbnnphlffhgiaa.K
open Go
set_option linter.unusedVariables false
section
variable {P : Program} {ops : Array Oper} {N R : AW} {E : List (Nat × AW)} {I I' : World → Prop} {T : List Nat} {l : Array Bool} {f i n : Nat} {L : List (Nat × Value)} {a : Act} {w : World} {v : Value}
theorem g_fork {i : Nat} {is : List Nat} (hr : Region.ready .any ops l = i :: is)
    (h : ∀ j ∈ i :: is, ∃ o, ops[j]? = some o ∧ wpList P ops (PQ (fun a' w' => (wrote T (l.setIfInBounds j true) = true ∨ I w') ∧ wpG P ops (PQ N E R) T I f (l.setIfInBounds j true) a' w') E R) [o] a w) : wpG P ops (PQ N E R) T I (f + 1) l a w := by
  refine ⟨fun h0 => (by rw [h0] at hr; cases hr), fun j hj => ?_⟩
  rw [hr] at hj
  obtain ⟨o, ho, h⟩ := h j hj
  unfold wpOp
  simp only [ho]
  unfold wpList at h
  split
  · rename_i hw
    rw [if_pos hw] at h
    rcases h with h | ⟨_, _, _, h⟩
    · exact .inl (wp_pq h)
    · exact h.elim
  · rename_i hw
    rw [if_neg hw] at h
    exact h
end
section
variable {P : Program} {N R : AW} {E : List (Nat × AW)} {a : Act} {w : World}
theorem w_anyS {id : Nat} {l : List Oper} {W0 : World} {md : List Nat} {μ0 μ : Store} {its its2 : List It} (T : List Nat) (hm : P.follows .mixedOrders = true) (hs : ∀ w, Iv W0 md μ0 μ its w → Iv W0 md μ0 μ its2 w) (hI : Iv W0 md μ0 μ its w)
    (h : ∀ w, Iv W0 md μ0 μ its w → wpG P l.toArray (PQ N E R) T (fun w => Iv W0 md μ0 μ its2 w) l.toArray.size (Array.replicate l.toArray.size false) a w) : (Code.region id l.toArray true).wp P (PQ N E R) a w :=
  wp_region_any hm (wpAny_of_G _ _ _ _ (h _ hI.drew1))
end
section
variable {P : Program} {w : World} {a : Act} {n : Nat} {L : List (Nat × Value)} {dst : Option Nat} {ty t e : TypeId} {pos : String} {aft : Array Edge} {g : Option (Nat × Bool)} {x y : Operand} {i : Int} {k k' ki : IntKind} {xs : List Int} {mm : Nat}
theorem r_aidx (hu : P.underlying t = some (.array mm e)) (he : P.underlying e = some (.int k')) (hs : (P.info? e).map (·.size) = some 1) (hA : Fr a n L) (hx : ov L x = some (.agg [av k mm xs].flatten.toArray)) (hy : ov L y = some (.int ki i)) (h0 : 0 ≤ i) (h1 : i < (mm : Int)) :
    (execOp a.eval ⟨dst, .index t x y, ty, pos, aft, g⟩).run P w = .ok (.value (.int k (xs.getD i.toNat 0))) w := by
  cases hq : P.info? e with
  | none => simp [hq] at hs
  | some q =>
    have hs' : q.size = 1 := by simpa [hq] using hs
    have hlt : i.toNat < mm := by omega
    have hp := run_part1 (P := P) (A := [av k mm xs].flatten.toArray) (o := i.toNat * 1) he rfl (v := .int k (xs.getD i.toNat 0)) (by simpa using av_get k mm xs hlt) w
    have h01 : 0 ≤ i ∧ i < (mm : Int) := ⟨h0, h1⟩
    simp only [Nat.mul_one] at hp
    have hi : (Instr.index t (.agg [av k mm xs].flatten.toArray) (.int ki i)).run P w = .ok (.int k (xs.getD i.toNat 0)) w := by
      unfold Instr.index
      simp only [asIntOf, Sem.run_bind, Sem.run_pure, Result.andThen_ok, run_underlying hu]
      rw [if_pos h01]
      have hz : (sizeOf e).run P w = .ok 1 w := by rw [run_sizeOf w hq]; simp [Program.cellsOf, hq, hs']
      simp only [Sem.run_bind, hz, Result.andThen_ok, Nat.mul_one, hp]
    simp only [execOp, Sem.run_bind, Sem.run_pure, hA.ev hx, hA.ev hy, hi, Result.andThen_ok]
theorem retc1 {W0 : World} {md : List Nat} {μ0 μ : Store} {its : List It} {T g j : Nat} {d : TypeDesc} {v : Value} {fn : Func} {Post : Ending → World → Prop} (hu : P.underlying T = some d) (hd : isAggD d = false)
    (hI : Iv W0 md μ0 μ its w) (hj : its[j]? = some (cel g [[v]] T)) (hA : Fr a n L) (hr : fn.results = #[.cell t T]) (hv : lk L t = some (.pointer (some ⟨g, 0, none⟩))) (h : Post (.returned v) w) : RetP P fn Post a w := by
  refine ⟨hA.d, _, ?_, h⟩
  have h1 := hA.g t _ hv
  have hl := cell_ld1 (P := P) hu hd hI hj
  simp [results, hr, h1, asAddr, hl]
end
end Go.Proofs.Ytnbnnphlffhgiaa.K
