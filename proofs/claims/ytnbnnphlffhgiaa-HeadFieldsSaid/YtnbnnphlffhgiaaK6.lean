/- A helper of this seat's claims. It proves no statement by itself. -/
import Derived.Test.YtnbnnphlffhgiaaK5
import Derived.OpenShut
import Derived.ChangeArms
import Derived.DataReads
import Derived.WideShapes
import Derived.Below
import Derived.Carry
import Derived.ChangeOld
/-! Readers: what a reading of the row says, as a value of one's own. -/
namespace Go.Proofs.Ytnbnnphlffhgiaa.K
open Go Go.Proofs Go.ChangeShapes Go.WideShapes Go.RowKit

def mem (w : World) : Store := fun k => w.heap[k]?
theorem agr_mem (w : World) : Agr (mem w) w := fun _ _ h => h
theorem mem_cell {w : World} {g i : Nat} {v : Value} (h : w.cell? ⟨g, i, none⟩ = some v) : (mem w).cell g i = some v := by
  unfold World.cell? at h
  unfold Store.cell mem
  cases hm : w.heap[g]? with
  | none => simp [hm] at h
  | some o => cases o <;> simp_all
theorem wf_in {k : IntKind} {n : Int} (h : (Lit.int k n).wf = true) : InR k n := by
  cases k <;> simp [Lit.wf, IntKind.min, IntKind.max, IntKind.signed, IntKind.bits] at h <;> simp [InR] <;> omega

section
variable {H : Type} {enc : TypeId × Value → H} {P : Program} {w : World} {base : Nat} {spare : Nat → Bool} {held : Bool} {t e : TypeId}
/-- Whatever is read at type 't' is 'R'. -/
def Rd (enc : TypeId × Value → H) (P : Program) (w : World) (base : Nat) (spare : Nat → Bool) (held : Bool) (t : TypeId) (R : List Value → Prop) : Prop :=
  ∀ fuel cs x, DataW.trod enc P w base spare held fuel t cs = some x → R cs

theorem rd_int {k : IntKind} (ht : P.underlying t = some (.int k)) : Rd enc P w base spare held t (fun c => ∃ n, RI k n c) := by
  intro fuel cs x h
  obtain ⟨n, rfl, _, hw⟩ := DataW.trod_int ht h
  exact ⟨n, rfl, wf_in hw⟩
theorem rd_bool (ht : P.underlying t = some .bool) : Rd enc P w base spare held t (fun c => ∃ b, c = [[.bool b]].flatten) := by
  intro fuel cs x h
  obtain ⟨b, rfl, _⟩ := DataW.trod_bool ht h
  exact ⟨b, rfl⟩
theorem rd_array {k : IntKind} {n : Nat} (ht : P.underlying t = some (.array n e)) (he : P.underlying e = some (.int k)) (hc : P.cellsOf e = 1) (hn : P.cellsOf t = n) :
    Rd enc P w base spare held t (fun c => ∃ xs, RA k n xs c) := by
  intro fuel cs x h
  obtain ⟨xs, m, _, _, hl, hx, hf⟩ := DataW.trod_array ht h
  rw [hn] at hl
  have each : ∀ i, i < n → ∃ z, cs[i]? = some (.int k z) ∧ InR k z := by
    intro i hi
    have h1 := hf i hi
    rw [hc, Nat.mul_one, List.getElem?_eq_getElem (by omega)] at h1
    obtain ⟨z, hz, _, hw⟩ := DataW.trod_int he h1
    refine ⟨z, ?_, wf_in hw⟩
    have := congrArg (·[0]?) hz
    simpa using this
  refine ⟨cs.map fun v => match v with | .int _ z => z | _ => 0, ?_, ?_, ?_⟩
  · simp only [List.flatten_cons, List.flatten_nil, List.append_nil]
    apply List.ext_getElem?
    intro i
    by_cases hi : i < n
    · obtain ⟨z, hz, _⟩ := each i hi
      rw [av_get _ _ _ hi, hz]
      simp [List.getD, hz]
    · rw [List.getElem?_eq_none (by omega), List.getElem?_eq_none (by rw [av_len]; omega)]
  · simpa using hl
  · intro y hy
    obtain ⟨v, hv, rfl⟩ := List.mem_map.1 hy
    obtain ⟨i, hi, rfl⟩ := List.getElem_of_mem hv
    obtain ⟨z, hz, hr⟩ := each i (by omega)
    rw [List.getElem?_eq_getElem hi] at hz
    rw [Option.some.inj hz]
    exact hr

theorem els_of {α : Type} {RE : α → List Value → Prop} {sz : Nat} : ∀ {n : Nat} {Q : Nat → Value → Prop}, (∀ i, i < n → ∃ x c, RE x c ∧ c.length = sz ∧ ∀ j v, c[j]? = some v → Q (i * sz + j) v) →
    ∃ xs cs, xs.length = n ∧ Els RE sz xs cs ∧ ∀ j v, cs[j]? = some v → Q j v
  | 0, _, _ => ⟨[], [], rfl, .nil, fun j v h => by simp at h⟩
  | n + 1, Q, f => by
    obtain ⟨x, c, h1, h2, h3⟩ := f 0 (by omega)
    obtain ⟨xs, cs, e1, e2, e3⟩ := els_of (n := n) (Q := fun m v => Q (sz + m) v) (fun i hi => by
      obtain ⟨x, c, h1, h2, h3⟩ := f (i + 1) (by omega)
      refine ⟨x, c, h1, h2, fun j v hj => ?_⟩
      have := h3 j v hj
      rwa [Nat.add_mul, Nat.one_mul, Nat.add_comm (i * sz), Nat.add_assoc] at this)
    refine ⟨x :: xs, c ++ cs, by simp [e1], .cons h1 h2 e2, fun j v hj => ?_⟩
    rcases Nat.lt_or_ge j c.length with h | h
    · rw [List.getElem?_append_left h] at hj
      simpa using h3 j v hj
    · rw [List.getElem?_append_right h] at hj
      have := e3 _ _ hj
      rwa [h2, Nat.add_sub_cancel' (by omega)] at this

theorem rd_slice {α : Type} {RE : α → List Value → Prop} {sz : Nat} (ht : P.underlying t = some (.slice e)) (hc : P.cellsOf e = sz) (h0 : 0 < sz) (hr : Rd enc P w base spare held e (fun c => ∃ x, RE x c)) :
    Rd enc P w base spare held t (fun c => ∃ v xs, c = [v] ∧ Slc RE sz (mem w) v xs) := by
  intro fuel cs x h
  rcases DataW.trod_slice ht h with ⟨rfl, _⟩ | ⟨a, len, cap, elems, rest, n, _, rfl, _, _, hl, hm, hlen, hel, _, _⟩
  · exact ⟨_, [], rfl, [], .nil, none, 0, rfl, Nat.le_refl _, Nat.zero_le _, fun h => absurd rfl h, fun h => absurd rfl h⟩
  have each0 : ∀ i, i < len → ∃ x c, RE x c ∧ c.length = sz ∧ ∀ j, j < sz → w.cell? ((a.add (i * sz)).add j) = c[j]? := by
    intro i hi
    have h1 := hel i hi
    rw [List.getElem?_eq_getElem (by omega), hc] at h1
    obtain ⟨c, hc1, hc2⟩ := Option.bind_eq_some_iff.1 h1
    obtain ⟨_, l1, l2⟩ := World.cells?_some hc1
    obtain ⟨x, hx⟩ := hr _ _ _ hc2
    exact ⟨x, c, hx, l1, l2⟩
  have hs : 0 < len → a.spot = none := by
    intro hp
    obtain ⟨x, c, _, l1, l2⟩ := each0 0 hp
    have h2 := (l2 0 h0).trans (List.getElem?_eq_getElem (by omega))
    simpa [Addr.add] using World.cell?_spot h2
  obtain ⟨b, off, spot⟩ := a
  simp only at hs
  have each : ∀ i, i < len → ∃ x c, RE x c ∧ c.length = sz ∧ ∀ j v, c[j]? = some v → (fun m v => w.cell? ⟨b, off + m, none⟩ = some v) (i * sz + j) v := by
    intro i hi
    obtain ⟨x, c, hx, l1, l2⟩ := each0 i hi
    refine ⟨x, c, hx, l1, fun j v hj => ?_⟩
    have hjl : j < sz := by
      have := (List.getElem?_eq_some_iff.1 hj).1
      omega
    have h2 := (l2 j hjl).trans hj
    rw [hs (by omega), add_plain, add_plain] at h2
    simpa [Nat.add_assoc] using h2
  obtain ⟨xs, cs, e1, e2, e3⟩ := els_of (RE := RE) (sz := sz) (Q := fun m v => w.cell? ⟨b, off + m, none⟩ = some v) each
  refine ⟨_, xs, rfl, cs, e2, some ⟨b, off, spot⟩, cap, by rw [e1], by omega, hm, fun hn => by rw [hs (by omega)]; rfl, fun hn j v hj => mem_cell (e3 j v hj)⟩

theorem rd_struct {fs : Array Field} {fuel : Nat} {cs : List Value} {x : DataW H × List MemPlace} (ht : P.underlying t = some (.struct fs)) (h : DataW.trod enc P w base spare held fuel t cs = some x) :
    cs.length = P.cellsOf t ∧ ∀ (i : Nat) (f : Field), fs[i]? = some f → ∃ n y, DataW.trod enc P w base spare held n f.type ((cs.drop f.offset).take (P.cellsOf f.type)) = some y := by
  obtain ⟨xs, n, _, _, hl, hx, hf⟩ := DataW.trod_struct ht h
  refine ⟨hl, fun i f hi => ?_⟩
  have h1 := hf i f hi
  have : i < fs.size := (Array.getElem?_eq_some_iff.1 hi).1
  rw [List.getElem?_eq_getElem (by omega)] at h1
  exact ⟨n, _, h1⟩
theorem chop {α : Type} (cs : List α) (o n m : Nat) (h : o + n = m) : cs.drop o = (cs.drop o).take n ++ cs.drop m := by
  subst h
  rw [← List.drop_drop, List.take_append_drop]

theorem rd_at {R : List Value → Prop} {v : Value} {d : DataW H} {ps : List MemPlace} (hr : Rd enc P w base spare held t R) (h : DataW.Trod enc P w base spare held t v d ps) : R v.cells.toList := by
  obtain ⟨fuel, hf⟩ := h
  exact hr _ _ _ hf
theorem at_slice {α : Type} {RE : α → List Value → Prop} {sz : Nat} {r : Reach} {b0 : Nat} {v : Value} {d : DataW H} {ps : List MemPlace} (ht : P.underlying t = some (.slice e)) (hval : Value.okWide P w r b0 t v)
    (hr : Rd enc P w base spare held t (fun c => ∃ v xs, c = [v] ∧ Slc RE sz (mem w) v xs)) (h : DataW.Trod enc P w base spare held t v d ps) : ∃ xs, Slc RE sz (mem w) v xs := by
  obtain ⟨a, len, cap, rfl⟩ := okWide_slice ht hval
  obtain ⟨u, xs, e1, h2⟩ := rd_at hr h
  simp [Value.cells] at e1
  subst e1
  exact ⟨xs, h2⟩
theorem at_agg {R : List Value → Prop} {v : Value} {d : DataW H} {ps : List MemPlace} (hv : ∃ cs, v = .agg cs) (hr : Rd enc P w base spare held t R) (h : DataW.Trod enc P w base spare held t v d ps) : ∃ cs : List Value, v = .agg cs.toArray ∧ R cs := by
  obtain ⟨cs, rfl⟩ := hv
  exact ⟨cs.toList, by simp, rd_at hr h⟩
theorem agg_struct {fs : Array Field} {r : Reach} {b0 : Nat} {v : Value} (ht : P.underlying t = some (.struct fs)) (hval : Value.okWide P w r b0 t v) : ∃ cs, v = .agg cs := let ⟨cs, h, _⟩ := okWide_struct ht hval; ⟨cs, h⟩
theorem agg_array {n : Nat} {r : Reach} {b0 : Nat} {v : Value} (ht : P.underlying t = some (.array n e)) (hval : Value.okWide P w r b0 t v) : ∃ cs, v = .agg cs := by
  unfold Value.okWide at hval
  rw [ht] at hval
  obtain ⟨cs, h, _⟩ := hval
  exact ⟨cs, h⟩
theorem again {W W' : World} {v : Value} {d : DataW H} {ps : List MemPlace} (hl : laidOutB P = true) (hr : P.readableRec t = true) (hrow : t < P.types.size) (h : DataW.Trod enc P W 0 (fun _ => true) true t v d ps) (hb : Below W.heap.size W W') :
    DataW.Trod enc P W' 0 (fun b => decide (b < W.heap.size)) true t v d ps :=
  Below.trod hl hr hrow h hb (fun p hp => let ⟨n, hn⟩ := h; DataW.trod_lt n _ _ _ hn p hp)
end
end Go.Proofs.Ytnbnnphlffhgiaa.K
