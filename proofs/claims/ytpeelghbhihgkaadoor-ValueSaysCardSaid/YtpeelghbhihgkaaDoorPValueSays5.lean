/- Proved: the statement ValueSays, as given (its conditions are those of the given row, and card where there is one; no others): the call ends, with true, and the input reads as it did. This file is one of its parts. -/
import Derived.Test.YtpeelghbhihgkaaDoorPValueSays4
import Derived.OpenShut
import Derived.ChangeArms
import Derived.DataReads
import Derived.WideShapes
import Derived.Below
import Derived.Carry
import Derived.ChangeOld
import Derived.LaidLaws
import Derived.Stop.ErrReads
import Derived.ChangeVars
import Derived.Test.YtpeelghbhihgkaaDoorRows
import Derived.Test.YtpeelghbhihgkaaDoorProg
import Derived.JoinedOf
import Derived.ProofKit
import Derived.WalkKit
import Derived.ShutString
import Derived.SizedLaws
import Derived.LaidHandle
import Derived.Handed
import Derived.SevenTiedAt
import Derived.Test.YtpeelghbhihgkaaDoorCards
import Derived.Test.YtpeelghbhihgkaaDoorTie
namespace Go.Proofs.YtpeelghbhihgkaaDoor.K
open Go Go.Proofs Go.ChangeShapes Go.WideShapes Go.RowKit
def mem (w : World) : Store := fun k => w.heap[k]?
theorem agr_mem (w : World) : Agr (mem w) w := fun _ _ h => h
theorem mem_cell {w : World} {g i : Nat} {v : Value} (h : w.cell? ⟨g, i, none⟩ = some v) : (mem w).cell g i = some v := by
  unfold World.cell? at h
  unfold Store.cell mem
  cases hm : w.heap[g]? with
  | none => simp [hm] at h
  | some o => cases o <;> simp_all
theorem wf_in {k : IntKind} {n : Int} (h : (Lit.int k n).wf = true) : InR k n := by
  cases k <;> simp [Lit.wf, IntKind.min, IntKind.max, IntKind.signed, IntKind.bits] at h <;> simp [InR] <;> omega
section
variable {H : Type} {enc : TypeId × Value → H} {P : Program} {w : World} {base : Nat} {spare : Nat → Bool} {held : Bool} {t e : TypeId}
def Rd (enc : TypeId × Value → H) (P : Program) (w : World) (base : Nat) (spare : Nat → Bool) (held : Bool) (t : TypeId) (R : List Value → Prop) : Prop :=
  ∀ fuel cs x, DataW.trod enc P w base spare held fuel t cs = some x → R cs
theorem rd_int {k : IntKind} (ht : P.underlying t = some (.int k)) : Rd enc P w base spare held t (fun c => ∃ n, RI k n c) := by
  intro fuel cs x h
  obtain ⟨n, rfl, _, hw⟩ := DataW.trod_int ht h
  exact ⟨n, rfl, wf_in hw⟩
theorem rd_bool (ht : P.underlying t = some .bool) : Rd enc P w base spare held t (fun c => ∃ b, c = [[.bool b]].flatten) := by
  intro fuel cs x h
  obtain ⟨b, rfl, _⟩ := DataW.trod_bool ht h
  exact ⟨b, rfl⟩
theorem rd_array {k : IntKind} {n : Nat} (ht : P.underlying t = some (.array n e)) (he : P.underlying e = some (.int k)) (hc : P.cellsOf e = 1) (hn : P.cellsOf t = n) :
    Rd enc P w base spare held t (fun c => ∃ xs, RA k n xs c) := by
  intro fuel cs x h
  obtain ⟨xs, m, _, _, hl, hx, hf⟩ := DataW.trod_array ht h
  rw [hn] at hl
  have each : ∀ i, i < n → ∃ z, cs[i]? = some (.int k z) ∧ InR k z := by
    intro i hi
    have h1 := hf i hi
    rw [hc, Nat.mul_one, List.getElem?_eq_getElem (by omega)] at h1
    obtain ⟨z, hz, _, hw⟩ := DataW.trod_int he h1
    refine ⟨z, ?_, wf_in hw⟩
    have := congrArg (·[0]?) hz
    simpa using this
  refine ⟨cs.map fun v => match v with | .int _ z => z | _ => 0, ?_, ?_, ?_⟩
  · simp only [List.flatten_cons, List.flatten_nil, List.append_nil]
    apply List.ext_getElem?
    intro i
    by_cases hi : i < n
    · obtain ⟨z, hz, _⟩ := each i hi
      rw [av_get _ _ _ hi, hz]
      simp [List.getD, hz]
    · rw [List.getElem?_eq_none (by omega), List.getElem?_eq_none (by rw [av_len]; omega)]
  · simpa using hl
  · intro y hy
    obtain ⟨v, hv, rfl⟩ := List.mem_map.1 hy
    obtain ⟨i, hi, rfl⟩ := List.getElem_of_mem hv
    obtain ⟨z, hz, hr⟩ := each i (by omega)
    rw [List.getElem?_eq_getElem hi] at hz
    rw [Option.some.inj hz]
    exact hr
theorem els_of {α : Type} {RE : α → List Value → Prop} {sz : Nat} : ∀ {n : Nat} {Q : Nat → Value → Prop}, (∀ i, i < n → ∃ x c, RE x c ∧ c.length = sz ∧ ∀ j v, c[j]? = some v → Q (i * sz + j) v) →
    ∃ xs cs, xs.length = n ∧ Els RE sz xs cs ∧ ∀ j v, cs[j]? = some v → Q j v
  | 0, _, _ => ⟨[], [], rfl, .nil, fun j v h => by simp at h⟩
  | n + 1, Q, f => by
    obtain ⟨x, c, h1, h2, h3⟩ := f 0 (by omega)
    obtain ⟨xs, cs, e1, e2, e3⟩ := els_of (n := n) (Q := fun m v => Q (sz + m) v) (fun i hi => by
      obtain ⟨x, c, h1, h2, h3⟩ := f (i + 1) (by omega)
      refine ⟨x, c, h1, h2, fun j v hj => ?_⟩
      have := h3 j v hj
      rwa [Nat.add_mul, Nat.one_mul, Nat.add_comm (i * sz), Nat.add_assoc] at this)
    refine ⟨x :: xs, c ++ cs, by simp [e1], .cons h1 h2 e2, fun j v hj => ?_⟩
    rcases Nat.lt_or_ge j c.length with h | h
    · rw [List.getElem?_append_left h] at hj
      simpa using h3 j v hj
    · rw [List.getElem?_append_right h] at hj
      have := e3 _ _ hj
      rwa [h2, Nat.add_sub_cancel' (by omega)] at this
theorem rd_slice {α : Type} {RE : α → List Value → Prop} {sz : Nat} (ht : P.underlying t = some (.slice e)) (hc : P.cellsOf e = sz) (h0 : 0 < sz) (hr : Rd enc P w base spare held e (fun c => ∃ x, RE x c)) :
    Rd enc P w base spare held t (fun c => ∃ v xs, c = [v] ∧ Slc RE sz (mem w) v xs) := by
  intro fuel cs x h
  rcases DataW.trod_slice ht h with ⟨rfl, _⟩ | ⟨a, len, cap, elems, rest, n, _, rfl, _, _, hl, hm, hlen, hel, _, _⟩
  · exact ⟨_, [], rfl, [], .nil, none, 0, rfl, Nat.le_refl _, Nat.zero_le _, fun h => absurd rfl h, fun h => absurd rfl h⟩
  have each0 : ∀ i, i < len → ∃ x c, RE x c ∧ c.length = sz ∧ ∀ j, j < sz → w.cell? ((a.add (i * sz)).add j) = c[j]? := by
    intro i hi
    have h1 := hel i hi
    rw [List.getElem?_eq_getElem (by omega), hc] at h1
    obtain ⟨c, hc1, hc2⟩ := Option.bind_eq_some_iff.1 h1
    obtain ⟨_, l1, l2⟩ := World.cells?_some hc1
    obtain ⟨x, hx⟩ := hr _ _ _ hc2
    exact ⟨x, c, hx, l1, l2⟩
  have hs : 0 < len → a.spot = none := by
    intro hp
    obtain ⟨x, c, _, l1, l2⟩ := each0 0 hp
    have h2 := (l2 0 h0).trans (List.getElem?_eq_getElem (by omega))
    simpa [Addr.add] using World.cell?_spot h2
  obtain ⟨b, off, spot⟩ := a
  simp only at hs
  have each : ∀ i, i < len → ∃ x c, RE x c ∧ c.length = sz ∧ ∀ j v, c[j]? = some v → (fun m v => w.cell? ⟨b, off + m, none⟩ = some v) (i * sz + j) v := by
    intro i hi
    obtain ⟨x, c, hx, l1, l2⟩ := each0 i hi
    refine ⟨x, c, hx, l1, fun j v hj => ?_⟩
    have hjl : j < sz := by
      have := (List.getElem?_eq_some_iff.1 hj).1
      omega
    have h2 := (l2 j hjl).trans hj
    rw [hs (by omega), add_plain, add_plain] at h2
    simpa [Nat.add_assoc] using h2
  obtain ⟨xs, cs, e1, e2, e3⟩ := els_of (RE := RE) (sz := sz) (Q := fun m v => w.cell? ⟨b, off + m, none⟩ = some v) each
  refine ⟨_, xs, rfl, cs, e2, some ⟨b, off, spot⟩, cap, by rw [e1], by omega, hm, fun hn => by rw [hs (by omega)]; rfl, fun hn j v hj => mem_cell (e3 j v hj)⟩
theorem rd_struct {fs : Array Field} {fuel : Nat} {cs : List Value} {x : DataW H × List MemPlace} (ht : P.underlying t = some (.struct fs)) (h : DataW.trod enc P w base spare held fuel t cs = some x) :
    cs.length = P.cellsOf t ∧ ∀ (i : Nat) (f : Field), fs[i]? = some f → ∃ n y, DataW.trod enc P w base spare held n f.type ((cs.drop f.offset).take (P.cellsOf f.type)) = some y := by
  obtain ⟨xs, n, _, _, hl, hx, hf⟩ := DataW.trod_struct ht h
  refine ⟨hl, fun i f hi => ?_⟩
  have h1 := hf i f hi
  have : i < fs.size := (Array.getElem?_eq_some_iff.1 hi).1
  rw [List.getElem?_eq_getElem (by omega)] at h1
  exact ⟨n, _, h1⟩
theorem chop {α : Type} (cs : List α) (o n m : Nat) (h : o + n = m) : cs.drop o = (cs.drop o).take n ++ cs.drop m := by
  subst h
  rw [← List.drop_drop, List.take_append_drop]
theorem rd_at {R : List Value → Prop} {v : Value} {d : DataW H} {ps : List MemPlace} (hr : Rd enc P w base spare held t R) (h : DataW.Trod enc P w base spare held t v d ps) : R v.cells.toList := by
  obtain ⟨fuel, hf⟩ := h
  exact hr _ _ _ hf
theorem at_slice {α : Type} {RE : α → List Value → Prop} {sz : Nat} {r : Reach} {b0 : Nat} {v : Value} {d : DataW H} {ps : List MemPlace} (ht : P.underlying t = some (.slice e)) (hval : Value.okWide P w r b0 t v)
    (hr : Rd enc P w base spare held t (fun c => ∃ v xs, c = [v] ∧ Slc RE sz (mem w) v xs)) (h : DataW.Trod enc P w base spare held t v d ps) : ∃ xs, Slc RE sz (mem w) v xs := by
  obtain ⟨a, len, cap, rfl⟩ := okWide_slice ht hval
  obtain ⟨u, xs, e1, h2⟩ := rd_at hr h
  simp [Value.cells] at e1
  subst e1
  exact ⟨xs, h2⟩
theorem at_agg {R : List Value → Prop} {v : Value} {d : DataW H} {ps : List MemPlace} (hv : ∃ cs, v = .agg cs) (hr : Rd enc P w base spare held t R) (h : DataW.Trod enc P w base spare held t v d ps) : ∃ cs : List Value, v = .agg cs.toArray ∧ R cs := by
  obtain ⟨cs, rfl⟩ := hv
  exact ⟨cs.toList, by simp, rd_at hr h⟩
theorem agg_struct {fs : Array Field} {r : Reach} {b0 : Nat} {v : Value} (ht : P.underlying t = some (.struct fs)) (hval : Value.okWide P w r b0 t v) : ∃ cs, v = .agg cs := let ⟨cs, h, _⟩ := okWide_struct ht hval; ⟨cs, h⟩
theorem again {W W' : World} {v : Value} {d : DataW H} {ps : List MemPlace} (hl : laidOutB P = true) (hr : P.readableRec t = true) (hrow : t < P.types.size) (h : DataW.Trod enc P W 0 (fun _ => true) true t v d ps) (hb : Below W.heap.size W W') :
    DataW.Trod enc P W' 0 (fun b => decide (b < W.heap.size)) true t v d ps :=
  Below.trod hl hr hrow h hb (fun p hp => let ⟨n, hn⟩ := h; DataW.trod_lt n _ _ _ hn p hp)
end
end Go.Proofs.YtpeelghbhihgkaaDoor.K
namespace Go.Proofs.YtpeelghbhihgkaaDoor.K
open Go Go.Proofs
set_option linter.unusedVariables false
theorem laid_each {P : Program} {W : World} : ∀ {l : List (String × DataW Unit)} {ps : List MemPlace}, DataW.LaidVars P W l ps → ∀ {n : String} {d : DataW Unit}, (n, d) ∈ l →
    ∃ g t cs fuel p, P.globalNamed n = some g ∧ (P.globals[g]?).map (·.type) = some t ∧ W.var? P n = some cs ∧ DataW.trod (fun _ => ()) P W 0 (fun _ => true) false fuel t cs.toList = some (d, p) ∧ ∀ x ∈ MemPlace.row ⟨g, 0, none⟩ cs.size ++ p, x ∈ ps
  | [], ps, h, n, d, hm => by cases hm
  | (m, e) :: r, ps, h, n, d, hm => by
    obtain ⟨g, t, cs, fuel, p, q, hg, ht, hv, hd, hr, rfl⟩ := h
    rcases List.mem_cons.1 hm with e1 | hm
    · cases e1
      exact ⟨g, t, cs, fuel, p, hg, ht, hv, hd, fun x hx => List.mem_append_left _ hx⟩
    · obtain ⟨g', t', cs', fuel', p', a1, a2, a3, a4, a5⟩ := laid_each hr hm
      exact ⟨g', t', cs', fuel', p', a1, a2, a3, a4, fun x hx => List.mem_append_right _ (a5 x hx)⟩
theorem sent_of_laid {P : Program} {W : World} {laid : List (String × DataW Unit)} {code : ByteArray → Nat} {n : String} {text : List UInt8} {g : Nat} {ti tp ta te ts : TypeId} {ms : Array (String × TypeId)} {f : Field}
    (h : laidMet P laid W) (hm : (n, .iface "*errors.errorString" (.ptr (.agg [.lit (.string text)]))) ∈ laid) (hg : P.globalNamed n = some g) (ht : (P.globals[g]?).map (·.type) = some ti)
    (hi : P.underlying ti = some (.interface ms)) (hrow : ∀ u, P.typeName? 3 u = some "*errors.errorString" → u = tp) (hp : P.underlying tp = some (.pointer te)) (he : P.underlying te = some (.struct #[f])) (hft : f.type = ts) (hfo : f.offset = 0) (hs : P.underlying ts = some .string) (hc : P.cellsOf te = 1) (hcs : P.cellsOf ts = 1)
    (hcode : ∀ s : ByteArray, s.data.toList = text → code s = g + 1) : ∃ v, ErV tp ta code (mem W) (.b (g + 1)) v := by
  obtain ⟨ps, hl, hnd, hrows⟩ := h
  obtain ⟨g', t', cs, fuel, p, a1, a2, a3, a4, a5⟩ := laid_each hl hm
  obtain rfl := Option.some.inj (hg.symm.trans a1)
  obtain rfl := Option.some.inj (ht.symm.trans a2)
  obtain ⟨l⟩ := cs
  have ok : ∀ u v, l = [.iface u v] → Value.okWide P W .any 0 u v := fun u v e => by
    subst e
    exact (hrows g 0 (a5 _ (by simp [MemPlace.row]))).2 u v (by simpa using World.var?_cell hg a3 0)
  obtain ⟨a, s, rfl, hcell, hst, hz, rfl⟩ := errorString_of_trod hi hrow hp he hft hfo hs hc hcs a4 ok
  obtain ⟨c, t, hb⟩ := (hrows a.block a.off (a5 _ (by simp [MemPlace.row]))).1
  refine ⟨.iface tp (.pointer (some a)), .inr ⟨by omega, mem_cell (by simpa using World.var?_cell hg a3 0), a, s, c, t, rfl, hb, hcode s hst, fun w hw => ?_⟩⟩
  have e : w.heap[a.block]? = W.heap[a.block]? := (hw _ _ hb).trans hb.symm
  unfold World.cell? at hcell ⊢
  rw [e]
  exact hcell
end Go.Proofs.YtpeelghbhihgkaaDoor.K
namespace Go.Proofs.YtpeelghbhihgkaaDoor.T
open Go Go.Proofs Go.Proofs.YtpeelghbhihgkaaDoor.K
set_option linter.unusedVariables false
set_option linter.unusedSimpArgs false
set_option maxRecDepth 100000
theorem own : ownKnob Tryd.prog.godebug = none := by kernel_rfl
noncomputable def low : Nat := (World.holding Tryd.prog default ⟨#[], #[], []⟩).heap.size
abbrev es0 : ByteArray := { data := #[110, 111, 116, 32, 97, 115, 32, 105, 116, 32, 104, 97, 115, 32, 116, 111, 32, 98, 101] }
abbrev es1 : ByteArray := { data := #[116, 111, 111, 32, 109, 97, 110, 121, 44, 32, 111, 114, 32, 116, 111, 111, 32, 102, 101, 119] }
abbrev es2 : ByteArray := { data := #[116, 111, 111, 32, 108, 111, 110, 103] }
abbrev es3 : ByteArray := { data := #[97, 32, 107, 101, 121, 32, 116, 104, 97, 116, 32, 100, 111, 101, 115, 32, 110, 111, 116, 32, 102, 105, 116] }
abbrev es4 : ByteArray := { data := #[97, 110, 32, 97, 109, 111, 117, 110, 116, 32, 116, 104, 97, 116, 32, 99, 97, 110, 39, 116, 32, 98, 101] }
abbrev es5 : ByteArray := { data := #[111, 110, 101, 32, 116, 104, 105, 110, 103, 32, 116, 119, 105, 99, 101] }
abbrev es6 : ByteArray := { data := #[97, 32, 110, 117, 109, 98, 101, 114, 32, 111, 117, 116, 32, 111, 102, 32, 105, 116, 115, 32, 114, 97, 110, 103, 101] }
abbrev es7 : ByteArray := { data := #[108, 101, 115, 115, 32, 99, 111, 109, 101, 115, 32, 105, 110, 32, 116, 104, 97, 110, 32, 103, 111, 101, 115, 32, 111, 117, 116] }
abbrev es8 : ByteArray := { data := #[105, 116, 32, 101, 110, 100, 115, 32, 116, 111, 111, 32, 101, 97, 114, 108, 121] }
abbrev es9 : ByteArray := { data := #[110, 111, 32, 102, 105, 114, 115, 116, 32, 116, 114, 97, 110, 115, 97, 99, 116, 105, 111, 110, 32, 119, 104, 101, 114, 101, 32, 116, 104, 101, 114, 101, 32, 104, 97, 115, 32, 116, 111, 32, 98, 101, 32, 111, 110, 101, 44, 32, 111, 114, 32, 111, 110, 101, 32, 119, 104, 101, 114, 101, 32, 116, 104, 101, 114, 101, 32, 109, 97, 121, 32, 98, 101, 32, 110, 111, 110, 101] }
abbrev es10 : ByteArray := { data := #[97, 32, 114, 111, 111, 116, 32, 116, 104, 97, 116, 32, 100, 111, 101, 115, 32, 110, 111, 116, 32, 102, 105, 116] }
abbrev es11 : ByteArray := { data := #[107, 110, 111, 119, 110, 32, 97, 108, 114, 101, 97, 100, 121] }
abbrev es12 : ByteArray := { data := #[110, 111, 32, 115, 117, 99, 104, 32, 112, 97, 114, 101, 110, 116] }
abbrev es13 : ByteArray := { data := #[98, 101, 104, 105, 110, 100, 32, 119, 104, 97, 116, 32, 105, 115, 32, 110, 111, 116, 32, 118, 97, 108, 105, 100] }
abbrev es14 : ByteArray := { data := #[97, 32, 116, 105, 109, 101, 32, 116, 104, 97, 116, 32, 105, 115, 32, 116, 111, 111, 32, 101, 97, 114, 108, 121] }
abbrev es15 : ByteArray := { data := #[97, 32, 99, 111, 105, 110, 32, 116, 104, 97, 116, 32, 105, 115, 32, 110, 111, 116, 32, 116, 104, 101, 114, 101] }
abbrev es16 : ByteArray := { data := #[97, 32, 99, 111, 105, 110, 32, 116, 104, 97, 116, 32, 105, 115, 32, 116, 111, 111, 32, 121, 111, 117, 110, 103] }
abbrev es17 : ByteArray := { data := #[116, 111, 111, 32, 101, 97, 114, 108, 121, 32, 116, 111, 32, 98, 101, 32, 116, 97, 107, 101, 110] }
abbrev es18 : ByteArray := { data := #[109, 111, 114, 101, 32, 116, 104, 97, 110, 32, 116, 104, 101, 32, 114, 101, 119, 97, 114, 100] }
abbrev es19 : ByteArray := { data := #[97, 32, 99, 111, 105, 110, 32, 116, 104, 97, 116, 32, 105, 115, 32, 115, 112, 101, 110, 116, 32, 105, 110, 32, 116, 104, 101, 32, 112, 111, 111, 108] }
abbrev es20 : ByteArray := { data := #[116, 111, 111, 32, 109, 97, 110, 121, 32, 116, 104, 97, 116, 32, 104, 97, 110, 103, 32, 116, 111, 103, 101, 116, 104, 101, 114] }
abbrev es21 : ByteArray := { data := #[116, 104, 101, 114, 101, 32, 105, 115, 32, 110, 111, 32, 114, 111, 111, 109] }
abbrev es22 : ByteArray := { data := #[116, 104, 101, 114, 101, 32, 105, 115, 32, 110, 111, 110, 101] }
abbrev es23 : ByteArray := { data := #[110, 111, 32, 115, 117, 99, 104, 32, 119, 111, 114, 100] }
abbrev es24 : ByteArray := { data := #[110, 111, 116, 32, 97, 32, 110, 117, 109, 98, 101, 114] }
def setC (v : Value) : Obj → Obj
  | .cells _ t frozen => .cells #[v] t frozen
  | x => x
noncomputable def laidWorld (os : Os) : World :=
  let w0 := World.holding Tryd.prog os ⟨#[.cells #[.string es0] 223, .cells #[.string es1] 223, .cells #[.string es2] 223, .cells #[.string es3] 223, .cells #[.string es4] 223, .cells #[.string es5] 223, .cells #[.string es6] 223, .cells #[.string es7] 223, .cells #[.string es8] 223, .cells #[.string es9] 223, .cells #[.string es10] 223, .cells #[.string es11] 223, .cells #[.string es12] 223, .cells #[.string es13] 223, .cells #[.string es14] 223, .cells #[.string es15] 223, .cells #[.string es16] 223, .cells #[.string es17] 223, .cells #[.string es18] 223, .cells #[.string es19] 223, .cells #[.string es20] 223, .cells #[.string es21] 223, .cells #[.string es22] 223, .cells #[.string es23] 223, .cells #[.string es24] 223], #[], []⟩
  { w0 with heap := (((((((((((((((((((((((((w0.heap.modify 0 (setC (.iface 206 (.pointer (some ⟨low + 0, 0, none⟩))))).modify 1 (setC (.iface 206 (.pointer (some ⟨low + 1, 0, none⟩))))).modify 2 (setC (.iface 206 (.pointer (some ⟨low + 2, 0, none⟩))))).modify 3 (setC (.iface 206 (.pointer (some ⟨low + 3, 0, none⟩))))).modify 4 (setC (.iface 206 (.pointer (some ⟨low + 4, 0, none⟩))))).modify 5 (setC (.iface 206 (.pointer (some ⟨low + 5, 0, none⟩))))).modify 6 (setC (.iface 206 (.pointer (some ⟨low + 6, 0, none⟩))))).modify 7 (setC (.iface 206 (.pointer (some ⟨low + 7, 0, none⟩))))).modify 8 (setC (.iface 206 (.pointer (some ⟨low + 8, 0, none⟩))))).modify 9 (setC (.iface 206 (.pointer (some ⟨low + 9, 0, none⟩))))).modify 10 (setC (.iface 206 (.pointer (some ⟨low + 10, 0, none⟩))))).modify 11 (setC (.iface 206 (.pointer (some ⟨low + 11, 0, none⟩))))).modify 12 (setC (.iface 206 (.pointer (some ⟨low + 12, 0, none⟩))))).modify 13 (setC (.iface 206 (.pointer (some ⟨low + 13, 0, none⟩))))).modify 14 (setC (.iface 206 (.pointer (some ⟨low + 14, 0, none⟩))))).modify 15 (setC (.iface 206 (.pointer (some ⟨low + 15, 0, none⟩))))).modify 16 (setC (.iface 206 (.pointer (some ⟨low + 16, 0, none⟩))))).modify 17 (setC (.iface 206 (.pointer (some ⟨low + 17, 0, none⟩))))).modify 18 (setC (.iface 206 (.pointer (some ⟨low + 18, 0, none⟩))))).modify 19 (setC (.iface 206 (.pointer (some ⟨low + 19, 0, none⟩))))).modify 20 (setC (.iface 206 (.pointer (some ⟨low + 20, 0, none⟩))))).modify 21 (setC (.iface 206 (.pointer (some ⟨low + 21, 0, none⟩))))).modify 22 (setC (.iface 206 (.pointer (some ⟨low + 22, 0, none⟩))))).modify 23 (setC (.iface 206 (.pointer (some ⟨low + 23, 0, none⟩))))).modify 24 (setC (.iface 206 (.pointer (some ⟨low + 24, 0, none⟩))))) }
theorem starE : "*" ++ "errors.errorString" = "*errors.errorString" := by decide
theorem rowE (u : TypeId) (h : Tryd.prog.typeName? 3 u = some "*errors.errorString") : u = 206 :=
  typeName_ptr_named (nm := "errors.errorString") (by rw [starE]; kernel_rfl) (by kernel_rfl) (by decide) u (by rw [starE]; exact h)
theorem ceE : Tryd.prog.cellsOf 223 = 1 := by kernel_rfl
theorem csE : Tryd.prog.cellsOf 9 = 1 := by kernel_rfl
theorem sent0 {W : World} {l : List (String × DataW Unit)} (h : laidMet Tryd.prog l W) (hm : ("sargasso/api.ErrShape", .iface "*errors.errorString" (.ptr (.agg [.lit (.string [110, 111, 116, 32, 97, 115, 32, 105, 116, 32, 104, 97, 115, 32, 116, 111, 32, 98, 101])]))) ∈ l) : ∃ v, ErS (mem W) v (Er.b 1) :=
  sent_of_laid h hm (by kernel_rfl) (by kernel_rfl) Tryd.underlying34 rowE Tryd.underlying206 Tryd.underlying223 rfl rfl Tryd.underlying9 ceE csE (fun s hs => by unfold errCode; rw [hs]; kernel_rfl)
theorem sent1 {W : World} {l : List (String × DataW Unit)} (h : laidMet Tryd.prog l W) (hm : ("sargasso/api.ErrMany", .iface "*errors.errorString" (.ptr (.agg [.lit (.string [116, 111, 111, 32, 109, 97, 110, 121, 44, 32, 111, 114, 32, 116, 111, 111, 32, 102, 101, 119])]))) ∈ l) : ∃ v, ErS (mem W) v (Er.b 2) :=
  sent_of_laid h hm (by kernel_rfl) (by kernel_rfl) Tryd.underlying34 rowE Tryd.underlying206 Tryd.underlying223 rfl rfl Tryd.underlying9 ceE csE (fun s hs => by unfold errCode; rw [hs]; kernel_rfl)
theorem sent2 {W : World} {l : List (String × DataW Unit)} (h : laidMet Tryd.prog l W) (hm : ("sargasso/api.ErrLong", .iface "*errors.errorString" (.ptr (.agg [.lit (.string [116, 111, 111, 32, 108, 111, 110, 103])]))) ∈ l) : ∃ v, ErS (mem W) v (Er.b 3) :=
  sent_of_laid h hm (by kernel_rfl) (by kernel_rfl) Tryd.underlying34 rowE Tryd.underlying206 Tryd.underlying223 rfl rfl Tryd.underlying9 ceE csE (fun s hs => by unfold errCode; rw [hs]; kernel_rfl)
theorem sent3 {W : World} {l : List (String × DataW Unit)} (h : laidMet Tryd.prog l W) (hm : ("sargasso/api.ErrKey", .iface "*errors.errorString" (.ptr (.agg [.lit (.string [97, 32, 107, 101, 121, 32, 116, 104, 97, 116, 32, 100, 111, 101, 115, 32, 110, 111, 116, 32, 102, 105, 116])]))) ∈ l) : ∃ v, ErS (mem W) v (Er.b 4) :=
  sent_of_laid h hm (by kernel_rfl) (by kernel_rfl) Tryd.underlying34 rowE Tryd.underlying206 Tryd.underlying223 rfl rfl Tryd.underlying9 ceE csE (fun s hs => by unfold errCode; rw [hs]; kernel_rfl)
theorem sent4 {W : World} {l : List (String × DataW Unit)} (h : laidMet Tryd.prog l W) (hm : ("sargasso/api.ErrValue", .iface "*errors.errorString" (.ptr (.agg [.lit (.string [97, 110, 32, 97, 109, 111, 117, 110, 116, 32, 116, 104, 97, 116, 32, 99, 97, 110, 39, 116, 32, 98, 101])]))) ∈ l) : ∃ v, ErS (mem W) v (Er.b 5) :=
  sent_of_laid h hm (by kernel_rfl) (by kernel_rfl) Tryd.underlying34 rowE Tryd.underlying206 Tryd.underlying223 rfl rfl Tryd.underlying9 ceE csE (fun s hs => by unfold errCode; rw [hs]; kernel_rfl)
theorem sent5 {W : World} {l : List (String × DataW Unit)} (h : laidMet Tryd.prog l W) (hm : ("sargasso/api.ErrTwice", .iface "*errors.errorString" (.ptr (.agg [.lit (.string [111, 110, 101, 32, 116, 104, 105, 110, 103, 32, 116, 119, 105, 99, 101])]))) ∈ l) : ∃ v, ErS (mem W) v (Er.b 6) :=
  sent_of_laid h hm (by kernel_rfl) (by kernel_rfl) Tryd.underlying34 rowE Tryd.underlying206 Tryd.underlying223 rfl rfl Tryd.underlying9 ceE csE (fun s hs => by unfold errCode; rw [hs]; kernel_rfl)
theorem sent6 {W : World} {l : List (String × DataW Unit)} (h : laidMet Tryd.prog l W) (hm : ("sargasso/api.ErrRange", .iface "*errors.errorString" (.ptr (.agg [.lit (.string [97, 32, 110, 117, 109, 98, 101, 114, 32, 111, 117, 116, 32, 111, 102, 32, 105, 116, 115, 32, 114, 97, 110, 103, 101])]))) ∈ l) : ∃ v, ErS (mem W) v (Er.b 7) :=
  sent_of_laid h hm (by kernel_rfl) (by kernel_rfl) Tryd.underlying34 rowE Tryd.underlying206 Tryd.underlying223 rfl rfl Tryd.underlying9 ceE csE (fun s hs => by unfold errCode; rw [hs]; kernel_rfl)
theorem sent7 {W : World} {l : List (String × DataW Unit)} (h : laidMet Tryd.prog l W) (hm : ("sargasso/api.ErrLess", .iface "*errors.errorString" (.ptr (.agg [.lit (.string [108, 101, 115, 115, 32, 99, 111, 109, 101, 115, 32, 105, 110, 32, 116, 104, 97, 110, 32, 103, 111, 101, 115, 32, 111, 117, 116])]))) ∈ l) : ∃ v, ErS (mem W) v (Er.b 8) :=
  sent_of_laid h hm (by kernel_rfl) (by kernel_rfl) Tryd.underlying34 rowE Tryd.underlying206 Tryd.underlying223 rfl rfl Tryd.underlying9 ceE csE (fun s hs => by unfold errCode; rw [hs]; kernel_rfl)
theorem sent8 {W : World} {l : List (String × DataW Unit)} (h : laidMet Tryd.prog l W) (hm : ("sargasso/api.ErrEnd", .iface "*errors.errorString" (.ptr (.agg [.lit (.string [105, 116, 32, 101, 110, 100, 115, 32, 116, 111, 111, 32, 101, 97, 114, 108, 121])]))) ∈ l) : ∃ v, ErS (mem W) v (Er.b 9) :=
  sent_of_laid h hm (by kernel_rfl) (by kernel_rfl) Tryd.underlying34 rowE Tryd.underlying206 Tryd.underlying223 rfl rfl Tryd.underlying9 ceE csE (fun s hs => by unfold errCode; rw [hs]; kernel_rfl)
theorem sent9 {W : World} {l : List (String × DataW Unit)} (h : laidMet Tryd.prog l W) (hm : ("sargasso/api.ErrBase", .iface "*errors.errorString" (.ptr (.agg [.lit (.string [110, 111, 32, 102, 105, 114, 115, 116, 32, 116, 114, 97, 110, 115, 97, 99, 116, 105, 111, 110, 32, 119, 104, 101, 114, 101, 32, 116, 104, 101, 114, 101, 32, 104, 97, 115, 32, 116, 111, 32, 98, 101, 32, 111, 110, 101, 44, 32, 111, 114, 32, 111, 110, 101, 32, 119, 104, 101, 114, 101, 32, 116, 104, 101, 114, 101, 32, 109, 97, 121, 32, 98, 101, 32, 110, 111, 110, 101])]))) ∈ l) : ∃ v, ErS (mem W) v (Er.b 10) :=
  sent_of_laid h hm (by kernel_rfl) (by kernel_rfl) Tryd.underlying34 rowE Tryd.underlying206 Tryd.underlying223 rfl rfl Tryd.underlying9 ceE csE (fun s hs => by unfold errCode; rw [hs]; kernel_rfl)
theorem sent10 {W : World} {l : List (String × DataW Unit)} (h : laidMet Tryd.prog l W) (hm : ("sargasso/api.ErrRoot", .iface "*errors.errorString" (.ptr (.agg [.lit (.string [97, 32, 114, 111, 111, 116, 32, 116, 104, 97, 116, 32, 100, 111, 101, 115, 32, 110, 111, 116, 32, 102, 105, 116])]))) ∈ l) : ∃ v, ErS (mem W) v (Er.b 11) :=
  sent_of_laid h hm (by kernel_rfl) (by kernel_rfl) Tryd.underlying34 rowE Tryd.underlying206 Tryd.underlying223 rfl rfl Tryd.underlying9 ceE csE (fun s hs => by unfold errCode; rw [hs]; kernel_rfl)
theorem sent11 {W : World} {l : List (String × DataW Unit)} (h : laidMet Tryd.prog l W) (hm : ("sargasso/api.ErrKnown", .iface "*errors.errorString" (.ptr (.agg [.lit (.string [107, 110, 111, 119, 110, 32, 97, 108, 114, 101, 97, 100, 121])]))) ∈ l) : ∃ v, ErS (mem W) v (Er.b 12) :=
  sent_of_laid h hm (by kernel_rfl) (by kernel_rfl) Tryd.underlying34 rowE Tryd.underlying206 Tryd.underlying223 rfl rfl Tryd.underlying9 ceE csE (fun s hs => by unfold errCode; rw [hs]; kernel_rfl)
theorem sent12 {W : World} {l : List (String × DataW Unit)} (h : laidMet Tryd.prog l W) (hm : ("sargasso/api.ErrParent", .iface "*errors.errorString" (.ptr (.agg [.lit (.string [110, 111, 32, 115, 117, 99, 104, 32, 112, 97, 114, 101, 110, 116])]))) ∈ l) : ∃ v, ErS (mem W) v (Er.b 13) :=
  sent_of_laid h hm (by kernel_rfl) (by kernel_rfl) Tryd.underlying34 rowE Tryd.underlying206 Tryd.underlying223 rfl rfl Tryd.underlying9 ceE csE (fun s hs => by unfold errCode; rw [hs]; kernel_rfl)
theorem sent13 {W : World} {l : List (String × DataW Unit)} (h : laidMet Tryd.prog l W) (hm : ("sargasso/api.ErrInvalid", .iface "*errors.errorString" (.ptr (.agg [.lit (.string [98, 101, 104, 105, 110, 100, 32, 119, 104, 97, 116, 32, 105, 115, 32, 110, 111, 116, 32, 118, 97, 108, 105, 100])]))) ∈ l) : ∃ v, ErS (mem W) v (Er.b 14) :=
  sent_of_laid h hm (by kernel_rfl) (by kernel_rfl) Tryd.underlying34 rowE Tryd.underlying206 Tryd.underlying223 rfl rfl Tryd.underlying9 ceE csE (fun s hs => by unfold errCode; rw [hs]; kernel_rfl)
theorem sent14 {W : World} {l : List (String × DataW Unit)} (h : laidMet Tryd.prog l W) (hm : ("sargasso/api.ErrTime", .iface "*errors.errorString" (.ptr (.agg [.lit (.string [97, 32, 116, 105, 109, 101, 32, 116, 104, 97, 116, 32, 105, 115, 32, 116, 111, 111, 32, 101, 97, 114, 108, 121])]))) ∈ l) : ∃ v, ErS (mem W) v (Er.b 15) :=
  sent_of_laid h hm (by kernel_rfl) (by kernel_rfl) Tryd.underlying34 rowE Tryd.underlying206 Tryd.underlying223 rfl rfl Tryd.underlying9 ceE csE (fun s hs => by unfold errCode; rw [hs]; kernel_rfl)
theorem sent15 {W : World} {l : List (String × DataW Unit)} (h : laidMet Tryd.prog l W) (hm : ("sargasso/api.ErrMissing", .iface "*errors.errorString" (.ptr (.agg [.lit (.string [97, 32, 99, 111, 105, 110, 32, 116, 104, 97, 116, 32, 105, 115, 32, 110, 111, 116, 32, 116, 104, 101, 114, 101])]))) ∈ l) : ∃ v, ErS (mem W) v (Er.b 16) :=
  sent_of_laid h hm (by kernel_rfl) (by kernel_rfl) Tryd.underlying34 rowE Tryd.underlying206 Tryd.underlying223 rfl rfl Tryd.underlying9 ceE csE (fun s hs => by unfold errCode; rw [hs]; kernel_rfl)
theorem sent16 {W : World} {l : List (String × DataW Unit)} (h : laidMet Tryd.prog l W) (hm : ("sargasso/api.ErrYoung", .iface "*errors.errorString" (.ptr (.agg [.lit (.string [97, 32, 99, 111, 105, 110, 32, 116, 104, 97, 116, 32, 105, 115, 32, 116, 111, 111, 32, 121, 111, 117, 110, 103])]))) ∈ l) : ∃ v, ErS (mem W) v (Er.b 17) :=
  sent_of_laid h hm (by kernel_rfl) (by kernel_rfl) Tryd.underlying34 rowE Tryd.underlying206 Tryd.underlying223 rfl rfl Tryd.underlying9 ceE csE (fun s hs => by unfold errCode; rw [hs]; kernel_rfl)
theorem sent17 {W : World} {l : List (String × DataW Unit)} (h : laidMet Tryd.prog l W) (hm : ("sargasso/api.ErrEarly", .iface "*errors.errorString" (.ptr (.agg [.lit (.string [116, 111, 111, 32, 101, 97, 114, 108, 121, 32, 116, 111, 32, 98, 101, 32, 116, 97, 107, 101, 110])]))) ∈ l) : ∃ v, ErS (mem W) v (Er.b 18) :=
  sent_of_laid h hm (by kernel_rfl) (by kernel_rfl) Tryd.underlying34 rowE Tryd.underlying206 Tryd.underlying223 rfl rfl Tryd.underlying9 ceE csE (fun s hs => by unfold errCode; rw [hs]; kernel_rfl)
theorem sent18 {W : World} {l : List (String × DataW Unit)} (h : laidMet Tryd.prog l W) (hm : ("sargasso/api.ErrReward", .iface "*errors.errorString" (.ptr (.agg [.lit (.string [109, 111, 114, 101, 32, 116, 104, 97, 110, 32, 116, 104, 101, 32, 114, 101, 119, 97, 114, 100])]))) ∈ l) : ∃ v, ErS (mem W) v (Er.b 19) :=
  sent_of_laid h hm (by kernel_rfl) (by kernel_rfl) Tryd.underlying34 rowE Tryd.underlying206 Tryd.underlying223 rfl rfl Tryd.underlying9 ceE csE (fun s hs => by unfold errCode; rw [hs]; kernel_rfl)
theorem sent19 {W : World} {l : List (String × DataW Unit)} (h : laidMet Tryd.prog l W) (hm : ("sargasso/api.ErrClash", .iface "*errors.errorString" (.ptr (.agg [.lit (.string [97, 32, 99, 111, 105, 110, 32, 116, 104, 97, 116, 32, 105, 115, 32, 115, 112, 101, 110, 116, 32, 105, 110, 32, 116, 104, 101, 32, 112, 111, 111, 108])]))) ∈ l) : ∃ v, ErS (mem W) v (Er.b 20) :=
  sent_of_laid h hm (by kernel_rfl) (by kernel_rfl) Tryd.underlying34 rowE Tryd.underlying206 Tryd.underlying223 rfl rfl Tryd.underlying9 ceE csE (fun s hs => by unfold errCode; rw [hs]; kernel_rfl)
theorem sent20 {W : World} {l : List (String × DataW Unit)} (h : laidMet Tryd.prog l W) (hm : ("sargasso/api.ErrLimit", .iface "*errors.errorString" (.ptr (.agg [.lit (.string [116, 111, 111, 32, 109, 97, 110, 121, 32, 116, 104, 97, 116, 32, 104, 97, 110, 103, 32, 116, 111, 103, 101, 116, 104, 101, 114])]))) ∈ l) : ∃ v, ErS (mem W) v (Er.b 21) :=
  sent_of_laid h hm (by kernel_rfl) (by kernel_rfl) Tryd.underlying34 rowE Tryd.underlying206 Tryd.underlying223 rfl rfl Tryd.underlying9 ceE csE (fun s hs => by unfold errCode; rw [hs]; kernel_rfl)
theorem sent21 {W : World} {l : List (String × DataW Unit)} (h : laidMet Tryd.prog l W) (hm : ("sargasso/api.ErrFull", .iface "*errors.errorString" (.ptr (.agg [.lit (.string [116, 104, 101, 114, 101, 32, 105, 115, 32, 110, 111, 32, 114, 111, 111, 109])]))) ∈ l) : ∃ v, ErS (mem W) v (Er.b 22) :=
  sent_of_laid h hm (by kernel_rfl) (by kernel_rfl) Tryd.underlying34 rowE Tryd.underlying206 Tryd.underlying223 rfl rfl Tryd.underlying9 ceE csE (fun s hs => by unfold errCode; rw [hs]; kernel_rfl)
theorem sent22 {W : World} {l : List (String × DataW Unit)} (h : laidMet Tryd.prog l W) (hm : ("sargasso/api.ErrNone", .iface "*errors.errorString" (.ptr (.agg [.lit (.string [116, 104, 101, 114, 101, 32, 105, 115, 32, 110, 111, 110, 101])]))) ∈ l) : ∃ v, ErS (mem W) v (Er.b 23) :=
  sent_of_laid h hm (by kernel_rfl) (by kernel_rfl) Tryd.underlying34 rowE Tryd.underlying206 Tryd.underlying223 rfl rfl Tryd.underlying9 ceE csE (fun s hs => by unfold errCode; rw [hs]; kernel_rfl)
theorem sent23 {W : World} {l : List (String × DataW Unit)} (h : laidMet Tryd.prog l W) (hm : ("sargasso/api.ErrWord", .iface "*errors.errorString" (.ptr (.agg [.lit (.string [110, 111, 32, 115, 117, 99, 104, 32, 119, 111, 114, 100])]))) ∈ l) : ∃ v, ErS (mem W) v (Er.b 24) :=
  sent_of_laid h hm (by kernel_rfl) (by kernel_rfl) Tryd.underlying34 rowE Tryd.underlying206 Tryd.underlying223 rfl rfl Tryd.underlying9 ceE csE (fun s hs => by unfold errCode; rw [hs]; kernel_rfl)
theorem sent24 {W : World} {l : List (String × DataW Unit)} (h : laidMet Tryd.prog l W) (hm : ("sargasso/api.ErrNumber", .iface "*errors.errorString" (.ptr (.agg [.lit (.string [110, 111, 116, 32, 97, 32, 110, 117, 109, 98, 101, 114])]))) ∈ l) : ∃ v, ErS (mem W) v (Er.b 25) :=
  sent_of_laid h hm (by kernel_rfl) (by kernel_rfl) Tryd.underlying34 rowE Tryd.underlying206 Tryd.underlying223 rfl rfl Tryd.underlying9 ceE csE (fun s hs => by unfold errCode; rw [hs]; kernel_rfl)
end Go.Proofs.YtpeelghbhihgkaaDoor.T
namespace Go.Proofs.YtpeelghbhihgkaaDoor.T
open Go Go.Proofs Go.Proofs.YtpeelghbhihgkaaDoor.K
set_option linter.unusedVariables false
set_option linter.unusedSimpArgs false
theorem laid : laidOutB Tryd.prog = true := by kernel_rfl
theorem cl3 : Tryd.prog.cellsOf 3 = 1 := by kernel_rfl
theorem rr3 : Tryd.prog.readableRec 3 = true := by kernel_rfl
theorem tr3 : 3 < Tryd.prog.types.size := of_decide_eq_true (by kernel_rfl)
theorem cl4 : Tryd.prog.cellsOf 4 = 1 := by kernel_rfl
theorem cl22 : Tryd.prog.cellsOf 22 = 1 := by kernel_rfl
theorem cl5 : Tryd.prog.cellsOf 5 = 1 := by kernel_rfl
theorem cl23 : Tryd.prog.cellsOf 23 = 1 := by kernel_rfl
theorem cl39 : Tryd.prog.cellsOf 39 = 1 := by kernel_rfl
theorem cl55 : Tryd.prog.cellsOf 55 = 32 := by kernel_rfl
theorem cl60 : Tryd.prog.cellsOf 60 = 33 := by kernel_rfl
theorem cl62 : Tryd.prog.cellsOf 62 = 35 := by kernel_rfl
theorem cl63 : Tryd.prog.cellsOf 63 = 1 := by kernel_rfl
theorem cl65 : Tryd.prog.cellsOf 65 = 33 := by kernel_rfl
theorem cl66 : Tryd.prog.cellsOf 66 = 1 := by kernel_rfl
theorem cl68 : Tryd.prog.cellsOf 68 = 4 := by kernel_rfl
theorem rr68 : Tryd.prog.readableRec 68 = true := by kernel_rfl
theorem tr68 : 68 < Tryd.prog.types.size := of_decide_eq_true (by kernel_rfl)
theorem cl96 : Tryd.prog.cellsOf 96 = 9 := by kernel_rfl
theorem rr96 : Tryd.prog.readableRec 96 = true := by kernel_rfl
theorem tr96 : 96 < Tryd.prog.types.size := of_decide_eq_true (by kernel_rfl)
theorem cl104 : Tryd.prog.cellsOf 104 = 35 := by kernel_rfl
theorem rr104 : Tryd.prog.readableRec 104 = true := by kernel_rfl
theorem tr104 : 104 < Tryd.prog.types.size := of_decide_eq_true (by kernel_rfl)
theorem rr102 : Tryd.prog.readableRec 102 = true := by kernel_rfl
theorem tr102 : 102 < Tryd.prog.types.size := of_decide_eq_true (by kernel_rfl)
section
variable {H : Type} {enc : TypeId × Value → H} {w : World} {base : Nat} {spare : Nat → Bool} {held : Bool}
theorem rd3 : Rd enc Tryd.prog w base spare held 3 (fun c => ∃ n, RI .i64 n c) := rd_int Tryd.underlying3
theorem rd4 : Rd enc Tryd.prog w base spare held 4 (fun c => ∃ b, c = [[.bool b]].flatten) := rd_bool Tryd.underlying4
theorem rd22 : Rd enc Tryd.prog w base spare held 22 (fun c => ∃ n, RI .u64 n c) := rd_int Tryd.underlying22
theorem rd5 : Rd enc Tryd.prog w base spare held 5 (fun c => ∃ n, RI .u8 n c) := rd_int Tryd.underlying5
theorem rd23 : Rd enc Tryd.prog w base spare held 23 (fun c => ∃ v xs, c = [v] ∧ Slc (RI .u8) 1 (mem w) v xs) := rd_slice Tryd.underlying23 cl5 (by decide) rd5
theorem rd39 : Rd enc Tryd.prog w base spare held 39 (fun c => ∃ n, RI .u32 n c) := rd_int Tryd.underlying39
theorem rd55 : Rd enc Tryd.prog w base spare held 55 (fun c => ∃ xs, RA .u8 32 xs c) := rd_array Tryd.underlying55 Tryd.underlying5 cl5 cl55
theorem rd60 : Rd enc Tryd.prog w base spare held 60 (fun c => ∃ x, RPoint (mem w) x c) := by
  intro fuel cs x h
  obtain ⟨hl, hf⟩ := rd_struct Tryd.underlying60 h
  rw [cl60] at hl
  obtain ⟨n0, y0, h0⟩ := hf 0 _ rfl
  obtain ⟨x0, e0, w0⟩ := rd55 _ _ _ h0
  have e0 : (cs.drop 0).take (Tryd.prog.cellsOf 55) = _ := e0
  rw [cl55] at e0
  have c0 := chop cs 0 32 32 rfl
  rw [e0] at c0
  obtain ⟨n1, y1, h1⟩ := hf 1 _ rfl
  obtain ⟨x1, e1, w1⟩ := rd39 _ _ _ h1
  have e1 : (cs.drop 32).take (Tryd.prog.cellsOf 39) = _ := e1
  rw [cl39] at e1
  have c1 := chop cs 32 1 33 rfl
  rw [e1] at c1
  rw [List.drop_eq_nil_of_le (i := 33) (by omega)] at c1
  rw [c1] at c0
  rw [List.drop_zero] at c0
  exact ⟨⟨x0, x1⟩,  by rw [c0]; simp [PointC], ⟨w0, w1⟩⟩
theorem rd62 : Rd enc Tryd.prog w base spare held 62 (fun c => ∃ x, RIn (mem w) x c) := by
  intro fuel cs x h
  obtain ⟨hl, hf⟩ := rd_struct Tryd.underlying62 h
  rw [cl62] at hl
  obtain ⟨n0, y0, h0⟩ := hf 0 _ rfl
  obtain ⟨x0, e0, w0_0, w0_1⟩ := rd60 _ _ _ h0
  have e0 : (cs.drop 0).take (Tryd.prog.cellsOf 60) = _ := e0
  rw [cl60] at e0
  have c0 := chop cs 0 33 33 rfl
  rw [e0] at c0
  obtain ⟨n1, y1, h1⟩ := hf 1 _ rfl
  obtain ⟨v1, x1, e1, w1⟩ := rd23 _ _ _ h1
  have e1 : (cs.drop 33).take (Tryd.prog.cellsOf 23) = _ := e1
  rw [cl23] at e1
  have c1 := chop cs 33 1 34 rfl
  rw [e1] at c1
  obtain ⟨n2, y2, h2⟩ := hf 2 _ rfl
  obtain ⟨x2, e2, w2⟩ := rd39 _ _ _ h2
  have e2 : (cs.drop 34).take (Tryd.prog.cellsOf 39) = _ := e2
  rw [cl39] at e2
  have c2 := chop cs 34 1 35 rfl
  rw [e2] at c2
  rw [List.drop_eq_nil_of_le (i := 35) (by omega)] at c2
  rw [c2] at c1
  rw [c1] at c0
  rw [List.drop_zero] at c0
  exact ⟨⟨x0, x1, x2⟩, v1,  by rw [c0]; simp [InC, PointC], ⟨w0_0, w0_1, w1, w2⟩⟩
theorem rd63 : Rd enc Tryd.prog w base spare held 63 (fun c => ∃ v xs, c = [v] ∧ Slc (RIn (mem w)) 35 (mem w) v xs) := rd_slice Tryd.underlying63 cl62 (by decide) rd62
theorem rd65 : Rd enc Tryd.prog w base spare held 65 (fun c => ∃ x, ROut (mem w) x c) := by
  intro fuel cs x h
  obtain ⟨hl, hf⟩ := rd_struct Tryd.underlying65 h
  rw [cl65] at hl
  obtain ⟨n0, y0, h0⟩ := hf 0 _ rfl
  obtain ⟨x0, e0, w0⟩ := rd22 _ _ _ h0
  have e0 : (cs.drop 0).take (Tryd.prog.cellsOf 22) = _ := e0
  rw [cl22] at e0
  have c0 := chop cs 0 1 1 rfl
  rw [e0] at c0
  obtain ⟨n1, y1, h1⟩ := hf 1 _ rfl
  obtain ⟨x1, e1, w1⟩ := rd55 _ _ _ h1
  have e1 : (cs.drop 1).take (Tryd.prog.cellsOf 55) = _ := e1
  rw [cl55] at e1
  have c1 := chop cs 1 32 33 rfl
  rw [e1] at c1
  rw [List.drop_eq_nil_of_le (i := 33) (by omega)] at c1
  rw [c1] at c0
  rw [List.drop_zero] at c0
  exact ⟨⟨x0, x1⟩,  by rw [c0]; simp [OutC], ⟨w0, w1⟩⟩
theorem rd66 : Rd enc Tryd.prog w base spare held 66 (fun c => ∃ v xs, c = [v] ∧ Slc (ROut (mem w)) 33 (mem w) v xs) := rd_slice Tryd.underlying66 cl65 (by decide) rd65
theorem rd68 : Rd enc Tryd.prog w base spare held 68 (fun c => ∃ x, RTx (mem w) x c) := by
  intro fuel cs x h
  obtain ⟨hl, hf⟩ := rd_struct Tryd.underlying68 h
  rw [cl68] at hl
  obtain ⟨n0, y0, h0⟩ := hf 0 _ rfl
  obtain ⟨x0, e0, w0⟩ := rd39 _ _ _ h0
  have e0 : (cs.drop 0).take (Tryd.prog.cellsOf 39) = _ := e0
  rw [cl39] at e0
  have c0 := chop cs 0 1 1 rfl
  rw [e0] at c0
  obtain ⟨n1, y1, h1⟩ := hf 1 _ rfl
  obtain ⟨v1, x1, e1, w1⟩ := rd63 _ _ _ h1
  have e1 : (cs.drop 1).take (Tryd.prog.cellsOf 63) = _ := e1
  rw [cl63] at e1
  have c1 := chop cs 1 1 2 rfl
  rw [e1] at c1
  obtain ⟨n2, y2, h2⟩ := hf 2 _ rfl
  obtain ⟨v2, x2, e2, w2⟩ := rd66 _ _ _ h2
  have e2 : (cs.drop 2).take (Tryd.prog.cellsOf 66) = _ := e2
  rw [cl66] at e2
  have c2 := chop cs 2 1 3 rfl
  rw [e2] at c2
  obtain ⟨n3, y3, h3⟩ := hf 3 _ rfl
  obtain ⟨x3, e3, w3⟩ := rd39 _ _ _ h3
  have e3 : (cs.drop 3).take (Tryd.prog.cellsOf 39) = _ := e3
  rw [cl39] at e3
  have c3 := chop cs 3 1 4 rfl
  rw [e3] at c3
  rw [List.drop_eq_nil_of_le (i := 4) (by omega)] at c3
  rw [c3] at c2
  rw [c2] at c1
  rw [c1] at c0
  rw [List.drop_zero] at c0
  exact ⟨⟨x0, x1, x2, x3⟩, v1, v2,  by rw [c0]; simp [TxC], ⟨w0, w1, w2, w3⟩⟩
theorem rd96 : Rd enc Tryd.prog w base spare held 96 (fun c => ∃ x, RRules (mem w) x c) := by
  intro fuel cs x h
  obtain ⟨hl, hf⟩ := rd_struct Tryd.underlying96 h
  rw [cl96] at hl
  obtain ⟨n0, y0, h0⟩ := hf 0 _ rfl
  obtain ⟨x0, e0, w0⟩ := rd3 _ _ _ h0
  have e0 : (cs.drop 0).take (Tryd.prog.cellsOf 3) = _ := e0
  rw [cl3] at e0
  have c0 := chop cs 0 1 1 rfl
  rw [e0] at c0
  obtain ⟨n1, y1, h1⟩ := hf 1 _ rfl
  obtain ⟨x1, e1, w1⟩ := rd3 _ _ _ h1
  have e1 : (cs.drop 1).take (Tryd.prog.cellsOf 3) = _ := e1
  rw [cl3] at e1
  have c1 := chop cs 1 1 2 rfl
  rw [e1] at c1
  obtain ⟨n2, y2, h2⟩ := hf 2 _ rfl
  obtain ⟨x2, e2, w2⟩ := rd3 _ _ _ h2
  have e2 : (cs.drop 2).take (Tryd.prog.cellsOf 3) = _ := e2
  rw [cl3] at e2
  have c2 := chop cs 2 1 3 rfl
  rw [e2] at c2
  obtain ⟨n3, y3, h3⟩ := hf 3 _ rfl
  obtain ⟨x3, e3, w3⟩ := rd3 _ _ _ h3
  have e3 : (cs.drop 3).take (Tryd.prog.cellsOf 3) = _ := e3
  rw [cl3] at e3
  have c3 := chop cs 3 1 4 rfl
  rw [e3] at c3
  obtain ⟨n4, y4, h4⟩ := hf 4 _ rfl
  obtain ⟨x4, e4, w4⟩ := rd3 _ _ _ h4
  have e4 : (cs.drop 4).take (Tryd.prog.cellsOf 3) = _ := e4
  rw [cl3] at e4
  have c4 := chop cs 4 1 5 rfl
  rw [e4] at c4
  obtain ⟨n5, y5, h5⟩ := hf 5 _ rfl
  obtain ⟨x5, e5, w5⟩ := rd3 _ _ _ h5
  have e5 : (cs.drop 5).take (Tryd.prog.cellsOf 3) = _ := e5
  rw [cl3] at e5
  have c5 := chop cs 5 1 6 rfl
  rw [e5] at c5
  obtain ⟨n6, y6, h6⟩ := hf 6 _ rfl
  obtain ⟨x6, e6, w6⟩ := rd3 _ _ _ h6
  have e6 : (cs.drop 6).take (Tryd.prog.cellsOf 3) = _ := e6
  rw [cl3] at e6
  have c6 := chop cs 6 1 7 rfl
  rw [e6] at c6
  obtain ⟨n7, y7, h7⟩ := hf 7 _ rfl
  obtain ⟨x7, e7, w7⟩ := rd3 _ _ _ h7
  have e7 : (cs.drop 7).take (Tryd.prog.cellsOf 3) = _ := e7
  rw [cl3] at e7
  have c7 := chop cs 7 1 8 rfl
  rw [e7] at c7
  obtain ⟨n8, y8, h8⟩ := hf 8 _ rfl
  obtain ⟨x8, e8, w8⟩ := rd3 _ _ _ h8
  have e8 : (cs.drop 8).take (Tryd.prog.cellsOf 3) = _ := e8
  rw [cl3] at e8
  have c8 := chop cs 8 1 9 rfl
  rw [e8] at c8
  rw [List.drop_eq_nil_of_le (i := 9) (by omega)] at c8
  rw [c8] at c7
  rw [c7] at c6
  rw [c6] at c5
  rw [c5] at c4
  rw [c4] at c3
  rw [c3] at c2
  rw [c2] at c1
  rw [c1] at c0
  rw [List.drop_zero] at c0
  exact ⟨⟨x0, x1, x2, x3, x4, x5, x6, x7, x8⟩,  by rw [c0]; simp [RulesC], ⟨w0, w1, w2, w3, w4, w5, w6, w7, w8⟩⟩
theorem rd104 : Rd enc Tryd.prog w base spare held 104 (fun c => ∃ x, RMoney (mem w) x c) := by
  intro fuel cs x h
  obtain ⟨hl, hf⟩ := rd_struct Tryd.underlying104 h
  rw [cl104] at hl
  obtain ⟨n0, y0, h0⟩ := hf 0 _ rfl
  obtain ⟨x0, e0, w0⟩ := rd22 _ _ _ h0
  have e0 : (cs.drop 0).take (Tryd.prog.cellsOf 22) = _ := e0
  rw [cl22] at e0
  have c0 := chop cs 0 1 1 rfl
  rw [e0] at c0
  obtain ⟨n1, y1, h1⟩ := hf 1 _ rfl
  obtain ⟨x1, e1, w1⟩ := rd55 _ _ _ h1
  have e1 : (cs.drop 1).take (Tryd.prog.cellsOf 55) = _ := e1
  rw [cl55] at e1
  have c1 := chop cs 1 32 33 rfl
  rw [e1] at c1
  obtain ⟨n2, y2, h2⟩ := hf 2 _ rfl
  obtain ⟨x2, e2, w2⟩ := rd3 _ _ _ h2
  have e2 : (cs.drop 33).take (Tryd.prog.cellsOf 3) = _ := e2
  rw [cl3] at e2
  have c2 := chop cs 33 1 34 rfl
  rw [e2] at c2
  obtain ⟨n3, y3, h3⟩ := hf 3 _ rfl
  obtain ⟨x3, e3⟩ := rd4 _ _ _ h3
  have e3 : (cs.drop 34).take (Tryd.prog.cellsOf 4) = _ := e3
  rw [cl4] at e3
  have c3 := chop cs 34 1 35 rfl
  rw [e3] at c3
  rw [List.drop_eq_nil_of_le (i := 35) (by omega)] at c3
  rw [c3] at c2
  rw [c2] at c1
  rw [c1] at c0
  rw [List.drop_zero] at c0
  exact ⟨⟨x0, x1, x2, x3⟩,  by rw [c0]; simp [MoneyC], ⟨w0, w1, w2⟩⟩
theorem rd102 : Rd enc Tryd.prog w base spare held 102 (fun c => ∃ v xs, c = [v] ∧ Slc (RMoney (mem w)) 35 (mem w) v xs) := rd_slice Tryd.underlying102 cl104 (by decide) rd104
end
end Go.Proofs.YtpeelghbhihgkaaDoor.T
namespace Go.Proofs.YtpeelghbhihgkaaDoor.J
open Go Go.Proofs
theorem words_cons : ∀ (w r : List Char), w.all (· != ' ') = true → wordsSigns (w ++ ' ' :: r) = w :: wordsSigns r
  | [], r, _ => rfl
  | c :: w, r, h => by
    simp only [List.all_cons, Bool.and_eq_true, bne_iff_ne, ne_eq] at h
    have ih := words_cons w r h.2
    rw [List.cons_append, wordsSigns, ih]
    exact fun e => h.1 e
set_option maxRecDepth 100000
def w0 : List Char := ['h', 'a', 'r', 'n', 'e', 's', 's']
def w1 : List Char := ['4', '4', 'c', '8', '7', '2', '5', '3', 'b', '6', 'd', '1', 'd', '6', '4', '9', 'e', 'a', '9', 'f', '3', '2', '0', '8', '1', 'a', '4', 'd', 'd', '5', 'f', 'b', 'f', 'f', '2', '1', '7', 'a', 'e', 'd', '9', 'a', 'b', '5', 'f', '6', '6', 'e', '5', 'b', '0', '9', '9', '1', 'c', '7', '7', 'e', 'b', '1', '8', 'b', '9', '7']
def w2 : List Char := ['c', 'u', 't']
def w3 : List Char := ['a', 't', ' ', 's', 'a', 'r', 'g', 'a', 's', 's', 'o', '/', 's', 'a', 'r', 'g', 'a', 's', 's', 'o', 'l', 'a', 'w', '2', '.', 'C', 'o', 'm', 'p', 'a', 'c', 't', 'B', 'a', 'c', 'k', ' ', 's', 'a', 'r', 'g', 'a', 's', 's', 'o', '/', 's', 'a', 'r', 'g', 'a', 's', 's', 'o', 'l', 'a', 'w', '2', '.', 'C', 'o', 'm', 'p', 'a', 'c', 't', 'F', 'e', 'w', 'e', 's', 't', ' ', 's', 'a', 'r', 'g', 'a', 's', 's', 'o', '/', 's', 'a', 'r', 'g', 'a', 's', 's', 'o', 'l', 'a', 'w', '2', '.', 'C', 'o', 'm', 'p', 'a', 'c', 't', 'R', 'o', 'w', 's', ' ', 's', 'a', 'r', 'g', 'a', 's', 's', 'o', '/', 's', 'a', 'r', 'g', 'a', 's', 's', 'o', 'l', 'a', 'w', '2', '.', 'C', 'o', 'm', 'p', 'a', 'c', 't', 'R', 'e', 'a', 'd', 's', ' ', 's', 'a', 'r', 'g', 'a', 's', 's', 'o', '/', 's', 'a', 'r', 'g', 'a', 's', 's', 'o', 'l', 'a', 'w', '2', '.', 'C', 'o', 'm', 'p', 'a', 'c', 't', 'S', 't', 'o', 'p', 's', ' ', 's', 'a', 'r', 'g', 'a', 's', 's', 'o', '/', 's', 'a', 'r', 'g', 'a', 's', 's', 'o', 'l', 'a', 'w', '4', '.', 'T', 'x', 'B', 'o', 'u', 'n', 'd', 's', ' ', 's', 'a', 'r', 'g', 'a', 's', 's', 'o', '/', 's', 'a', 'r', 'g', 'a', 's', 's', 'o', 'l', 'a', 'w', '4', '.', 'T', 'x', 'B', 'a', 's', 'e', 's', ' ', 's', 'a', 'r', 'g', 'a', 's', 's', 'o', '/', 's', 'a', 'r', 'g', 'a', 's', 's', 'o', 'l', 'a', 'w', '4', '.', 'T', 'x', 'B', 'a', 'c', 'k', ' ', 's', 'a', 'r', 'g', 'a', 's', 's', 'o', '/', 's', 'a', 'r', 'g', 'a', 's', 's', 'o', 'l', 'a', 'w', '4', '.', 'T', 'x', 'S', 'i', 'z', 'e', 's', ' ', 's', 'a', 'r', 'g', 'a', 's', 's', 'o', '/', 's', 'a', 'r', 'g', 'a', 's', 's', 'o', 'l', 'a', 'w', '4', '.', 'T', 'x', 'T', 'u', 'r', 'n', 'e', 'd', ' ', 's', 'a', 'r', 'g', 'a', 's', 's', 'o', '/', 's', 'a', 'r', 'g', 'a', 's', 's', 'o', 'l', 'a', 'w', '4', '.', 'T', 'x', 'S', 'a', 'y', 's', ' ', 's', 'a', 'r', 'g', 'a', 's', 's', 'o', '/', 's', 'a', 'r', 'g', 'a', 's', 's', 'o', 'l', 'a', 'w', '5', '.', 'H', 'e', 'a', 'd', 'W', 'o', 'r', 'k', ' ', 's', 'a', 'r', 'g', 'a', 's', 's', 'o', '/', 's', 'a', 'r', 'g', 'a', 's', 's', 'o', 'l', 'a', 'w', '5', '.', 'H', 'e', 'a', 'd', 'B', 'a', 'c', 'k', ' ', 's', 'a', 'r', 'g', 'a', 's', 's', 'o', '/', 's', 'a', 'r', 'g', 'a', 's', 's', 'o', 'l', 'a', 'w', '1', '5', '.', 'V', 'a', 'l', 'u', 'e', 'R', 'u', 'l', 'e', 's', ' ', 's', 'a', 'r', 'g', 'a', 's', 's', 'o', '/', 's', 'a', 'r', 'g', 'a', 's', 's', 'o', 'l', 'a', 'w', '1', '5', '.', 'V', 'a', 'l', 'u', 'e', 'K', 'e', 'e', 'p', 's', ' ', 's', 'a', 'r', 'g', 'a', 's', 's', 'o', '/', 's', 'a', 'r', 'g', 'a', 's', 's', 'o', 'l', 'a', 'w', '1', '5', '.', 'V', 'a', 'l', 'u', 'e', 'S', 'a', 'y', 's', ' ', 's', 'a', 'r', 'g', 'a', 's', 's', 'o', '/', 's', 'a', 'r', 'g', 'a', 's', 's', 'o', 'l', 'a', 'w', '2', '0', '.', 'N', 'o', 't', 'e', 's', 'C', 'a', 'p', ' ', 's', 'a', 'r', 'g', 'a', 's', 's', 'o', '/', 's', 'a', 'r', 'g', 'a', 's', 's', 'o', 'l', 'a', 'w', '2', '0', '.', 'N', 'o', 't', 'e', 's', 'P', 'l', 'a', 'y', ' ', 's', 'a', 'r', 'g', 'a', 's', 's', 'o', '/', 's', 'a', 'r', 'g', 'a', 's', 's', 'o', 'l', 'a', 'w', '2', '0', '.', 'N', 'o', 't', 'e', 's', 'O', 'p', 's']
theorem io0 : Tryd.prog.initOrder = String.ofList (w0 ++ ' ' :: (w1 ++ ' ' :: (w2 ++ ' ' :: w3))) := by kernel_rfl
theorem io : Tryd.prog.initOrder.toList = w0 ++ ' ' :: (w1 ++ ' ' :: (w2 ++ ' ' :: w3)) := (congrArg String.toList io0).trans String.toList_ofList
theorem ws : wordsSigns Tryd.prog.initOrder.toList = w0 :: w1 :: w2 :: wordsSigns w3 := by
  rw [io, words_cons _ _ (by kernel_rfl), words_cons _ _ (by kernel_rfl), words_cons _ _ (by kernel_rfl)]
theorem bm (R : List (List Char)) : behindMainWord (w0 :: w1 :: w2 :: R) = w2 :: R := by kernel_rfl
theorem main_of {P : Program} {R : List (List Char)} (h : wordsSigns P.initOrder.toList = w0 :: w1 :: R) : P.mainIs = some (true, w1) := by
  unfold Program.mainIs
  rw [h]
  kernel_rfl
theorem mainIs : Tryd.prog.mainIs = some (true, w1) := main_of ws
theorem bw : behindMainWord (wordsSigns Tryd.prog.initOrder.toList) = w2 :: wordsSigns w3 := by rw [ws, bm]
theorem st (R : List (List Char)) : stripLifts liftWords (w2 :: R) = ([], w2 :: R) := by kernel_rfl
theorem make_of {P : Program} {R : List (List Char)} (h : behindMainWord (wordsSigns P.initOrder.toList) = w2 :: R) : P.make = some .cut := by
  unfold Program.make
  rw [h]
  kernel_rfl
theorem head_of {P : Program} {R : List (List Char)} (h : behindMainWord (wordsSigns P.initOrder.toList) = w2 :: R) : P.headLifts = [] := by
  unfold Program.headLifts
  rw [h, st]
  kernel_rfl
theorem lifts_of {P : Program} {R : List (List Char)} (h : behindMainWord (wordsSigns P.initOrder.toList) = w2 :: R) : P.liftsFinal = false := by
  unfold Program.liftsFinal
  rw [h, head_of h]
  kernel_rfl
theorem may_of {P : Program} {R : List (List Char)} (h : behindMainWord (wordsSigns P.initOrder.toList) = w2 :: R) (h1 : P.laysLater = false) (h2 : P.bearsReflect = false) (h3 : P.doorFits [] = true) : P.mayEnter = true := by
  unfold Program.mayEnter
  rw [h]
  simp only [st, h1, h2, h3]
  kernel_rfl
theorem later : Tryd.prog.laysLater = false := by kernel_rfl
theorem reflect : Tryd.prog.bearsReflect = false := by kernel_rfl
theorem door : Tryd.prog.doorFits [] = true := by kernel_rfl
theorem make : Tryd.prog.make = some .cut := make_of bw
theorem lifts : Tryd.prog.liftsFinal = false := lifts_of bw
theorem may : Tryd.prog.mayEnter = true := may_of bw later reflect door
end Go.Proofs.YtpeelghbhihgkaaDoor.J
namespace Go.Proofs.YtpeelghbhihgkaaDoor.zValueSays
open Go Go.Proofs Go.Proofs.YtpeelghbhihgkaaDoor.K Go.Proofs.YtpeelghbhihgkaaDoor.T
open Go.ChangeShapes Go.WideShapes Go.ChangeAt Go.RowKit
set_option linter.unusedVariables false
theorem met (os : Os) (args : Array Value) : laidMetH Tryd.prog Rows.valueSaysRow.laid ((laidWorld os).forCall (fun _ _ => 0) ⟨#[], args, []⟩).memory :=
  laidMetH_of_parts (laidMet_of_run' 8 (by kernel_rfl) (by kernel_rfl)) (by kernel_rfl)
set_option maxRecDepth 100000 in
theorem lifted (os : Os) (started : os.Started) (H : Type) (enc : TypeId × Value → H) :
    ReturnsInHanded {} Tryd.checked os 18 .any (fun w args => (Rows.valueSaysSpec.pre enc Tryd.prog Tryd.f18 [] false w args ∧ laidMetH Tryd.prog Rows.valueSaysRow.laid w) ∧ sizedMet enc Tryd.prog Tryd.f18 (OpenSpec.ofChange Rows.valueSaysSpec) false w args) (Rows.valueSaysSpec.post enc Tryd.prog Tryd.f18 false true false false) := by
  refine returnsInHanded_of_change_and (C := Tryd.checked) (X := fun w _ => laidMetH Tryd.prog Rows.valueSaysRow.laid w) (fun _ _ _ hh h => h.of_heap hh) own started (by kernel_rfl) Tryd.func18
    (ChangeSpec.witness_at (enc := enc) (C := Tryd.checked) (os := os) (X := fun w _ => laidMetH Tryd.prog Rows.valueSaysRow.laid w) false (laidWorld os) #[.int .i64 0, .int .i64 0, .agg #[.int .u64 0, .int .u8 0, .int .u8 0, .int .u8 0, .int .u8 0, .int .u8 0, .int .u8 0, .int .u8 0, .int .u8 0, .int .u8 0, .int .u8 0, .int .u8 0, .int .u8 0, .int .u8 0, .int .u8 0, .int .u8 0, .int .u8 0, .int .u8 0, .int .u8 0, .int .u8 0, .int .u8 0, .int .u8 0, .int .u8 0, .int .u8 0, .int .u8 0, .int .u8 0, .int .u8 0, .int .u8 0, .int .u8 0, .int .u8 0, .int .u8 0, .int .u8 0, .int .u8 0, .int .i64 0, .bool false], .int .i64 0, .int .i64 0, .agg #[.int .u32 0, .slice none 0 0, .slice none 0 0, .int .u32 0], .slice none 0 0, .agg #[.int .i64 0, .int .i64 0, .int .i64 0, .int .i64 0, .int .i64 0, .int .i64 0, .int .i64 0, .int .i64 0, .int .i64 0]] 8 rfl (by kernel_rfl) (by kernel_rfl) (by kernel_rfl) (by kernel_rfl) (by kernel_rfl) (met os _)) ?_
  intro W base args ds gs before hval0 hW hcnd hsz0 hL _
  have hL : laidMet Tryd.prog Rows.valueSaysRow.laid W := hL
  have hG : Gl (mem W) := ⟨sent0 hL (List.mem_of_getElem? (i := 1) rfl), sent1 hL (List.mem_of_getElem? (i := 3) rfl), sent2 hL (List.mem_of_getElem? (i := 2) rfl), sent3 hL (List.mem_of_getElem? (i := 13) rfl), sent4 hL (List.mem_of_getElem? (i := 4) rfl), sent5 hL (List.mem_of_getElem? (i := 5) rfl), sent6 hL (List.mem_of_getElem? (i := 21) rfl), sent7 hL (List.mem_of_getElem? (i := 16) rfl), sent8 hL (List.mem_of_getElem? (i := 0) rfl), sent9 hL (List.mem_of_getElem? (i := 6) rfl), sent10 hL (List.mem_of_getElem? (i := 7) rfl), sent11 hL (List.mem_of_getElem? (i := 8) rfl), sent12 hL (List.mem_of_getElem? (i := 9) rfl), sent13 hL (List.mem_of_getElem? (i := 10) rfl), sent14 hL (List.mem_of_getElem? (i := 11) rfl), sent15 hL (List.mem_of_getElem? (i := 12) rfl), sent16 hL (List.mem_of_getElem? (i := 14) rfl), sent17 hL (List.mem_of_getElem? (i := 15) rfl), sent18 hL (List.mem_of_getElem? (i := 17) rfl), sent19 hL (List.mem_of_getElem? (i := 18) rfl), sent20 hL (List.mem_of_getElem? (i := 19) rfl), sent21 hL (List.mem_of_getElem? (i := 20) rfl), sent22 hL (List.mem_of_getElem? (i := 22) rfl), sent23 hL (List.mem_of_getElem? (i := 23) rfl), sent24 hL (List.mem_of_getElem? (i := 24) rfl)⟩
  have hW' := hW
  obtain ⟨p, q, hA0, hV, rfl, hfz, hnd⟩ := hW
  have hA : DataW.TrodAll enc Tryd.prog W 0 (fun _ => true) true Tryd.f18.params.toList args.toList ds p := hA0
  have hval : ∀ (j : Nat) t v, Tryd.f18.params[j]? = some t → args[j]? = some v → Value.okWide Tryd.prog W .any base t v := hval0
  rw [Tryd.params18] at hA hval
  obtain ⟨v0, vs0, d0, ds0, p0, q0, hargs, rfl, rfl, h0, r0⟩ := trodAll_cons hA
  obtain ⟨v1, vs1, d1, ds1, p1, q1, rfl, rfl, rfl, h1, r1⟩ := trodAll_cons r0
  obtain ⟨v2, vs2, d2, ds2, p2, q2, rfl, rfl, rfl, h2, r2⟩ := trodAll_cons r1
  obtain ⟨v3, vs3, d3, ds3, p3, q3, rfl, rfl, rfl, h3, r3⟩ := trodAll_cons r2
  obtain ⟨v4, vs4, d4, ds4, p4, q4, rfl, rfl, rfl, h4, r4⟩ := trodAll_cons r3
  obtain ⟨v5, vs5, d5, ds5, p5, q5, rfl, rfl, rfl, h5, r5⟩ := trodAll_cons r4
  obtain ⟨v6, vs6, d6, ds6, p6, q6, rfl, rfl, rfl, h6, r6⟩ := trodAll_cons r5
  obtain ⟨v7, vs7, d7, ds7, p7, q7, rfl, rfl, rfl, h7, r7⟩ := trodAll_cons r6
  obtain ⟨rfl, rfl, rfl⟩ := trodAll_nil r7
  obtain rfl : args = #[v0, v1, v2, v3, v4, v5, v6, v7] := by cases args; simp_all
  obtain ⟨rfl, rfl⟩ := trodVars_none hV
  obtain ⟨x0, rfl, _, _, w0⟩ := open_int Tryd.underlying3 (hval 0 3 v0 rfl rfl) h0
  obtain ⟨x1, rfl, _, _, w1⟩ := open_int Tryd.underlying3 (hval 1 3 v1 rfl rfl) h1
  obtain ⟨c2, rfl, x2, rfl, w2⟩ := at_agg (agg_struct Tryd.underlying104 (hval 2 104 v2 rfl rfl)) rd104 h2
  obtain ⟨x3, rfl, _, _, w3⟩ := open_int Tryd.underlying3 (hval 3 3 v3 rfl rfl) h3
  obtain ⟨x4, rfl, _, _, w4⟩ := open_int Tryd.underlying3 (hval 4 3 v4 rfl rfl) h4
  obtain ⟨c5, rfl, x5, u5_0, u5_1, rfl, w5⟩ := at_agg (agg_struct Tryd.underlying68 (hval 5 68 v5 rfl rfl)) rd68 h5
  obtain ⟨x6, w6⟩ := at_slice Tryd.underlying102 (hval 6 102 v6 rfl rfl) rd102 h6
  obtain ⟨c7, rfl, x7, rfl, w7⟩ := at_agg (agg_struct Tryd.underlying96 (hval 7 96 v7 rfl rfl)) rd96 h7
  have hμ : Agr (mem W) W := agr_mem W
  have hm := sargassolaw15_ValueSays.m (mem W) x0 (wf_in w0) x1 (wf_in w1) x2 w2 x3 (wf_in w3) x4 (wf_in w4) x5 u5_0 u5_1 w5 x6 v6 w6 x7 w7
  refine (sargassolaw15_ValueSays.c (mem W) W hμ x0 (wf_in w0) x1 (wf_in w1) x2 w2 x3 (wf_in w3) x4 (wf_in w4) x5 u5_0 u5_1 w5 x6 v6 w6 x7 w7 hG true hm).mono fun e W' ⟨v, he, hv, _, hI⟩ => ?_
  subst hv
  subst he
  have bel : Below W.heap.size W W' := hI.below
  exact ⟨_, rfl, _, _, _, [], _, [], hW', trodAll_mk1 (shut_bool Tryd.underlying4 _), (trodAll_cons_mk (again laid rr3 tr3 h0 bel) (trodAll_cons_mk (again laid rr3 tr3 h1 bel) (trodAll_cons_mk (again laid rr104 tr104 h2 bel) (trodAll_cons_mk (again laid rr3 tr3 h3 bel) (trodAll_cons_mk (again laid rr3 tr3 h4 bel) (trodAll_cons_mk (again laid rr68 tr68 h5 bel) (trodAll_cons_mk (again laid rr102 tr102 h6 bel) (trodAll_cons_mk (again laid rr96 tr96 h7 bel) trodAll_mk0)))))))), rfl, bel.frame _, fun h => by cases h⟩
theorem closed : joinedFacts Tryd.prog 18 Tryd.f18 Rows.valueSaysSpec Rows.valueSaysRow = true := by
  unfold joinedFacts
  rw [J.may, J.lifts, J.make]
  kernel_rfl
theorem over : Rows.valueSaysRow.holds Tryd.pinned (OpenSpec.ofChange Rows.valueSaysSpec) :=
  OpenClaim.holds_of_wide 18 Tryd.f18 rfl rfl rfl rfl rfl rfl rfl ⟨rfl, rfl, rfl, rfl, rfl⟩ rfl rfl rfl rfl rfl (by kernel_rfl) Tryd.func18 closed
    (of_decide_eq_true (by kernel_rfl)) (by unfold Func.isWrapper; first | (rw [if_pos (by decide +kernel)]; kernel_rfl) | (rw [if_neg (by decide +kernel)]; exact ⟨rfl, rfl⟩))
    (fun os started H enc _ => lifted os started H enc)
theorem card : Rows.ValueSaysCardSaid :=
  Claim7.holds_tied_plain_at .later [] [.sentinel, .sentinel, .sentinel, .sentinel, .sentinel, .sentinel, .sentinel, .sentinel, .sentinel, .sentinel, .sentinel, .sentinel, .sentinel, .sentinel, .sentinel, .sentinel, .sentinel, .sentinel, .sentinel, .sentinel, .sentinel, .sentinel, .sentinel, .sentinel, .sentinel] true (true, "44c87253b6d1d649ea9f32081a4dd5fbff217aed9ab5f66e5b0991c77eb18b97") true
    over (fun _ h => by cases h) (by kernel_rfl) (fun _ h => by cases h) valueSays_row_tie rfl ⟨rfl, rfl⟩ (J.mainIs.trans (congrArg (fun s => some (true, s)) (by kernel_rfl))) rfl
    (fun f fn hf hfn => by
      obtain rfl : f = 18 := Option.some.inj ((show Tryd.prog.funcNamed "sargasso/sargassolaw15.ValueSays" = some 18 by kernel_rfl).symm.trans hf) |>.symm
      obtain rfl : fn = Tryd.f18 := (Option.some.inj (Tryd.func18.symm.trans hfn)).symm
      exact ⟨by kernel_rfl, fun j t ht => by
        rw [Tryd.params18] at ht
        rcases j with _ | _ | _ | _ | _ | _ | _ | _ | j
        · obtain rfl : (3 : TypeId) = t := by simpa using ht
          exact (show Tryd.prog.wantsStandIn 3 = false by kernel_rfl)
        · obtain rfl : (3 : TypeId) = t := by simpa using ht
          exact (show Tryd.prog.wantsStandIn 3 = false by kernel_rfl)
        · obtain rfl : (104 : TypeId) = t := by simpa using ht
          exact (show Tryd.prog.wantsStandIn 104 = false by kernel_rfl)
        · obtain rfl : (3 : TypeId) = t := by simpa using ht
          exact (show Tryd.prog.wantsStandIn 3 = false by kernel_rfl)
        · obtain rfl : (3 : TypeId) = t := by simpa using ht
          exact (show Tryd.prog.wantsStandIn 3 = false by kernel_rfl)
        · obtain rfl : (68 : TypeId) = t := by simpa using ht
          exact (show Tryd.prog.wantsStandIn 68 = false by kernel_rfl)
        · obtain rfl : (102 : TypeId) = t := by simpa using ht
          exact (show Tryd.prog.wantsStandIn 102 = false by kernel_rfl)
        · obtain rfl : (96 : TypeId) = t := by simpa using ht
          exact (show Tryd.prog.wantsStandIn 96 = false by kernel_rfl)
        · simp at ht⟩)
    (by kernel_rfl)
end Go.Proofs.YtpeelghbhihgkaaDoor.zValueSays
namespace Go.Proofs.YtpeelghbhihgkaaDoor
theorem valueSays_holds : Rows.ValueSaysCardSaid := zValueSays.card
#print axioms valueSays_holds
end Go.Proofs.YtpeelghbhihgkaaDoor
