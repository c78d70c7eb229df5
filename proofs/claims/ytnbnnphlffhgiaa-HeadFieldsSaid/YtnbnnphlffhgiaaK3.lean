/- A helper of this seat's claims. It proves no statement by itself. -/
/- Slices that are read as lists; loads, stores, new blocks, calls; entering a function and leaving it. -/
import Derived.Test.YtnbnnphlffhgiaaK2
namespace Go.Proofs.Ytnbnnphlffhgiaa.K
open Go

/-! ### Rows of elements -/
/-- 'cs': the cells of the elements 'xs', 'sz' cells each. -/
inductive Els {α : Type} (RE : α → List Value → Prop) (sz : Nat) : List α → List Value → Prop
  | nil : Els RE sz [] []
  | cons {x : α} {c cs : List Value} {xs : List α} : RE x c → c.length = sz → Els RE sz xs cs → Els RE sz (x :: xs) (c ++ cs)

section
variable {α : Type} {RE RE' : α → List Value → Prop} {sz : Nat} {xs ys : List α} {cs ds : List Value}
theorem Els.len (h : Els RE sz xs cs) : cs.length = xs.length * sz := by
  induction h with
  | nil => simp
  | cons _ h2 _ ih => simp [h2, ih, Nat.add_mul, Nat.add_comm]
theorem Els.mono (h : Els RE sz xs cs) (hm : ∀ x c, RE x c → RE' x c) : Els RE' sz xs cs := by
  induction h with
  | nil => exact .nil
  | cons h1 h2 _ ih => exact .cons (hm _ _ h1) h2 ih
theorem Els.app (h : Els RE sz xs cs) (k : Els RE sz ys ds) : Els RE sz (xs ++ ys) (cs ++ ds) := by
  induction h with
  | nil => exact k
  | cons h1 h2 _ ih => rw [List.append_assoc]; exact .cons h1 h2 ih
theorem Els.one {x : α} {c : List Value} (h1 : RE x c) (h2 : c.length = sz) : Els RE sz [x] c := by
  have := Els.cons h1 h2 (Els.nil (RE := RE) (sz := sz))
  rwa [List.append_nil] at this
theorem Els.at_ (h : Els RE sz xs cs) : ∀ {i : Nat} {x : α}, xs[i]? = some x → ∃ A c B, cs = A ++ (c ++ B) ∧ A.length = i * sz ∧ c.length = sz ∧ RE x c := by
  induction h with
  | nil => intro i x hx; simp at hx
  | @cons y c cs ys h1 h2 h3 ih =>
    intro i x hx
    cases i with
    | zero =>
      have : y = x := by simpa using hx
      subst this
      exact ⟨[], c, cs, rfl, by simp, h2, h1⟩
    | succ i =>
      obtain ⟨A, c', B, e, hA, hc, hr⟩ := ih (by simpa using hx)
      refine ⟨c ++ A, c', B, by rw [e, List.append_assoc], ?_, hc, hr⟩
      rw [List.length_append, h2, hA, Nat.add_mul, Nat.one_mul, Nat.add_comm]
theorem Els.take (h : Els RE sz xs cs) : ∀ m, Els RE sz (xs.take m) (cs.take (m * sz)) := by
  induction h with
  | nil => intro m; simp; exact .nil
  | @cons y c cs ys h1 h2 h3 ih =>
    intro m
    cases m with
    | zero => simp; exact .nil
    | succ m =>
      rw [List.take_succ_cons, Nat.succ_mul, Nat.add_comm, List.take_append, List.take_of_length_le (l := c) (by rw [h2]; exact Nat.le_add_right _ _), h2, Nat.add_sub_cancel_left]
      exact .cons h1 h2 (ih m)
theorem Els.drop (h : Els RE sz xs cs) : ∀ m, Els RE sz (xs.drop m) (cs.drop (m * sz)) := by
  induction h with
  | nil => intro m; simp; exact .nil
  | @cons y c cs ys h1 h2 h3 ih =>
    intro m
    cases m with
    | zero => simp; exact .cons h1 h2 h3
    | succ m =>
      rw [List.drop_succ_cons, Nat.succ_mul, Nat.add_comm, List.drop_append, List.drop_of_length_le (l := c) (by rw [h2]; exact Nat.le_add_right _ _), h2, Nat.add_sub_cancel_left, List.nil_append]
      exact ih m
end

/-- A slice value's block and place. -/
def sb : Value → Nat
  | .slice (some a) _ _ => a.block
  | _ => 0
def so : Value → Nat
  | .slice (some a) _ _ => a.off
  | _ => 0

/-- A slice of 'n' elements, whose cells are 'cs'. -/
def SlV (μ : Store) (v : Value) (n : Nat) (cs : List Value) : Prop :=
  ∃ A cp, v = .slice A n cp ∧ n ≤ cp ∧ cp ≤ maxLen ∧ (n ≠ 0 → A = some ⟨sb v, so v, none⟩) ∧ (n ≠ 0 → At μ (sb v) (so v) cs)
/-- A slice that reads as 'xs'. -/
def Slc {α : Type} (RE : α → List Value → Prop) (sz : Nat) (μ : Store) (v : Value) (xs : List α) : Prop :=
  ∃ cs, Els RE sz xs cs ∧ SlV μ v xs.length cs

theorem SlV.le {μ ν : Store} (h : μ.le ν) {v : Value} {n : Nat} {cs : List Value} (hs : SlV μ v n cs) : SlV ν v n cs := by
  obtain ⟨A, cp, h1, h2, h3, h4, h5⟩ := hs
  exact ⟨A, cp, h1, h2, h3, h4, fun hn => (h5 hn).le h⟩

/-- Numbers of a kind. -/
def InR : IntKind → Int → Prop
  | .i8, n => -128 ≤ n ∧ n < 128
  | .i16, n => -32768 ≤ n ∧ n < 32768
  | .i32, n => -2147483648 ≤ n ∧ n < 2147483648
  | .i64, n => -9223372036854775808 ≤ n ∧ n < 9223372036854775808
  | .u8, n => 0 ≤ n ∧ n < 256
  | .u16, n => 0 ≤ n ∧ n < 65536
  | .u32, n => 0 ≤ n ∧ n < 4294967296
  | .u64, n => 0 ≤ n ∧ n < 18446744073709551616
def RI (k : IntKind) (x : Int) (c : List Value) : Prop := c = [[.int k x]].flatten ∧ InR k x
/-- An array of 'm' numbers. -/
def av (k : IntKind) (m : Nat) (xs : List Int) : List Value := (List.range m).map fun i => .int k (xs.getD i 0)
theorem av_len (k : IntKind) (m : Nat) (xs : List Int) : (av k m xs).length = m := by simp [av]
theorem av_get (k : IntKind) (m : Nat) (xs : List Int) {i : Nat} (h : i < m) : (av k m xs)[i]? = some (.int k (xs.getD i 0)) := by simp [av, h]
theorem av_set (k : IntKind) (m : Nat) (xs : List Int) (i : Nat) (x : Int) (hm : xs.length = m) : (av k m xs).set i (.int k x) = av k m (xs.set i x) := by
  apply List.ext_getElem?
  intro j
  rw [List.getElem?_set]
  by_cases hj : j < m
  · by_cases e : i = j
    · subst e
      rw [if_pos rfl, if_pos (by simpa [av_len] using hj), av_get _ _ _ hj]
      simp [List.getD, hm, hj]
    · rw [if_neg e, av_get _ _ _ hj, av_get _ _ _ hj]
      simp [List.getD, e]
  · have h1 : (av k m (xs.set i x))[j]? = none := List.getElem?_eq_none (by rw [av_len]; omega)
    have h2 : (av k m xs)[j]? = none := List.getElem?_eq_none (by rw [av_len]; omega)
    rw [h1, h2]
    split
    · rw [if_neg (by rw [av_len]; omega)]
    · rfl
theorem av_map (k : IntKind) (m : Nat) (xs : List Int) (hm : xs.length = m) : av k m xs = xs.map (.int k) := by
  apply List.ext_getElem?
  intro j
  by_cases hj : j < m
  · rw [av_get _ _ _ hj]
    simp [List.getD, hm, hj]
  · rw [List.getElem?_eq_none (by rw [av_len]; omega), List.getElem?_eq_none (by simp; omega)]
/-- An array's well-formedness. -/
def Arr (k : IntKind) (m : Nat) (xs : List Int) : Prop := xs.length = m ∧ ∀ x ∈ xs, InR k x

/-- An array as an element. -/
def RA (k : IntKind) (m : Nat) (xs : List Int) (c : List Value) : Prop := c = [av k m xs].flatten ∧ Arr k m xs
theorem wrap_in (k : IntKind) (x : Int) : InR k (k.wrap x) := by
  cases k <;> simp [InR, IntKind.wrap, IntKind.signed, IntKind.bits] <;> omega
theorem wrap_id {k : IntKind} {x : Int} (h : InR k x) : k.wrap x = x := by
  cases k <;> simp [InR, IntKind.wrap, IntKind.signed, IntKind.bits] at * <;> omega
theorem arr_set {k : IntKind} {m : Nat} {xs : List Int} (h : Arr k m xs) (i : Nat) {x : Int} (hx : InR k x) : Arr k m (xs.set i x) :=
  ⟨by simpa using h.1, fun y hy => by rcases List.mem_or_eq_of_mem_set hy with h' | h'; exact h.2 y h'; exact h' ▸ hx⟩
theorem arr_get {k : IntKind} {m : Nat} {xs : List Int} (h : Arr k m xs) (i : Nat) : InR k (xs.getD i 0) := by
  rcases Nat.lt_or_ge i xs.length with h' | h'
  · have e : xs.getD i 0 = xs[i] := by simp [List.getD, h']
    rw [e]
    exact h.2 _ (List.getElem_mem h')
  · have e : xs.getD i 0 = 0 := by simp [List.getD, List.getElem?_eq_none h']
    rw [e]
    cases k <;> simp [InR]
theorem arr_zero (k : IntKind) (m : Nat) : Arr k m (List.replicate m 0) := ⟨by simp, fun x hx => by rw [List.eq_of_mem_replicate hx]; cases k <;> simp [InR]⟩
theorem getD_some {α : Type} {xs : List α} {i : Int} (d : α) (h0 : 0 ≤ i) (h1 : i < (xs.length : Int)) : xs[i.toNat]? = some (xs.getD i.toNat d) := by
  have : i.toNat < xs.length := by omega
  simp [List.getD, this]
theorem slc_nil {α : Type} (RE : α → List Value → Prop) (sz : Nat) (μ : Store) : Slc RE sz μ (.slice none 0 0) [] :=
  ⟨[], .nil, none, 0, rfl, Nat.le_refl _, by simp [maxLen], fun h => absurd rfl h, fun h => absurd rfl h⟩

/-! ### What the operations on memory come to -/
def isAggD : TypeDesc → Bool
  | .struct _ | .array _ _ => true
  | _ => false

section
variable {P : Program} {W0 : World} {md : List Nat} {μ0 μ : Store} {its : List It} {w : World} {a : Act} {n : Nat} {L : List (Nat × Value)} {dst : Option Nat} {ty t T : TypeId} {pos : String} {aft : Array Edge} {gd : Option (Nat × Bool)} {x y : Operand} {v : Value} {g o : Nat}

theorem add_eq (g o k : Nat) : (⟨g, o, none⟩ : Addr).add k = ⟨g, o + k, none⟩ := by
  unfold Addr.add
  split <;> simp_all

theorem Iv.cel_ok (hI : Iv W0 md μ0 μ its w) {j : Nat} {chs : List (List Value)} (hj : its[j]? = some (cel g chs T)) : w.heap[g]? = some (.cells chs.flatten.toArray T (0, 0)) :=
  (hI.own _ (List.mem_of_getElem? hj)).1
theorem cell_mid {A B C : List Value} (hg : w.heap[g]? = some (.cells (A ++ (B ++ C) : List Value).toArray T (0, 0))) {j : Nat} {u : Value} (hu : B[j]? = some u) : w.cell? ((⟨g, A.length, none⟩ : Addr).add j) = some u := by
  rw [add_eq]
  have hj : j < B.length := by
    rcases Nat.lt_or_ge j B.length with h' | h'
    · exact h'
    · rw [List.getElem?_eq_none h'] at hu; cases hu
  simp only [World.cell?, hg]
  simp only [Option.isSome_none, Bool.false_eq_true, if_false, List.getElem?_toArray]
  rw [List.getElem?_append_right (by omega), Nat.add_sub_cancel_left, List.getElem?_append_left hj]
  exact hu

theorem run_loadVar_agg {cs : List Value} {d : TypeDesc} (hu : P.underlying t = some d) (hd : isAggD d = true) (hs : (P.info? t).map (·.size) = some cs.length) (p : Addr)
    (h : ∀ j u, cs[j]? = some u → w.cell? (p.add j) = some u) : (loadVar t p).run P w = .ok (.agg cs.toArray) w := by
  have hl := run_loadCells_list (P := P) w p cs h
  cases hq : P.info? t with
  | none => simp [hq] at hs
  | some i =>
    have hsz : i.size = cs.length := by simpa [hq] using hs
    have hagg : (isAgg t).run P w = .ok true w := by
      unfold isAgg
      rw [Sem.run_bind, run_underlying hu w]
      cases d <;> simp_all [isAggD]
    simp [loadVar, Sem.run_bind, hagg, sizeOf, typeInfo, hq, hsz, hl]
theorem run_loadVar_one {d : TypeDesc} (hu : P.underlying t = some d) (hd : isAggD d = false) (p : Addr) (h : w.cell? p = some v) : (loadVar t p).run P w = .ok v w := by
  have hagg : (isAgg t).run P w = .ok false w := by
    unfold isAgg
    rw [Sem.run_bind, run_underlying hu w]
    cases d <;> simp_all [isAggD]
  simp [loadVar, Sem.run_bind, hagg, run_load, h]

/-- Out of a block of one's own: a part that is a struct or an array. -/
theorem r_ldA {d : TypeDesc} {j mm : Nat} (A B C : List (List Value)) (hu : P.underlying t = some d) (hd : isAggD d = true) (hs0 : (P.info? t).map (·.size) = some mm) (hs1 : B.flatten.length = mm)
    (hI : Iv W0 md μ0 μ its w) (hj : its[j]? = some (cel g (A ++ (B ++ C)) T)) (hA : Fr a n L) (hx : ov L x = some (.pointer (some ⟨g, o, none⟩))) (ho : A.flatten.length = o) :
    (execOp a.eval ⟨dst, .load t x, ty, pos, aft, gd⟩).run P w = .ok (.value (.agg B.flatten.toArray)) w := by
  have hc : ∀ j u, B.flatten[j]? = some u → w.cell? ((⟨g, o, none⟩ : Addr).add j) = some u := fun j u hu => by
    subst ho
    have hg := hI.cel_ok hj
    rw [List.flatten_append, List.flatten_append] at hg
    exact cell_mid hg hu
  simp [execOp, hA.ev hx, Instr.loadAt, Instr.sureAddr, run_loadVar_agg (P := P) hu hd (hs0.trans (congrArg some hs1.symm)) _ hc]
/-- .. a part of one cell. -/
theorem r_ld1 {d : TypeDesc} {j : Nat} (A C : List (List Value)) (hu : P.underlying t = some d) (hd : isAggD d = false)
    (hI : Iv W0 md μ0 μ its w) (hj : its[j]? = some (cel g (A ++ ([v] :: C)) T)) (hA : Fr a n L) (hx : ov L x = some (.pointer (some ⟨g, o, none⟩))) (ho : A.flatten.length = o) :
    (execOp a.eval ⟨dst, .load t x, ty, pos, aft, gd⟩).run P w = .ok (.value v) w := by
  have this : w.cell? ⟨g, o, none⟩ = some v := by
    subst ho
    have hg := hI.cel_ok hj
    rw [List.flatten_append, List.flatten_cons] at hg
    have := cell_mid hg (j := 0) (u := v) (by simp)
    simpa only [add_eq, Nat.add_zero] using this
  simp [execOp, hA.ev hx, Instr.loadAt, Instr.sureAddr, run_loadVar_one (P := P) hu hd _ this]
/-- .. an element of an array of numbers. -/
theorem r_ldE {d : TypeDesc} {j m i : Nat} {k : IntKind} {xs : List Int} (A C : List (List Value)) (hu : P.underlying t = some d) (hd : isAggD d = false)
    (hI : Iv W0 md μ0 μ its w) (hj : its[j]? = some (cel g (A ++ (av k m xs :: C)) T)) (hA : Fr a n L) (hx : ov L x = some (.pointer (some ⟨g, o, none⟩))) (ho : A.flatten.length + i = o) (hi : i < m) :
    (execOp a.eval ⟨dst, .load t x, ty, pos, aft, gd⟩).run P w = .ok (.value (.int k (xs.getD i 0))) w := by
  have this : w.cell? ⟨g, o, none⟩ = some (.int k (xs.getD i 0)) := by
    subst ho
    have hg := hI.cel_ok hj
    rw [List.flatten_append, List.flatten_cons] at hg
    have := cell_mid hg (j := i) (u := .int k (xs.getD i 0)) (av_get k m xs hi)
    simpa only [add_eq] using this
  simp [execOp, hA.ev hx, Instr.loadAt, Instr.sureAddr, run_loadVar_one (P := P) hu hd _ this]
/-- Out of the store. -/
theorem At.cellq {cs : List Value} (hm : At μ g o cs) (hr : Agr μ w) {j : Nat} {u : Value} (hu : cs[j]? = some u) : w.cell? ((⟨g, o, none⟩ : Addr).add j) = some u := by
  rw [add_eq]
  exact hr.cell (hm j u hu)
theorem r_ldmA {d : TypeDesc} {b mm : Nat} (A B C : List (List Value)) (hu : P.underlying t = some d) (hd : isAggD d = true) (hs0 : (P.info? t).map (·.size) = some mm) (hs1 : B.flatten.length = mm)
    (hr : Agr μ w) (hm : At μ g b (A ++ (B ++ C)).flatten) (hA : Fr a n L) (hx : ov L x = some (.pointer (some ⟨g, o, none⟩))) (ho : b + A.flatten.length = o) :
    (execOp a.eval ⟨dst, .load t x, ty, pos, aft, gd⟩).run P w = .ok (.value (.agg B.flatten.toArray)) w := by
  have hc : ∀ j u, B.flatten[j]? = some u → w.cell? ((⟨g, o, none⟩ : Addr).add j) = some u := fun j u hu => by
    subst ho
    rw [List.flatten_append, List.flatten_append] at hm
    exact hm.part.cellq hr hu
  simp [execOp, hA.ev hx, Instr.loadAt, Instr.sureAddr, run_loadVar_agg (P := P) hu hd (hs0.trans (congrArg some hs1.symm)) _ hc]
theorem r_ldm1 {d : TypeDesc} {b : Nat} (A C : List (List Value)) (hu : P.underlying t = some d) (hd : isAggD d = false)
    (hr : Agr μ w) (hm : At μ g b (A ++ ([v] :: C)).flatten) (hA : Fr a n L) (hx : ov L x = some (.pointer (some ⟨g, o, none⟩))) (ho : b + A.flatten.length = o) :
    (execOp a.eval ⟨dst, .load t x, ty, pos, aft, gd⟩).run P w = .ok (.value v) w := by
  have this : w.cell? ⟨g, o, none⟩ = some v := by
    subst ho
    rw [List.flatten_append, List.flatten_cons] at hm
    have := hm.part.cellq hr (j := 0) (u := v) (by simp)
    simpa only [add_eq, Nat.add_zero] using this
  simp [execOp, hA.ev hx, Instr.loadAt, Instr.sureAddr, run_loadVar_one (P := P) hu hd _ this]
theorem r_ldmE {d : TypeDesc} {b m i : Nat} {k : IntKind} {xs : List Int} (A C : List (List Value)) (hu : P.underlying t = some d) (hd : isAggD d = false)
    (hr : Agr μ w) (hm : At μ g b (A ++ (av k m xs :: C)).flatten) (hA : Fr a n L) (hx : ov L x = some (.pointer (some ⟨g, o, none⟩))) (ho : b + A.flatten.length + i = o) (hi : i < m) :
    (execOp a.eval ⟨dst, .load t x, ty, pos, aft, gd⟩).run P w = .ok (.value (.int k (xs.getD i 0))) w := by
  have this : w.cell? ⟨g, o, none⟩ = some (.int k (xs.getD i 0)) := by
    subst ho
    rw [List.flatten_append, List.flatten_cons] at hm
    have := hm.part.cellq hr (j := i) (u := .int k (xs.getD i 0)) (av_get k m xs hi)
    simpa only [add_eq] using this
  simp [execOp, hA.ev hx, Instr.loadAt, Instr.sureAddr, run_loadVar_one (P := P) hu hd _ this]

/-! Slices -/
theorem SlV.form {m : Nat} {cs : List Value} (h : SlV μ v m cs) : ∃ A cp, v = .slice A m cp := let ⟨A, cp, e, _⟩ := h; ⟨A, cp, e⟩
theorem r_slen {m : Nat} {cs : List Value} {e : TypeId} (hu : P.underlying t = some (.slice e)) (hv : SlV μ v m cs) (hA : Fr a n L) (hx : ov L x = some v) :
    (execOp a.eval ⟨dst, .call { callee := .builtin .len, args := #[x], argTypes := #[t] }, ty, pos, aft, gd⟩).run P w = .ok (.value (.int .i64 m)) w := by
  obtain ⟨A, cp, rfl⟩ := hv.form
  exact r_len hu hA hx
theorem r_six {m s : Nat} {cs : List Value} {e : TypeId} {k : IntKind} {i : Int} (hu : P.underlying t = some (.slice e)) (hs : (P.info? e).map (·.size) = some s) (hv : SlV μ v m cs) (hA : Fr a n L) (hx : ov L x = some v) (hy : ov L y = some (.int k i)) (h0 : 0 ≤ i) (h1 : i < (m : Int)) :
    (execOp a.eval ⟨dst, .indexAddr t x y, ty, pos, aft, gd⟩).run P w = .ok (.value (.pointer (some ⟨sb v, so v + i.toNat * s, none⟩))) w := by
  obtain ⟨A, cp, e1, _, _, h4, _⟩ := hv
  have h4' := h4 (by omega)
  cases hq : P.info? e with
  | none => simp [hq] at hs
  | some ei =>
    have hs' : ei.size = s := by simpa [hq] using hs
    subst hs'
    rw [h4'] at e1
    exact r_ixs hu hq hA (hx.trans (congrArg some e1)) hy h0 h1
/-- What stands at an element. -/
theorem Slc.elem {α : Type} {RE : α → List Value → Prop} {sz : Nat} {xs : List α} (h : Slc RE sz μ v xs) {i : Nat} {z : α} (hz : xs[i]? = some z) :
    ∃ c, RE z c ∧ c.length = sz ∧ At μ (sb v) (so v + i * sz) c := by
  obtain ⟨cs, hE, A, cp, _, _, _, _, h5⟩ := h
  obtain ⟨X, c, Y, e, hX, hc, hr⟩ := hE.at_ hz
  have hlt : i < xs.length := (List.getElem?_eq_some_iff.1 hz).1
  have h5' := h5 (by omega)
  rw [e] at h5'
  have := h5'.part
  rw [hX] at this
  exact ⟨c, hr, hc, this⟩
theorem Slc.elem1 {α : Type} {RE : α → List Value → Prop} {xs : List α} (h : Slc RE 1 μ v xs) {i : Nat} {z : α} (hz : xs[i]? = some z) :
    ∃ c, RE z c ∧ c.length = 1 ∧ At μ (sb v) (so v + i) c := by
  have := h.elem hz
  rwa [Nat.mul_one] at this
theorem Slc.sv {α : Type} {RE : α → List Value → Prop} {sz : Nat} {xs : List α} (h : Slc RE sz μ v xs) : ∃ cs, SlV μ v xs.length cs := let ⟨cs, _, h2⟩ := h; ⟨cs, h2⟩
theorem Slc.le {α : Type} {RE RE' : α → List Value → Prop} {sz : Nat} {xs : List α} {ν : Store} (h : Slc RE sz μ v xs) (hm : ∀ x c, RE x c → RE' x c) (hl : μ.le ν) : Slc RE' sz ν v xs :=
  let ⟨cs, h1, h2⟩ := h; ⟨cs, h1.mono hm, h2.le hl⟩
theorem Slc.big {α : Type} {RE : α → List Value → Prop} {sz : Nat} {xs : List α} (h : Slc RE sz μ v xs) : xs.length ≤ 9223372036854775807 := by
  obtain ⟨cs, _, A, cp, _, h2, h3, _⟩ := h
  simp only [maxLen] at h3
  omega
theorem r_ixar {m s : Nat} {e : TypeId} {k : IntKind} {i : Int} {b : Nat} (hu : P.underlying t = some (.array m e)) (hs : (P.info? e).map (·.size) = some s) (hA : Fr a n L) (hx : ov L x = some (.pointer (some ⟨b, o, none⟩))) (hy : ov L y = some (.int k i)) (h0 : 0 ≤ i) (h1 : i < (m : Int)) :
    (execOp a.eval ⟨dst, .indexAddr t x y, ty, pos, aft, gd⟩).run P w = .ok (.value (.pointer (some ⟨b, o + i.toNat * s, none⟩))) w := by
  cases hq : P.info? e with
  | none => simp [hq] at hs
  | some ei =>
    have hs' : ei.size = s := by simpa [hq] using hs
    subst hs'
    exact r_ixa hu hq hA hx hy h0 h1
theorem r_ixar1 {m : Nat} {e : TypeId} {k : IntKind} {i : Int} {b : Nat} (hu : P.underlying t = some (.array m e)) (hs : (P.info? e).map (·.size) = some 1) (hA : Fr a n L) (hx : ov L x = some (.pointer (some ⟨b, o, none⟩))) (hy : ov L y = some (.int k i)) (h0 : 0 ≤ i) (h1 : i < (m : Int)) :
    (execOp a.eval ⟨dst, .indexAddr t x y, ty, pos, aft, gd⟩).run P w = .ok (.value (.pointer (some ⟨b, o + i.toNat, none⟩))) w := by
  have := r_ixar (P := P) (w := w) (dst := dst) (ty := ty) (pos := pos) (aft := aft) (gd := gd) hu hs hA hx hy h0 h1
  rwa [Nat.mul_one] at this
theorem r_six1 {m : Nat} {cs : List Value} {e : TypeId} {k : IntKind} {i : Int} (hu : P.underlying t = some (.slice e)) (hs : (P.info? e).map (·.size) = some 1) (hv : SlV μ v m cs) (hA : Fr a n L) (hx : ov L x = some v) (hy : ov L y = some (.int k i)) (h0 : 0 ≤ i) (h1 : i < (m : Int)) :
    (execOp a.eval ⟨dst, .indexAddr t x y, ty, pos, aft, gd⟩).run P w = .ok (.value (.pointer (some ⟨sb v, so v + i.toNat, none⟩))) w := by
  have := r_six (P := P) (w := w) (dst := dst) (ty := ty) (pos := pos) (aft := aft) (gd := gd) hu hs hv hA hx hy h0 h1
  rwa [Nat.mul_one] at this
theorem r_fd {b k z m : Nat} {fs : Array Field} {f : Field} (hu : P.underlying t = some (.struct fs)) (hf : fs[m]? = some f) (hz : (P.info? f.type).map (·.size) = some (z + 1)) (hA : Fr a n L) (hx : ov L x = some (.pointer (some ⟨b, o, none⟩))) (hk : o + f.offset = k) :
    (execOp a.eval ⟨dst, .fieldAddr t x m, ty, pos, aft, gd⟩).run P w = .ok (.value (.pointer (some ⟨b, k, none⟩))) w := by
  cases hq : P.info? f.type with
  | none => simp [hq] at hz
  | some ei =>
    have hs' : ei.size = z + 1 := by simpa [hq] using hz
    subst hk
    exact r_fld hu hf hq (by rw [hs']; rfl) hA hx
end

/-! ### Steps that turn memory -/
section
variable {P : Program} {Q : Exit → AW} {ops : Array Oper} {rest : List Oper} {W0 : World} {md : List Nat} {μ0 μ : Store} {its : List It} {w : World} {a : Act} {n : Nat} {L : List (Nat × Value)} {d : Nat} {dst : Option Nat} {ty t T : TypeId} {pos : String} {aft : Array Edge} {x y : Operand} {v u : Value} {g o : Nat}

theorem wpl_val {op : Op} {w' : World} (h : (execOp a.eval ⟨dst, op, ty, pos, aft, none⟩).run P w = .ok (.value v) w') (k : wpList P ops Q rest (a.put dst v) w') : wpList P ops Q (⟨dst, op, ty, pos, aft, none⟩ :: rest) a w :=
  wpList_plain rfl fun K hK => by
    unfold Oper.wp
    rw [h]
    exact hK _ _ k
theorem wpl_skip {op : Op} {w' : World} (h : (execOp a.eval ⟨dst, op, ty, pos, aft, none⟩).run P w = .ok .skip w') (k : wpList P ops Q rest (a.put dst undef) w') : wpList P ops Q (⟨dst, op, ty, pos, aft, none⟩ :: rest) a w :=
  wpList_plain rfl fun K hK => by
    unfold Oper.wp
    rw [h]
    exact hK _ _ k

/-- A parameter's own variable. -/
theorem o_box (chs : List (List Value)) (hI : Iv W0 md μ0 μ its w) (hA : Fr a n L) (hx : ov L x = some v) (hc : v.cells = chs.flatten.toArray) (hd : Nat.ble (d + 1) n = true)
    (k : ∀ g a w, Fr a n ((d, .pointer (some ⟨g, 0, none⟩)) :: L) → Iv W0 md μ0 μ (cel g chs T :: its) w → W0.heap.size ≤ g → wpList P ops Q rest a w) : wpList P ops Q (⟨some d, .box T x, ty, pos, aft, none⟩ :: rest) a w := by
  have hr : (execOp a.eval ⟨some d, .box T x, ty, pos, aft, none⟩).run P w = .ok (.value (.pointer (some ⟨w.heap.size, 0, none⟩))) (w.alloc (.cells chs.flatten.toArray T)) := by
    simp [execOp, hA.ev hx, Instr.box, newVar, newRow, newObj, hc, Sem.run]
  exact wpl_val hr (k _ _ _ (hA.put hd _) (hI.alloc _ _ rfl (by show _ = _; rw [heap_alloc_new])) hI.size)
/-- A new variable, of its zero value. -/
theorem o_new (chs : List (List Value)) (hz : ∃ z, (P.info? T).map (·.zero) = some (some z) ∧ z.cells = chs.flatten.toArray) (hI : Iv W0 md μ0 μ its w) (hA : Fr a n L) (hd : Nat.ble (d + 1) n = true)
    (k : ∀ g a w, Fr a n ((d, .pointer (some ⟨g, 0, none⟩)) :: L) → Iv W0 md μ0 μ (cel g chs T :: its) w → W0.heap.size ≤ g → wpList P ops Q rest a w) : wpList P ops Q (⟨some d, .alloc T, ty, pos, aft, none⟩ :: rest) a w := by
  obtain ⟨z, hz, hc⟩ := hz
  cases hq : P.info? T with
  | none => simp [hq] at hz
  | some ti =>
    have hz' : ti.zero = some z := by simpa [hq] using hz
    have hr : (execOp a.eval ⟨some d, .alloc T, ty, pos, aft, none⟩).run P w = .ok (.value (.pointer (some ⟨w.heap.size, 0, none⟩))) (w.alloc (.cells chs.flatten.toArray T)) := by
      simp [execOp, Instr.alloc, zeroValue, typeInfo, hq, hz', newVar, newRow, newObj, hc, Sem.run]
    exact wpl_val hr (k _ _ _ (hA.put hd _) (hI.alloc _ _ rfl (by show _ = _; rw [heap_alloc_new])) hI.size)

theorem run_storeVar_row {A B B' C : List Value} (hs : (P.info? t).map (·.size) = some B'.length) (hB : B'.length = B.length) (hv : u.cells = B'.toArray) (h1 : ∀ c ∈ B', c.oneCell' = true) (hg : w.heap[g]? = some (.cells (A ++ (B ++ C)).toArray T (0, 0))) :
    (storeVar t ⟨g, A.length, none⟩ u).run P w = .ok () (w.setRow g (A ++ (B' ++ C)).toArray) := by
  cases hq : P.info? t with
  | none => simp [hq] at hs
  | some ti =>
    have hz' : ti.size = B'.length := by simpa [hq] using hs
    have hst := run_storeCells_at P g A.length T B' 0 _ w hg (by simp; omega) h1
    have e1 : (A ++ (B ++ C)).take A.length = A := by simp
    have e2 : (A ++ (B ++ C)).drop (A.length + B'.length) = C := by rw [← List.drop_drop, List.drop_left, hB, List.drop_left]
    simp only [Nat.add_zero, e1, e2, List.append_assoc] at hst
    simp [storeVar, hv, sizeOf, typeInfo, hq, hz', hst]
theorem Iv.setRow (hI : Iv W0 md μ0 μ its w) {j : Nat} {chs chs' : List (List Value)} (hj : its[j]? = some (cel g chs T)) : Iv W0 md μ0 μ (its.set j (cel g chs' T)) (w.setRow g chs'.flatten.toArray) := by
  have hg := hI.cel_ok hj
  have hlt : g < w.heap.size := (Array.getElem?_eq_some_iff.1 hg).1
  refine hI.upd j _ (cel g chs' T) hj rfl rfl rfl (by simp) (fun k _ hk => setRow_other w g k _ (by simpa [cel] using hk)) (fun g' hg' => .inl hg') (fun g' hg' => ?_) (by simp [cel]) (setRow_heap w g _ _ T _ hg)
  have : g' = g := by simpa [cel] using hg'
  subst this
  simpa using hlt
/-- A store into a block of one's own. -/
theorem o_st {j mm : Nat} (A B B' C : List (List Value)) (hs0 : (P.info? t).map (·.size) = some mm) (hs1 : B'.flatten.length = mm) (hB : B'.flatten.length = B.flatten.length) (h1 : ∀ c ∈ B'.flatten, c.oneCell' = true)
    (hI : Iv W0 md μ0 μ its w) (hj : its[j]? = some (cel g (A ++ (B ++ C)) T)) (hA : Fr a n L) (hx : ov L x = some (.pointer (some ⟨g, o, none⟩))) (hy : ov L y = some u) (hc : u.cells = B'.flatten.toArray) (ho : A.flatten.length = o)
    (k : ∀ w, Iv W0 md μ0 μ (its.set j (cel g (A ++ (B' ++ C)) T)) w → wpList P ops Q rest a w) : wpList P ops Q (⟨none, .store t x y, ty, pos, aft, none⟩ :: rest) a w := by
  have hst : (storeVar t ⟨g, o, none⟩ u).run P w = .ok () (w.setRow g (A ++ (B' ++ C)).flatten.toArray) := by
    subst ho
    have hg := hI.cel_ok hj
    rw [List.flatten_append, List.flatten_append] at hg
    rw [List.flatten_append, List.flatten_append]
    exact run_storeVar_row (P := P) (hs0.trans (congrArg some hs1.symm)) hB hc h1 hg
  refine wpl_skip (w' := w.setRow g (A ++ (B' ++ C)).flatten.toArray) ?_ (k _ (hI.setRow hj))
  simp [execOp, hA.ev hx, hA.ev hy, Instr.storeAt, Instr.sureAddr, hst, -List.flatten_append]
/-- A store into an array of numbers. -/
theorem o_stE {j m i : Nat} {k : IntKind} {z : Int} {xs : List Int} (A C : List (List Value)) (hs : (P.info? t).map (·.size) = some 1) (hm : xs.length = m)
    (hI : Iv W0 md μ0 μ its w) (hj : its[j]? = some (cel g (A ++ (av k m xs :: C)) T)) (hA : Fr a n L) (hx : ov L x = some (.pointer (some ⟨g, o, none⟩))) (hy : ov L y = some (.int k z)) (ho : A.flatten.length + i = o) (hi : i < m)
    (kk : ∀ w, Iv W0 md μ0 μ (its.set j (cel g (A ++ (av k m (xs.set i z) :: C)) T)) w → wpList P ops Q rest a w) : wpList P ops Q (⟨none, .store t x y, ty, pos, aft, none⟩ :: rest) a w := by
  have hl := av_len k m xs
  have e1 : av k m xs = (av k m xs).take i ++ ([Value.int k (xs.getD i 0)] ++ (av k m xs).drop (i + 1)) := by
    have hg2 := av_get k m xs hi
    obtain ⟨h1, h2⟩ := List.getElem?_eq_some_iff.1 hg2
    rw [← h2]
    simp
  have e2 : av k m (xs.set i z) = (av k m xs).take i ++ ([Value.int k z] ++ (av k m xs).drop (i + 1)) := by
    rw [← av_set k m xs i z hm, List.set_eq_take_append_cons_drop, if_pos (by omega)]
    rfl
  have e0 : (A ++ (av k m xs :: C)).flatten = (A.flatten ++ (av k m xs).take i) ++ ([Value.int k (xs.getD i 0)] ++ ((av k m xs).drop (i + 1) ++ C.flatten)) := by
    rw [List.flatten_append, List.flatten_cons]
    conv => lhs; rw [e1]
    simp only [List.append_assoc]
  have e3 : (A ++ (av k m (xs.set i z) :: C)).flatten = (A.flatten ++ (av k m xs).take i) ++ ([Value.int k z] ++ ((av k m xs).drop (i + 1) ++ C.flatten)) := by
    rw [List.flatten_append, List.flatten_cons, e2]
    simp only [List.append_assoc]
  have hlen : (A.flatten ++ (av k m xs).take i).length = o := by rw [List.length_append, List.length_take, hl, ← ho, Nat.min_eq_left (Nat.le_of_lt hi)]
  have hst : (storeVar t ⟨g, o, none⟩ (.int k z)).run P w = .ok () (w.setRow g (A ++ (av k m (xs.set i z) :: C)).flatten.toArray) := by
    have hg := hI.cel_ok hj
    rw [e0] at hg
    rw [e3, ← hlen]
    exact run_storeVar_row (P := P) (t := t) (u := .int k z) (B := [Value.int k (xs.getD i 0)]) (B' := [Value.int k z]) hs rfl rfl (by simp [Value.oneCell']) hg
  refine wpl_skip (w' := w.setRow g (A ++ (av k m (xs.set i z) :: C)).flatten.toArray) ?_ (kk _ (hI.setRow hj))
  simp [execOp, hA.ev hx, hA.ev hy, Instr.storeAt, Instr.sureAddr, hst, -List.flatten_append]

/-! Calls -/
def CalleeF (P : Program) (f : FuncId) : Prop := ∃ fn, P.funcs[f]? = some fn ∧ (fn.name == "runtime.NumGoroutine") = false ∧ fn.body.isNone = false
def ovs (L : List (Nat × Value)) : List Operand → Option (List Value)
  | [] => some []
  | x :: xs => match ov L x, ovs L xs with
    | some v, some vs => some (v :: vs)
    | _, _ => none
theorem Fr.evs (h : Fr a n L) : ∀ {xs : List Operand} {vs : List Value}, ovs L xs = some vs → xs.map a.eval = vs
  | [], vs, e => by simpa [ovs] using e
  | x :: xs, vs, e => by
    simp only [ovs] at e
    cases h1 : ov L x with
    | none => simp [h1] at e
    | some v =>
      cases h2 : ovs L xs with
      | none => simp [h1, h2] at e
      | some us =>
        simp [h1, h2] at e
        subst e
        simp [h.ev h1, h.evs h2]
theorem run_call {f : FuncId} {xs : List Operand} {vs : List Value} {ats : Array TypeId} {gd : Option (Nat × Bool)} (hf : CalleeF P f) (hA : Fr a n L) (hv : ovs L xs = some vs) :
    (execOp a.eval ⟨dst, .call { callee := .value (.func f), args := xs.toArray, argTypes := ats }, ty, pos, aft, gd⟩).run P w = .ok (.enter f vs.toArray) w := by
  obtain ⟨fn, h1, h2, h3⟩ := hf
  have h4 := hA.evs hv
  show (callFunc f (#[] ++ xs.toArray.map a.eval ++ #[])).run P w = _
  have h2' : fn.name ≠ "runtime.NumGoroutine" := by simpa using h2
  have h3' : fn.body ≠ none := fun e => by rw [e] at h3; cases h3
  simp [callFunc, h1, h2', h3', h4, program, Sem.run]
/-- A call, by a contract. -/
theorem o_call {f : FuncId} {xs : List Operand} {vs : List Value} {ats : Array TypeId} (Z : Value → World → Prop) (hf : CalleeF P f) (hA : Fr a n L) (hv : ovs L xs = some vs) (hc : Calls P f vs.toArray w fun e w' => ∃ v, e = .returned v ∧ Z v w')
    (hd : Nat.ble (d + 1) n = true) (k : ∀ v a w', Z v w' → Fr a n ((d, v) :: L) → wpList P ops Q rest a w') :
    wpList P ops Q (⟨some d, .call { callee := .value (.func f), args := xs.toArray, argTypes := ats }, ty, pos, aft, none⟩ :: rest) a w :=
  wpList_plain rfl fun K hK => by
    unfold Oper.wp
    rw [run_call hf hA hv]
    exact hc.mono fun e w' ⟨v, he, hz⟩ => by subst he; exact hK _ _ (k v _ _ hz (hA.put hd v))
/-- A call whose result goes nowhere. -/
theorem o_call' {f : FuncId} {xs : List Operand} {vs : List Value} {ats : Array TypeId} (Z : Value → World → Prop) (hf : CalleeF P f) (hA : Fr a n L) (hv : ovs L xs = some vs) (hc : Calls P f vs.toArray w fun e w' => ∃ v, e = .returned v ∧ Z v w')
    (k : ∀ v w', Z v w' → wpList P ops Q rest a w') :
    wpList P ops Q (⟨none, .call { callee := .value (.func f), args := xs.toArray, argTypes := ats }, ty, pos, aft, none⟩ :: rest) a w :=
  wpList_plain rfl fun K hK => by
    unfold Oper.wp
    rw [run_call hf hA hv]
    exact hc.mono fun e w' ⟨v, he, hz⟩ => by subst he; exact hK _ _ (k v _ hz)
/-- A call that hands back plain data and makes nothing. -/
theorem o_callp {f : FuncId} {xs : List Operand} {vs : List Value} {ats : Array TypeId} {Z : Prop} (hf : CalleeF P f) (hA : Fr a n L) (hv : ovs L xs = some vs) (hI : Iv W0 md μ0 μ its w) (hc : Calls P f vs.toArray w fun e w' => ∃ v, e = .returned v ∧ v = u ∧ Z ∧ Iv w [] μ μ [] w')
    (hd : Nat.ble (d + 1) n = true) (k : ∀ a w', Z → Iv W0 md μ0 μ its w' → Fr a n ((d, u) :: L) → wpList P ops Q rest a w') :
    wpList P ops Q (⟨some d, .call { callee := .value (.func f), args := xs.toArray, argTypes := ats }, ty, pos, aft, none⟩ :: rest) a w :=
  o_call (fun v w' => v = u ∧ Z ∧ Iv w [] μ μ [] w') hf hA hv hc hd fun v a w' ⟨e, hz, h'⟩ hA => by subst e; exact k a w' hz (hI.call h') hA
end

/-! ### Into a function, and out of it -/
section
variable {P : Program} {a : Act} {w : World} {n : Nat} {L : List (Nat × Value)} {v : Value} {fn : Func} {Post : Ending → World → Prop}
def RetP (P : Program) (fn : Func) (Post : Ending → World → Prop) : AW := fun a w => a.defers = [] ∧ ∃ v, (results fn a.tmps).run P w = .ok v w ∧ Post (.returned v) w
theorem enter {f : FuncId} {c : Code} {args : List Value} {m : Nat} (hf : P.funcs[f]? = some fn) (hb : fn.body = some c) (hm : fn.ntmps = m) (hn : Nat.ble args.length m = true)
    (h : ∀ a, Fr a m (fr0 0 args) → c.wp P (PQ (RetP P fn Post) [] (RetP P fn Post)) a w) : Calls P f args.toArray w Post := by
  refine calls_of_wp hf hb (wp_mono (h _ ?_) fun e a w hq => ?_)
  · subst hm
    have := Fr.start args.toArray fn.ntmps (by simpa using hn)
    simpa using this
  · cases e with
    | normal => exact hq
    | ret => exact hq
    | exit i => obtain ⟨M, hM, _⟩ := hq; simp at hM
    | _ => exact hq.elim
theorem ret1 {t : Nat} (hA : Fr a n L) (hr : fn.results = #[.tmp t]) (hv : lk L t = some v) (h : Post (.returned v) w) : RetP P fn Post a w := by
  refine ⟨hA.d, v, ?_, h⟩
  have := hA.g t v hv
  rw [results_tmp hr]
  simp [this]
theorem ret0 (hA : Fr a n L) (hr : fn.results = #[]) (h : Post (.returned (.tuple #[])) w) : RetP P fn Post a w :=
  ⟨hA.d, _, results_none hr _ _ _, h⟩
theorem ret2 {t u : Nat} {v' : Value} (hA : Fr a n L) (hr : fn.results = #[.tmp t, .tmp u]) (hv : lk L t = some v) (hv' : lk L u = some v') (h : Post (.returned (.tuple #[v, v'])) w) : RetP P fn Post a w := by
  refine ⟨hA.d, _, ?_, h⟩
  have h1 := hA.g t v hv
  have h2 := hA.g u v' hv'
  rw [results_tmp2 hr]
  simp [h1, h2]
theorem ret3 {t u s : Nat} {v' v'' : Value} (hA : Fr a n L) (hr : fn.results = #[.tmp t, .tmp u, .tmp s]) (hv : lk L t = some v) (hv' : lk L u = some v') (hv'' : lk L s = some v'') (h : Post (.returned (.tuple #[v, v', v''])) w) : RetP P fn Post a w := by
  refine ⟨hA.d, _, ?_, h⟩
  have h1 := hA.g t v hv
  have h2 := hA.g u v' hv'
  have h3 := hA.g s v'' hv''
  simp [results, hr, h1, h2, h3]
/-- A result that lies in a block of one's own. -/
theorem retc {W0 : World} {md : List Nat} {μ0 μ : Store} {its : List It} {t T mm : Nat} {d : TypeDesc} {j g : Nat} {chs : List (List Value)} (hu : P.underlying T = some d) (hd : isAggD d = true) (hs0 : (P.info? T).map (·.size) = some mm) (hs1 : chs.flatten.length = mm)
    (hI : Iv W0 md μ0 μ its w) (hj : its[j]? = some (cel g chs T)) (hA : Fr a n L) (hr : fn.results = #[.cell t T]) (hv : lk L t = some (.pointer (some ⟨g, 0, none⟩))) (h : Post (.returned (.agg chs.flatten.toArray)) w) : RetP P fn Post a w := by
  refine ⟨hA.d, _, ?_, h⟩
  have h1 := hA.g t _ hv
  have hg := hI.cel_ok hj
  have hl := run_loadVar_agg (P := P) (w := w) hu hd (hs0.trans (congrArg some hs1.symm)) ⟨g, 0, none⟩ (fun j u hu => by
    rw [add_eq]
    simp only [World.cell?, hg, Nat.zero_add]
    simpa using hu)
  simp [results, hr, h1, asAddr, hl]
end

end Go.Proofs.Ytnbnnphlffhgiaa.K
