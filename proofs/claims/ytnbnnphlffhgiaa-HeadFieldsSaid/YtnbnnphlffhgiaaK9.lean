/- A helper of this seat's claims. It proves no statement by itself. -/
/- Equality of arrays and structs; strings; parts of blocks of one's own as slices; several items handed on at once. -/
import Derived.Test.YtnbnnphlffhgiaaK8
import Derived.Laws.StructEq
import Derived.ChangeKeysEq
import Derived.Laws.BytesString
import Derived.Laws.CopyRow
import Derived.Laws.Strings2
import Derived.Laws.Strings3
import Derived.Laws.Concat
import Derived.Laws.Externs
import Derived.Lib.Bytealg
namespace Go.Proofs.Ytnbnnphlffhgiaa.K
open Go
set_option linter.unusedVariables false
set_option linter.unusedSimpArgs false

theorem bN {α β : Type} {K : α → Option β} {r : β} (h : (none : Option α).bind K = some r) : False := by cases h

/-! ### Equality -/
theorem beqd {α : Type} [DecidableEq α] [BEq α] [LawfulBEq α] (a b : α) : (a == b) = decide (a = b) := by
  by_cases h : a = b
  · simp [h]
  · simp [h]
section
variable {P : Program} {d : Nat} {t e : TypeId} {k k' : IntKind} {i j : Int} {A B : Array Value}
def EqV (P : Program) (d : Nat) (t : TypeId) (X Y : Value) (b : Bool) : Prop := ∀ w, (Op.equalIn d t X Y).run P w = .ok b w
def EqF (P : Program) (d : Nat) (A B : Array Value) (fs : List Field) (b : Bool) : Prop := ∀ w, (Op.eqFields d A B fs).run P w = .ok b w
theorem eqv_int (hu : P.underlying t = some (.int k')) : EqV P (d + 1) t (.int k i) (.int k j) (decide (i = j)) := fun w => by
  rw [run_equalIn_int w d t k k' i j hu, K.beqd]
theorem eqv_bool {b c : Bool} (hu : P.underlying t = some .bool) : EqV P (d + 1) t (.bool b) (.bool c) (decide (b = c)) := fun w => by
  rw [run_equalIn_bool w d t b c hu, K.beqd]
theorem run_isAgg_no {k0 : TypeDesc} (hu : P.underlying t = some k0) (h : isAggD k0 = false) (w : World) : (isAgg t).run P w = .ok false w := by
  unfold isAgg
  rw [Sem.run_bind, run_underlying hu w]
  cases k0 <;> simp_all [isAggD]
theorem run_isAgg_yes {k0 : TypeDesc} (hu : P.underlying t = some k0) (h : isAggD k0 = true) (w : World) : (isAgg t).run P w = .ok true w := by
  unfold isAgg
  rw [Sem.run_bind, run_underlying hu w]
  cases k0 <;> simp_all [isAggD]
theorem run_part1 {k0 : TypeDesc} {o : Nat} {v : Value} (hu : P.underlying t = some k0) (h : isAggD k0 = false) (hv : A[o]? = some v) (w : World) : (part t A o).run P w = .ok v w := by
  simp [part, Sem.run_bind, run_isAgg_no hu h, hv]
theorem run_partA {k0 : TypeDesc} {o m : Nat} {X : List Value} (hu : P.underlying t = some k0) (h : isAggD k0 = true) (hs : (P.info? t).map (·.size) = some m) (hv : (A.toList.drop o).take m = X) (w : World) : (part t A o).run P w = .ok (.agg X.toArray) w := by
  cases hq : P.info? t with
  | none => simp [hq] at hs
  | some q =>
    have hs' : q.size = m := by simpa [hq] using hs
    have e : A.extract o (o + m) = X.toArray := by
      rw [← hv]
      apply Array.ext'
      simp [List.extract_eq_take_drop]
    simp [part, Sem.run_bind, run_isAgg_yes hu h, sizeOf, typeInfo, hq, hs', e]
theorem part1 {k0 : TypeDesc} {o : Nat} {v : Value} (P1 P3 : List (List Value)) (hu : P.underlying t = some k0) (h : isAggD k0 = false) (ho : P1.flatten.length = o) (w : World) : (part t (P1 ++ ([v] :: P3)).flatten.toArray o).run P w = .ok v w := by
  refine run_part1 hu h ?_ w
  subst ho
  simp
theorem partA {k0 : TypeDesc} {o m : Nat} (P1 P2 P3 : List (List Value)) (hu : P.underlying t = some k0) (h : isAggD k0 = true) (hs : (P.info? t).map (·.size) = some m) (hm : P2.flatten.length = m) (ho : P1.flatten.length = o) (w : World) :
    (part t (P1 ++ (P2 ++ P3)).flatten.toArray o).run P w = .ok (.agg P2.flatten.toArray) w := by
  refine run_partA hu h hs ?_ w
  subst ho
  subst hm
  simp
theorem eqItems_int (he : P.underlying e = some (.int k')) {f g : Nat → Int} : ∀ (is : List Nat), (∀ i ∈ is, A[i]? = some (.int k (f i)) ∧ B[i]? = some (.int k (g i))) → ∀ w, (Op.eqItems (d + 1) e 1 A B is).run P w = .ok (decide (∀ i ∈ is, f i = g i)) w
  | [], _, w => by simp [Op.eqItems]
  | i :: is, h, w => by
    obtain ⟨h1, h2⟩ := h i (by simp)
    have p1 := run_part1 (P := P) he (A := A) rfl h1 w
    have p2 := run_part1 (P := P) he (A := B) rfl h2 w
    have ih := eqItems_int he is (fun i hi => h i (by simp [hi])) w
    simp only [Op.eqItems, Sem.run_bind, Nat.mul_one, p1, p2, Result.andThen_ok, run_equalIn_int w d e k k' _ _ he]
    by_cases hh : f i = g i
    · simp [hh, ih]
    · simp [hh]
theorem cells_one (hs : (P.info? e).map (·.size) = some 1) : P.cellsOf e = 1 := by simp [Program.cellsOf, hs]
theorem eqv_arr {n : Nat} {xs ys : List Int} (hu : P.underlying t = some (.array n e)) (he : P.underlying e = some (.int k')) (hs : (P.info? e).map (·.size) = some 1) (hx : Arr k n xs) (hy : Arr k n ys) :
    EqV P (d + 2) t (.agg [av k n xs].flatten.toArray) (.agg [av k n ys].flatten.toArray) (decide (xs = ys)) := fun w => by
  cases hq : P.info? e with
  | none => simp [hq] at hs
  | some q =>
    rw [run_equalIn_array w (d + 1) _ _ hu hq, cells_one hs]
    rw [eqItems_int (k := k) (f := fun i => xs.getD i 0) (g := fun i => ys.getD i 0) he (List.range n) (fun i hi => by
      have hi := List.mem_range.1 hi
      simp [av_get k n _ hi]) w]
    congr 2
    apply propext
    constructor
    · intro h
      apply List.ext_getElem (by rw [hx.1, hy.1])
      intro i h1 h2
      have := h i (List.mem_range.2 (by rw [← hx.1]; exact h1))
      simpa [List.getD, h1, h2] using this
    · intro h i _
      rw [h]
theorem eqf_nil : EqF P d A B [] (decide True) := fun w => by simp [Op.eqFields]
theorem eqf_cons {f : Field} {fs : List Field} {X Y : Value} {p q : Prop} [Decidable p] [Decidable q] (hn : f.name ≠ "_") (hX : ∀ w, (part f.type A f.offset).run P w = .ok X w) (hY : ∀ w, (part f.type B f.offset).run P w = .ok Y w)
    (h : EqV P d f.type X Y (decide p)) (hs : EqF P d A B fs (decide q)) : EqF P d A B (f :: fs) (decide (p ∧ q)) := fun w => by
  simp only [Op.eqFields, ne_eq, hn, not_false_eq_true, if_true, Sem.run_bind, hX, hY, Result.andThen_ok, h w]
  by_cases hp : p
  · simp [hp, hs w]
  · simp [hp]
theorem eqf_last {f : Field} {X Y : Value} {p : Prop} [Decidable p] (hn : f.name ≠ "_") (hX : ∀ w, (part f.type A f.offset).run P w = .ok X w) (hY : ∀ w, (part f.type B f.offset).run P w = .ok Y w)
    (h : EqV P d f.type X Y (decide p)) : EqF P d A B [f] (decide p) := fun w => by
  simp only [Op.eqFields, ne_eq, hn, not_false_eq_true, if_true, Sem.run_bind, hX, hY, Result.andThen_ok, h w]
  by_cases hp : p
  · simp [hp]
  · simp [hp]
theorem eqv_struct {fs : List Field} {b : Bool} (hu : P.underlying t = some (.struct fs.toArray)) (hp : P.stoodInHeld t = false) (h : EqF P d A B fs b) : EqV P (d + 1) t (.agg A) (.agg B) b := fun w => by
  have hf : P.fieldsOf t = fs.toArray := by simp [Program.fieldsOf, hu]
  rw [run_equalIn_struct w d t A B (by rw [hf]; exact hu) hp, hf]
  exact h w
end
section
variable {P : Program} {w : World} {a : Act} {n : Nat} {L : List (Nat × Value)} {dst : Option Nat} {ty t t' : TypeId} {pos : String} {aft : Array Edge} {g : Option (Nat × Bool)} {x y : Operand} {p : Prop} [Decidable p] {X Y : Array Value}
theorem r_eqS (hA : Fr a n L) (hx : ov L x = some (.agg X)) (hy : ov L y = some (.agg Y)) (hm : P.eqGuardType P.depth t = false) (h : EqV P 10000 t (.agg X) (.agg Y) (decide p)) :
    (execOp a.eval ⟨dst, .binOp .eql t x y t', ty, pos, aft, g⟩).run P w = .ok (.value (.bool (decide p))) w := by
  simp [execOp, hA.ev hx, hA.ev hy, run_eqGuard_agg (P := P) w .eql t x y X Y hm, run_eql_struct (P := P) w t X Y, h w]
theorem r_neS (hA : Fr a n L) (hx : ov L x = some (.agg X)) (hy : ov L y = some (.agg Y)) (hm : P.eqGuardType P.depth t = false) (h : EqV P 10000 t (.agg X) (.agg Y) (decide p)) :
    (execOp a.eval ⟨dst, .binOp .neq t x y t', ty, pos, aft, g⟩).run P w = .ok (.value (.bool (decide (¬ p)))) w := by
  simp [execOp, hA.ev hx, hA.ev hy, run_eqGuard_agg (P := P) w .neq t x y X Y hm, run_neq_struct (P := P) w t X Y, h w]
end

/-! ### Strings -/
theorem seq (s u : ByteArray) : (s.toList == u.toList) = decide (s = u) := by
  rw [ByteArray.toList_eq, ByteArray.toList_eq, beqd]
  congr 1
  apply propext
  constructor
  · intro h; exact ByteArray.ext (Array.toList_inj.1 h)
  · intro h; rw [h]
def bLess (a b : ByteArray) : Bool := Op.bytesLess a.toList b.toList
def bStr (xs : List Int) : ByteArray := xs.foldl (fun r n => r.push (UInt8.ofNat n.toNat)) ByteArray.empty
def bAt (s : ByteArray) (i : Nat) : Int := ((s.data.toList.getD i 0).toNat : Int)
theorem bAt_in (s : ByteArray) (i : Nat) : InR .u8 (bAt s i) := by
  have := (s.data.toList.getD i 0).toNat_lt
  simp only [bAt, InR]
  omega
section
variable {P : Program} {w : World} {a : Act} {n : Nat} {L : List (Nat × Value)} {dst : Option Nat} {ty t t' e : TypeId} {pos : String} {aft : Array Edge} {g : Option (Nat × Bool)} {x y : Operand} {s u : ByteArray} {i j : Int} {k k' : IntKind}
theorem r_seq (hA : Fr a n L) (hx : ov L x = some (.string s)) (hy : ov L y = some (.string u)) : (execOp a.eval ⟨dst, .binOp .eql t x y t', ty, pos, aft, g⟩).run P w = .ok (.value (.bool (decide (s = u)))) w := by
  have e := K.seq s u
  simp [execOp, hA.ev hx, hA.ev hy, eqGuard, binOp_string_eql, e]
theorem r_sne (hA : Fr a n L) (hx : ov L x = some (.string s)) (hy : ov L y = some (.string u)) : (execOp a.eval ⟨dst, .binOp .neq t x y t', ty, pos, aft, g⟩).run P w = .ok (.value (.bool (decide (s ≠ u)))) w := by
  have e := K.seq s u
  simp [execOp, hA.ev hx, hA.ev hy, eqGuard, binOp_string_neq, e]
theorem r_slt (hA : Fr a n L) (hx : ov L x = some (.string s)) (hy : ov L y = some (.string u)) : (execOp a.eval ⟨dst, .binOp .lss t x y t', ty, pos, aft, g⟩).run P w = .ok (.value (.bool (bLess s u))) w := by
  simp [execOp, hA.ev hx, hA.ev hy, eqGuard, binOp_string_lss, bLess]
theorem r_sadd (hA : Fr a n L) (hx : ov L x = some (.string s)) (hy : ov L y = some (.string u)) (h : s.size + u.size ≤ 9223372036854775807) : (execOp a.eval ⟨dst, .binOp .add t x y t', ty, pos, aft, g⟩).run P w = .ok (.value (.string (s ++ u))) w := by
  simp [execOp, hA.ev hx, hA.ev hy, eqGuard, binOp_string_add, run_string_add_sum (P := P) w s u h]
theorem r_strlen (hu : P.underlying t = some .string) (hA : Fr a n L) (hx : ov L x = some (.string s)) :
    (execOp a.eval ⟨dst, .call { callee := .builtin .len, args := #[x], argTypes := #[t] }, ty, pos, aft, g⟩).run P w = .ok (.value (.int .i64 s.size)) w := by
  simp [execOp, resolve, invoke, builtin, hA.ev hx, Builtin.len_, Builtin.lenOf, goInt, run_underlying hu]
theorem r_sidx (hu : P.underlying t = some .string) (hA : Fr a n L) (hx : ov L x = some (.string s)) (hy : ov L y = some (.int k i)) (h0 : 0 ≤ i) (h1 : i < (s.size : Int)) :
    (execOp a.eval ⟨dst, .index t x y, ty, pos, aft, g⟩).run P w = .ok (.value (.int .u8 (bAt s i.toNat))) w := by
  have hlt : i.toNat < s.size := by omega
  have hlt' : i.toNat < s.data.toList.length := by simpa using hlt
  have e1 : s[i.toNat]? = some (s.data.toList[i.toNat]) := by
    rw [getElem?_pos s i.toNat hlt]
    rfl
  have e2 : bAt s i.toNat = ((s.data.toList[i.toNat]).toNat : Int) := by simp only [bAt, List.getD, List.getElem?_eq_getElem hlt', Option.getD_some]
  rw [e2]
  simp [execOp, hA.ev hx, hA.ev hy, Instr.index, asIntOf, run_underlying hu, h0, e1]
theorem r_ssl {l h : Option Operand} (hu : P.underlying t = some .string) (hA : Fr a n L) (hx : ov L x = some (.string s)) (hl : loOf L l = some i) (hh : hiOf L s.size h = some j) (h0 : 0 ≤ i) (h1 : i ≤ j) (h2 : j ≤ (s.size : Int)) :
    (execOp a.eval ⟨dst, .slice t x l h none, ty, pos, aft, g⟩).run P w = .ok (.value (.string (s.extract i.toNat j.toNat))) w := by
  have hb := run_bounds (P := P) false hA hl (m := s.size) (cp := s.size) hh h0 h1 h2 w
  simp [execOp, Instr.sliceAt, hA.ev hx, run_underlying hu, Instr.slice, hb]
theorem loadCells_of {ad : Addr} {cs : List Value} (h : ∀ j v, cs[j]? = some v → w.cell? (ad.add j) = some v) : (loadCells ad cs.length).run P w = .ok cs.toArray w := run_loadCells_list (P := P) w ad cs h
theorem run_bts {t0 : TypeId} {vx : Value} {xs : List Int} (hs : P.underlying t0 = some (.slice e)) (he : P.underlying e = some (.int .u8)) (hd : P.underlying t = some .string)
    (hf : ∃ A cp, vx = .slice A xs.length cp ∧ (xs.length ≠ 0 → ∃ ad, A = some ad ∧ ∀ j u, (xs.map (Value.int .u8))[j]? = some u → w.cell? (ad.add j) = some u)) :
    (convert t0 t vx).run P w = .ok (.string (bStr xs)) w := by
  obtain ⟨A, cp, rfl, h⟩ := hf
  rw [run_convert_bytes_string w t0 t e A _ cp hs he hd]
  cases A with
  | none =>
    have h0 : xs = [] := by
      rcases Nat.eq_zero_or_pos xs.length with h' | h'
      · exact List.eq_nil_of_length_eq_zero h'
      · obtain ⟨_, h2, _⟩ := h (by omega); cases h2
    subst h0
    simp [Conv.bytesToString, bStr]
  | some ad =>
    have hl : (loadCells ad xs.length).run P w = .ok (xs.map (Value.int .u8)).toArray w := by
      by_cases h0 : xs.length = 0
      · have : xs = [] := List.eq_nil_of_length_eq_zero h0
        subst this
        exact run_loadCells_list (P := P) w ad [] (by simp)
      · obtain ⟨ad', e1, h2⟩ := h h0
        cases e1
        have := run_loadCells_list (P := P) w ad (xs.map (Value.int .u8)) h2
        simpa using this
    rw [run_bytesToString w ad _ cp xs hl]
    rfl
theorem r_bts {t0 : TypeId} {vx : Value} {xs : List Int} (hs : P.underlying t0 = some (.slice e)) (he : P.underlying e = some (.int .u8)) (hd : P.underlying t = some .string) (hA : Fr a n L) (hx : ov L x = some vx)
    (hf : ∃ A cp, vx = .slice A xs.length cp ∧ (xs.length ≠ 0 → ∃ ad, A = some ad ∧ ∀ j u, (xs.map (Value.int .u8))[j]? = some u → w.cell? (ad.add j) = some u)) :
    (execOp a.eval ⟨dst, .convert t0 t x, ty, pos, aft, g⟩).run P w = .ok (.value (.string (bStr xs))) w := by
  simp [execOp, hA.ev hx, run_bts hs he hd hf]
end

/-! ### Bytes compared -/
def cmpI : List Int → List Int → Int
  | [], [] => 0
  | [], _ :: _ => -1
  | _ :: _, [] => 1
  | a :: as, b :: bs => if a < b then -1 else if b < a then 1 else cmpI as bs
theorem cmpI_in : ∀ (xs ys : List Int), InR .i64 (cmpI xs ys)
  | [], [] => by simp [cmpI, InR]
  | [], _ :: _ => by simp [cmpI, InR]
  | _ :: _, [] => by simp [cmpI, InR]
  | a :: as, b :: bs => by
    have := cmpI_in as bs
    simp only [cmpI, InR] at *
    split <;> (try split) <;> omega
def bOf (xs : List Int) : List UInt8 := xs.map fun n => n.toNat.toUInt8
theorem cmpI_eq : ∀ {xs ys : List Int}, (∀ x ∈ xs, InR .u8 x) → (∀ y ∈ ys, InR .u8 y) → Lib.compareBytes (bOf xs) (bOf ys) = cmpI xs ys
  | [], [], _, _ => rfl
  | [], _ :: _, _, _ => rfl
  | _ :: _, [], _, _ => rfl
  | a :: as, b :: bs, hx, hy => by
    have ih := cmpI_eq (xs := as) (ys := bs) (fun x h => hx x (by simp [h])) (fun x h => hy x (by simp [h]))
    have ha := hx a (by simp)
    have hb := hy b (by simp)
    simp only [InR] at ha hb
    have lt : ∀ {a b : Int}, 0 ≤ a ∧ a < 256 → 0 ≤ b ∧ b < 256 → (a.toNat.toUInt8 < b.toNat.toUInt8 ↔ a < b) := by
      intro a b ha hb
      rw [UInt8.lt_iff_toNat_lt]
      have e1 : (a.toNat.toUInt8).toNat = a.toNat := by simp [Nat.toUInt8, UInt8.toNat_ofNat']; omega
      have e2 : (b.toNat.toUInt8).toNat = b.toNat := by simp [Nat.toUInt8, UInt8.toNat_ofNat']; omega
      rw [e1, e2]
      omega
    simp only [bOf, List.map_cons, Lib.compareBytes, cmpI]
    simp only [lt ha hb, lt hb ha]
    simp only [bOf] at ih
    rw [ih]
theorem run_loadBytes {P : Program} {w : World} : ∀ (xs : List Int) (ad : Addr) (acc : ByteArray), (∀ j u, (xs.map (Value.int .u8))[j]? = some u → w.cell? (ad.add j) = some u) →
    (Extern.Bytes.loadBytes ad xs.length acc).run P w = .ok (xs.foldl (fun r n => r.push n.toNat.toUInt8) acc) w
  | [], _, _, _ => by simp [Extern.Bytes.loadBytes]
  | x :: xs, ad, acc, h => by
    have h0 : w.cell? ad = some (.int .u8 x) := by simpa [Addr.add] using h 0 (.int .u8 x) rfl
    have hs : ∀ j u, (xs.map (Value.int .u8))[j]? = some u → w.cell? ((ad.add 1).add j) = some u := fun j u hj => by
      have := h (j + 1) u (by simpa using hj)
      have e : (ad.add 1).add j = ad.add (j + 1) := by
        unfold Addr.add
        cases j <;> simp
        omega
      rw [e]; exact this
    have ih := run_loadBytes (P := P) xs (ad.add 1) (acc.push x.toNat.toUInt8) hs
    simp only [List.length_cons, Extern.Bytes.loadBytes, Sem.run_bind, run_load, h0, Result.andThen_ok, List.foldl_cons]
    simpa using ih
theorem push_all : ∀ (xs : List Int) (acc : ByteArray), (xs.foldl (fun r n => r.push n.toNat.toUInt8) acc).data.toList = acc.data.toList ++ bOf xs
  | [], acc => by simp [bOf]
  | x :: xs, acc => by
    rw [List.foldl_cons, push_all xs]
    simp [bOf, ByteArray.push]
theorem run_bytesOf {P : Program} {w : World} {vx : Value} {xs : List Int} (hf : ∃ A cp, vx = .slice A xs.length cp ∧ (xs.length ≠ 0 → ∃ ad, A = some ad ∧ ∀ j u, (xs.map (Value.int .u8))[j]? = some u → w.cell? (ad.add j) = some u)) :
    ∃ s : ByteArray, (Extern.Bytes.bytesOf vx).run P w = .ok s w ∧ s.data.toList = bOf xs := by
  obtain ⟨A, cp, rfl, h⟩ := hf
  cases A with
  | none =>
    have h0 : xs = [] := by
      rcases Nat.eq_zero_or_pos xs.length with h' | h'
      · exact List.eq_nil_of_length_eq_zero h'
      · obtain ⟨_, h2, _⟩ := h (by omega); cases h2
    subst h0
    exact ⟨.empty, by simp [Extern.Bytes.bytesOf], rfl⟩
  | some ad =>
    refine ⟨xs.foldl (fun r n => r.push n.toNat.toUInt8) .empty, ?_, by rw [push_all]; rfl⟩
    simp only [Extern.Bytes.bytesOf]
    by_cases h0 : xs.length = 0
    · have : xs = [] := List.eq_nil_of_length_eq_zero h0
      subst this
      simp [Extern.Bytes.loadBytes]
    · obtain ⟨ad', e1, h2⟩ := h h0
      cases e1
      exact run_loadBytes xs ad .empty h2
def RdB (w : World) (vx : Value) (xs : List Int) : Prop := ∃ A cp, vx = .slice A xs.length cp ∧ (xs.length ≠ 0 → ∃ ad, A = some ad ∧ ∀ j u, (xs.map (Value.int .u8))[j]? = some u → w.cell? (ad.add j) = some u)
theorem r_cmp {P : Program} {w : World} {a : Act} {n : Nat} {L : List (Nat × Value)} {dst : Option Nat} {ty : TypeId} {pos : String} {aft : Array Edge} {gd : Option (Nat × Bool)} {x y : Operand} {ats : Array TypeId} {f : FuncId} {fn : Func} {vx vy : Value} {xs ys : List Int}
    (hf : P.funcs[f]? = some fn) (hname : (fn.name == "runtime.NumGoroutine") = false) (hb : fn.body.isNone = true) (hn : Extern.findNext fn = none) (he : Extern.find fn = some Extern.BytealgCompare.compare)
    (hA : Fr a n L) (hx : ov L x = some vx) (hy : ov L y = some vy) (h1 : RdB w vx xs) (h2 : RdB w vy ys) (hx8 : ∀ x ∈ xs, InR .u8 x) (hy8 : ∀ y ∈ ys, InR .u8 y) :
    (execOp a.eval ⟨dst, .call { callee := .value (.func f), args := #[x, y], argTypes := ats }, ty, pos, aft, gd⟩).run P w = .ok (.value (.int .i64 (cmpI xs ys))) w := by
  obtain ⟨s, r1, e1⟩ := run_bytesOf (P := P) h1
  obtain ⟨u, r2, e2⟩ := run_bytesOf (P := P) h2
  have hc : (Extern.BytealgCompare.compare #[vx, vy]).run P w = .ok (.int .i64 (cmpI xs ys)) w := by
    change Sem.run P (do pure (goInt (Extern.BytealgCompare.cmp (← Extern.Bytes.bytesOf vx) (← Extern.Bytes.bytesOf vy)))) w = _
    simp only [Sem.run_bind, r1, r2, Result.andThen_ok, Sem.run_pure]
    rw [Lib.cmp_eq, e1, e2, cmpI_eq hx8 hy8]
    rfl
  have hcf := run_callFunc_extern hf hname hb hn he #[vx, vy] w
  rw [hc] at hcf
  have h4 := hA.ev hx
  have h5 := hA.ev hy
  show ((callFunc f (#[] ++ #[x, y].map a.eval ++ #[])).run P w) = _
  have e3 : (#[] ++ #[x, y].map a.eval ++ #[] : Array Value) = #[vx, vy] := by simp [h4, h5]
  rw [e3, hcf]
  rfl

/-! ### Parts of one's own blocks as slices -/
section
variable {P : Program} {W0 : World} {md : List Nat} {μ0 μ ν : Store} {its : List It} {w : World} {a : Act} {n : Nat} {L : List (Nat × Value)} {dst : Option Nat} {ty t T e : TypeId} {pos : String} {aft : Array Edge} {gd : Option (Nat × Bool)} {x y : Operand} {v : Value} {g o sz m : Nat} {cs : List Value}
theorem r_slv {mm o' : Nat} {l h : Option Operand} {i j : Int} (ht : P.underlying t = some (.array mm e)) (hs : (P.info? e).map (·.size) = some 1) (hA : Fr a n L) (hx : ov L x = some (.pointer (some ⟨g, o, none⟩)))
    (hl : loOf L l = some i) (hh : hiOf L mm h = some j) (h0 : 0 ≤ i) (h1 : i ≤ j) (h2 : j ≤ (mm : Int)) (h3 : i < (mm : Int)) (ho : o + i.toNat = o') :
    (execOp a.eval ⟨dst, .slice t x l h none, ty, pos, aft, gd⟩).run P w = .ok (.value (.slice (some ⟨g, o', none⟩) (j.toNat - i.toNat) (mm - i.toNat))) w := by
  subst ho
  cases hq : P.info? e with
  | none => simp [hq] at hs
  | some ei =>
    have hs' : ei.size = 1 := by simpa [hq] using hs
    have hb := run_bounds (P := P) false hA hl (m := mm) (cp := mm) hh h0 h1 (by omega) w
    have hne : ¬ mm = i.toNat := by omega
    simp [execOp, Instr.sliceAt, hA.ev hx, run_underlying ht, Instr.sureAddr, hb, sizeOf, typeInfo, hq, hs', add_eq, hne]
theorem slc_view {k : IntKind} {mm o' i j : Nat} {xs : List Int} (A C : List (List Value)) (hm : At ν g 0 (A ++ (av k mm xs :: C)).flatten) (hw : Arr k mm xs) (ho : A.flatten.length + i = o') (h0 : i ≤ j) (h1 : j ≤ mm) (hmm : mm ≤ maxLen) :
    Slc (RI k) 1 ν (.slice (some ⟨g, o', none⟩) (j - i) (mm - i)) ((xs.take j).drop i) := by
  subst ho
  have hE := ((els_av hw).take j).drop i
  have hlen : ((xs.take j).drop i).length = j - i := by have := hw.1; simp; omega
  refine ⟨_, hE, some ⟨g, A.flatten.length + i, none⟩, mm - i, by rw [hlen], by omega, by omega, fun _ => rfl, fun _ => ?_⟩
  simp only [sb, so]
  rw [List.flatten_append, List.flatten_cons] at hm
  have h2 := hm.part
  have e1 : ([av k mm xs].flatten : List Value) = av k mm xs := by simp
  rw [e1]
  simp only [Nat.mul_one, Nat.zero_add] at h2 ⊢
  intro q u hq
  rw [List.getElem?_drop, List.getElem?_take] at hq
  split at hq
  · have := h2 (i + q) u hq
    rw [← Nat.add_assoc] at this
    exact this
  · cases hq
theorem slc_view0 {k : IntKind} {mm : Nat} {xs : List Int} (A C : List (List Value)) (hm : At ν g 0 (A ++ (av k mm xs :: C)).flatten) (hw : Arr k mm xs) (ho : A.flatten.length = o) (hmm : mm ≤ maxLen) :
    Slc (RI k) 1 ν (.slice (some ⟨g, o, none⟩) mm mm) xs := by
  have := slc_view (i := 0) (j := mm) A C hm hw (by simpa using ho) (Nat.zero_le _) (Nat.le_refl _) hmm
  simpa [List.take_of_length_le (Nat.le_of_eq hw.1)] using this
theorem src_cel {k : IntKind} {j mm : Nat} {xs : List Int} (A C : List (List Value)) (hI : Iv W0 md μ0 μ its w) (hj : its[j]? = some (cel g (A ++ (av k mm xs :: C)) T)) (hw : Arr k mm xs) (ho : A.flatten.length = o) :
    ∃ B cp, (.slice (some ⟨g, o, none⟩) mm mm : Value) = .slice B xs.length cp ∧ (xs.length ≠ 0 → ∃ ad, B = some ad ∧ ∀ j u, (av k mm xs)[j]? = some u → w.cell? (ad.add j) = some u) := by
  subst ho
  refine ⟨_, _, by rw [hw.1], fun _ => ⟨_, rfl, fun q u hq => ?_⟩⟩
  have hg := hI.cel_ok hj
  rw [List.flatten_append, List.flatten_cons] at hg
  exact cell_mid hg hq
theorem rdb_sl {xs : List Int} (hr : Agr μ w) (h : Slc (RI .u8) 1 μ v xs) : RdB w v xs := by
  obtain ⟨cs, hE, hS⟩ := h
  obtain ⟨rfl, _⟩ := els_int_cs hE
  exact src_sl (sz := 1) hr hS (by simp)
theorem rdb_row {j : Nat} {xs : List Int} {cs : List Value} (hE : Els (RI .u8) 1 xs cs) (hI : Iv W0 md μ0 μ its w) (hj : its[j]? = some (row T sz v xs.length cs)) : RdB w v xs := by
  obtain ⟨rfl, _⟩ := els_int_cs hE
  exact src_row hI hj
theorem rdb_cel {j mm : Nat} {xs : List Int} (A C : List (List Value)) (hI : Iv W0 md μ0 μ its w) (hj : its[j]? = some (cel g (A ++ (av .u8 mm xs :: C)) T)) (hw : Arr .u8 mm xs) (ho : A.flatten.length = o) : RdB w (.slice (some ⟨g, o, none⟩) mm mm) xs := by
  have := src_cel A C hI hj hw ho
  rw [av_map _ _ _ hw.1] at this
  exact this
/-- Less of the store. -/
theorem Iv.low (hl : μ.le ν) (h : Iv W0 md ν ν its w) : Iv W0 md μ μ its w :=
  ⟨h.os, h.tape, h.out, h.size, h.frame, Store.le.refl _, fun k o e => h.agr k o (hl k o e), fun k o e => .inl e, h.nodup, fun i hi => ⟨(h.own i hi).1, fun g hg => by
    obtain ⟨a, b, c⟩ := (h.own i hi).2 g hg
    refine ⟨a, ?_, c⟩
    cases e : μ g with
    | none => rfl
    | some o => rw [hl g o e] at b; cases b⟩⟩
theorem low_plain {f : FuncId} {vs : Array Value} {u : Value} {Z : Prop} (hl : μ.le ν) (hc : Calls P f vs w fun e w' => ∃ v, e = .returned v ∧ v = u ∧ Z ∧ Iv w [] ν ν [] w') : Calls P f vs w fun e w' => ∃ v, e = .returned v ∧ v = u ∧ Z ∧ Iv w [] μ μ [] w' :=
  hc.mono fun _ _ ⟨v, h1, h2, h3, h4⟩ => ⟨v, h1, h2, h3, h4.low hl⟩
/-- What a field that bears a row says. -/
theorem own_one {j : Nat} (hI : Iv W0 md μ0 μ its w) (hj : its[j]? = some (row T sz v m cs)) : v.oneCell' = true := by
  obtain ⟨A, cp, rfl, _⟩ := own_form (hI.row_ok hj)
  rfl
theorem own_cell {j : Nat} (hI : Iv W0 md μ0 μ its w) (hj : its[j]? = some (row T sz v m cs)) : v.cells = [[v]].flatten.toArray := by
  obtain ⟨A, cp, rfl, _⟩ := own_form (hI.row_ok hj)
  rfl
theorem Iv.handN (k : Nat) (h : Iv W0 md μ0 μ its w) : Its μ w (its.take k) := Iv.handed (its2 := its.drop k) (by rwa [List.take_append_drop])
theorem Iv.backN {its' : List It} {μ' : Store} {w' : World} (k : Nat) (h : Iv W0 md μ0 μ its w) (h' : Iv w (many (its.take k)).foot μ μ' its' w') : Iv W0 md μ0 μ' (its' ++ its.drop k) w' := Iv.callN (its1 := its.take k) (its2 := its.drop k) (by rwa [List.take_append_drop]) h'
end

end Go.Proofs.Ytnbnnphlffhgiaa.K
