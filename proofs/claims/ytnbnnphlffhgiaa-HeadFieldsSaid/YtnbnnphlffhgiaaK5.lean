/- A helper of this seat's claims. It proves no statement by itself. -/
/- Rows: slices that the call itself makes; append, freezing, slicing; structs that are built. -/
import Derived.Test.YtnbnnphlffhgiaaK4
namespace Go.Proofs.Ytnbnnphlffhgiaa.K
open Go
set_option linter.unusedVariables false
set_option linter.unusedSimpArgs false

/-! ### A row of one's own, read -/
section
variable {P : Program} {W0 : World} {md : List Nat} {μ0 μ : Store} {its : List It} {w : World} {a : Act} {n : Nat} {L : List (Nat × Value)} {dst : Option Nat} {ty t T e : TypeId} {pos : String} {aft : Array Edge} {gd : Option (Nat × Bool)} {x y : Operand} {v : Value} {g o sz m : Nat} {cs : List Value}

theorem Iv.row_ok (hI : Iv W0 md μ0 μ its w) {j : Nat} (hj : its[j]? = some (row e sz v m cs)) : w.ownsRow 0 e sz v m cs := (hI.own _ (List.mem_of_getElem? hj)).1
theorem own_form (h : w.ownsRow 0 e sz v m cs) : ∃ A cp, v = .slice A m cp ∧ m ≤ cp ∧ cp ≤ maxLen ∧ (m ≠ 0 → A = some ⟨sb v, so v, none⟩ ∧ so v = 0) := by
  rcases h.2 with ⟨rfl, rfl⟩ | ⟨g, cap, cur, rfl, _, _, h1, h2, _⟩
  · exact ⟨none, 0, rfl, Nat.le_refl _, by simp [maxLen], fun h => absurd rfl h⟩
  · exact ⟨_, _, rfl, h1, h2, fun _ => ⟨rfl, rfl⟩⟩
theorem own_cells (h : w.ownsRow 0 e sz v m cs) {j : Nat} {u : Value} (hu : cs[j]? = some u) : w.cell? ⟨sb v, so v + j, none⟩ = some u := by
  rcases h.2 with ⟨rfl, rfl⟩ | ⟨g, cap, cur, rfl, _, _⟩
  · have := h.1
    simp only [Nat.zero_mul] at this
    rw [List.eq_nil_of_length_eq_zero this] at hu
    simp at hu
  · have := h.cells (g := g) rfl j u hu
    rw [add_eq] at this
    exact this
theorem r_rlen {j : Nat} {xs : Nat} (hu : P.underlying t = some (.slice e)) (hI : Iv W0 md μ0 μ its w) (hj : its[j]? = some (row T sz v m cs)) (hA : Fr a n L) (hx : ov L x = some v) :
    (execOp a.eval ⟨dst, .call { callee := .builtin .len, args := #[x], argTypes := #[t] }, ty, pos, aft, gd⟩).run P w = .ok (.value (.int .i64 m)) w := by
  obtain ⟨A, cp, e1, _⟩ := own_form (hI.row_ok hj)
  exact r_len hu hA (hx.trans (congrArg some e1))
theorem r_rix {j : Nat} {k : IntKind} {i : Int} (hu : P.underlying t = some (.slice e)) (hs : (P.info? e).map (·.size) = some sz) (hI : Iv W0 md μ0 μ its w) (hj : its[j]? = some (row T sz v m cs)) (hA : Fr a n L) (hx : ov L x = some v) (hy : ov L y = some (.int k i)) (h0 : 0 ≤ i) (h1 : i < (m : Int)) :
    (execOp a.eval ⟨dst, .indexAddr t x y, ty, pos, aft, gd⟩).run P w = .ok (.value (.pointer (some ⟨sb v, so v + i.toNat * sz, none⟩))) w := by
  obtain ⟨A, cp, e1, _, _, h4⟩ := own_form (hI.row_ok hj)
  have h4' := (h4 (by omega)).1
  cases hq : P.info? e with
  | none => simp [hq] at hs
  | some ei =>
    have hs' : ei.size = sz := by simpa [hq] using hs
    subst hs'
    rw [h4'] at e1
    exact r_ixs hu hq hA (hx.trans (congrArg some e1)) hy h0 h1
/-- A part of one cell, of a row. -/
theorem r_rld1 {d : TypeDesc} {j q : Nat} {u : Value} (hu : P.underlying t = some d) (hd : isAggD d = false) (hI : Iv W0 md μ0 μ its w) (hj : its[j]? = some (row T sz v m cs)) (hc : cs[q]? = some u) (hA : Fr a n L) (hx : ov L x = some (.pointer (some ⟨sb v, o, none⟩))) (ho : so v + q = o) :
    (execOp a.eval ⟨dst, .load t x, ty, pos, aft, gd⟩).run P w = .ok (.value u) w := by
  subst ho
  have := own_cells (hI.row_ok hj) hc
  simp [execOp, hA.ev hx, Instr.loadAt, Instr.sureAddr, run_loadVar_one (P := P) hu hd _ this]
/-- .. a struct or an array. -/
theorem r_rldA {d : TypeDesc} {j q mm : Nat} {A B C : List Value} (hu : P.underlying t = some d) (hd : isAggD d = true) (hs0 : (P.info? t).map (·.size) = some mm) (hs1 : B.length = mm) (hI : Iv W0 md μ0 μ its w) (hj : its[j]? = some (row T sz v m cs)) (hc : cs = A ++ (B ++ C)) (hq : A.length = q) (hA : Fr a n L) (hx : ov L x = some (.pointer (some ⟨sb v, o, none⟩))) (ho : so v + q = o) :
    (execOp a.eval ⟨dst, .load t x, ty, pos, aft, gd⟩).run P w = .ok (.value (.agg B.toArray)) w := by
  have h : ∀ i u, B[i]? = some u → w.cell? ((⟨sb v, o, none⟩ : Addr).add i) = some u := fun i u hi => by
    rw [add_eq, ← ho, Nat.add_assoc]
    have hlt : i < B.length := by
      rcases Nat.lt_or_ge i B.length with h' | h'
      · exact h'
      · rw [List.getElem?_eq_none h'] at hi; cases hi
    exact own_cells (hI.row_ok hj) (by rw [hc, ← hq, List.getElem?_append_right (by omega), Nat.add_sub_cancel_left, List.getElem?_append_left hlt]; exact hi)
  simp [execOp, hA.ev hx, Instr.loadAt, Instr.sureAddr, run_loadVar_agg (P := P) hu hd (hs0.trans (congrArg some hs1.symm)) _ h]
end

/-! ### Elements of numbers and arrays -/
theorem els_int {k : IntKind} {xs : List Int} (h : ∀ x ∈ xs, InR k x) : Els (RI k) 1 xs (xs.map (.int k)) := by
  induction xs with
  | nil => exact .nil
  | cons x xs ih => exact .cons (c := [.int k x]) ⟨rfl, h x (by simp)⟩ rfl (ih fun y hy => h y (by simp [hy]))
theorem els_int_cs {k : IntKind} {xs : List Int} {cs : List Value} (h : Els (RI k) 1 xs cs) : cs = xs.map (.int k) ∧ ∀ x ∈ xs, InR k x := by
  induction h with
  | nil => exact ⟨rfl, by simp⟩
  | cons h1 _ _ ih =>
    obtain ⟨rfl, hr⟩ := h1
    obtain ⟨rfl, h2⟩ := ih
    refine ⟨rfl, fun x hx => ?_⟩
    rcases List.mem_cons.1 hx with rfl | hx
    · exact hr
    · exact h2 x hx
theorem els_av {k : IntKind} {m : Nat} {xs : List Int} (h : Arr k m xs) : Els (RI k) 1 xs [av k m xs].flatten := by
  have := els_int h.2
  rw [← av_map k m xs h.1] at this
  simpa using this
theorem Slc.rng {k : IntKind} {μ : Store} {v : Value} {xs : List Int} (h : Slc (RI k) 1 μ v xs) : ∀ x ∈ xs, InR k x := let ⟨_, h1, _⟩ := h; (els_int_cs h1).2
theorem getD_in {k : IntKind} {xs : List Int} (h : ∀ x ∈ xs, InR k x) (i : Nat) : InR k (xs.getD i 0) := by
  rcases Nat.lt_or_ge i xs.length with h' | h'
  · have e : xs.getD i 0 = xs[i] := by simp [List.getD, h']
    rw [e]
    exact h _ (List.getElem_mem h')
  · have e : xs.getD i 0 = 0 := by simp [List.getD, List.getElem?_eq_none h']
    rw [e]
    cases k <;> simp [InR]
theorem one_int (k : IntKind) (xs : List Int) : ∀ c ∈ xs.map (Value.int k), c.oneCell' = true := by
  intro c hc
  obtain ⟨x, _, rfl⟩ := List.mem_map.1 hc
  rfl
theorem one_av (k : IntKind) (m : Nat) (xs : List Int) : ∀ c ∈ av k m xs, c.oneCell' = true := by
  intro c hc
  obtain ⟨x, _, rfl⟩ := List.mem_map.1 hc
  rfl
theorem len_in {α : Type} {RE : α → List Value → Prop} {sz : Nat} {μ : Store} {v : Value} {xs : List α} (h : Slc RE sz μ v xs) : InR .i64 (xs.length : Int) := by
  have := h.big
  exact ⟨by omega, by omega⟩

theorem Els.ones {α : Type} {RE : α → List Value → Prop} {sz : Nat} {xs : List α} {cs : List Value} (h : Els RE sz xs cs) (h1 : ∀ x c, RE x c → ∀ u ∈ c, u.oneCell' = true) : ∀ u ∈ cs, u.oneCell' = true := by
  induction h with
  | nil => simp
  | cons hr _ _ ih =>
    intro u hu
    rcases List.mem_append.1 hu with hu | hu
    · exact h1 _ _ hr u hu
    · exact ih u hu
theorem one_RI (k : IntKind) : ∀ x c, RI k x c → ∀ u ∈ c, u.oneCell' = true := by
  rintro x c ⟨rfl, _⟩ u hu
  simp at hu
  subst hu
  rfl
theorem one_RA (k : IntKind) (m : Nat) : ∀ x c, RA k m x c → ∀ u ∈ c, u.oneCell' = true := by
  rintro x c ⟨rfl, _⟩ u hu
  simp at hu
  exact one_av k m x u hu
theorem one_sl {μ : Store} {v : Value} {n : Nat} {cs : List Value} (h : SlV μ v n cs) : v.oneCell' = true := by
  obtain ⟨A, cp, rfl, _⟩ := h
  rfl

theorem els_get {k : IntKind} {xs : List Int} {cs : List Value} (h : Els (RI k) 1 xs cs) {i : Int} (h0 : 0 ≤ i) (h1 : i < (xs.length : Int)) : cs[i.toNat * 1]? = some (.int k (xs.getD i.toNat 0)) := by
  obtain ⟨rfl, _⟩ := els_int_cs h
  have : i.toNat < xs.length := by omega
  simp [List.getD, this]
theorem arr_lit {k : IntKind} {m : Nat} {xs : List Int} (h : xs.length = m) (hx : ∀ x ∈ xs, InR k x) : Arr k m xs := ⟨h, hx⟩
theorem Els.app' {α : Type} {RE : α → List Value → Prop} {sz : Nat} {xs ys : List α} {cs ds : List Value} (h : Els RE sz xs cs) (k : Els RE sz ys ds) : Els RE sz (xs ++ ys) (cs ++ ds) := h.app k

theorem fl_nil : ∀ c ∈ ([] : List (List Value)).flatten, c.oneCell' = true := by simp
theorem fl_cons {x : List Value} {xs : List (List Value)} (h : ∀ c ∈ x, c.oneCell' = true) (hs : ∀ c ∈ xs.flatten, c.oneCell' = true) : ∀ c ∈ (x :: xs).flatten, c.oneCell' = true := by
  intro c hc
  rw [List.flatten_cons] at hc
  rcases List.mem_append.1 hc with hc | hc
  · exact h c hc
  · exact hs c hc
theorem one_one {v : Value} (h : v.oneCell' = true) : ∀ c ∈ [v], c.oneCell' = true := by
  intro c hc
  have : c = v := by simpa using hc
  subst this
  exact h

theorem tmod_in {k : IntKind} {x : Int} (h : InR k x) (y : Int) : InR k (Int.tmod x y) := by
  have h1 : (Int.tmod x y).natAbs ≤ x.natAbs := by rw [Int.natAbs_tmod]; exact Nat.mod_le _ _
  have h2 : 0 ≤ x → 0 ≤ Int.tmod x y := fun h => Int.tmod_nonneg y h
  have h3 : x ≤ 0 → Int.tmod x y ≤ 0 := fun h => by
    have := Int.tmod_nonneg y (a := -x) (by omega)
    rw [Int.neg_tmod] at this
    omega
  cases k <;> simp only [InR] at * <;> omega
theorem sR_in {k : IntKind} {x : Int} (hs : k.signed = false) (h : InR k x) (y : Int) : InR k (sR k x y) := by
  unfold sR
  generalize min y.toNat k.bits = n
  have hp : (0 : Int) < 2 ^ n := Int.pow_pos (by decide)
  have e : x.fdiv (2 ^ n) = x / 2 ^ n := Int.fdiv_eq_ediv_of_nonneg x (Int.le_of_lt hp)
  rw [e]
  have h1 : 0 ≤ x → 0 ≤ x / 2 ^ n := fun h => Int.ediv_nonneg h (Int.le_of_lt hp)
  have h2 : 0 ≤ x → x / 2 ^ n ≤ x := fun h => Int.ediv_le_self _ h
  cases k <;> first | (simp [IntKind.signed] at hs; done) | (simp only [InR] at *; omega)
theorem Iv.row_in {W0 : World} {md : List Nat} {μ0 μ : Store} {its : List It} {w : World} (hI : Iv W0 md μ0 μ its w) {j e sz m : Nat} {v : Value} {cs : List Value} (hj : its[j]? = some (row e sz v m cs)) : InR .i64 (m : Int) := by
  obtain ⟨A, cp, _, h1, h2, _⟩ := own_form (hI.row_ok hj)
  simp only [maxLen] at h2
  exact ⟨by omega, by omega⟩
theorem eqIn_nil {P : Program} {w : World} {t e : TypeId} (d : Nat) (A : Option Addr) (m cp : Nat) (hu : P.underlying t = some (.slice e)) : (Op.equalIn (d + 1) t (.slice A m cp) (.slice none 0 0)).run P w = .ok A.isNone w := by
  cases A <;> simp [Op.equalIn, run_underlying hu]
def inb : IntKind → Int → Bool
  | .i8, n => decide (-128 ≤ n) && decide (n < 128)
  | .i16, n => decide (-32768 ≤ n) && decide (n < 32768)
  | .i32, n => decide (-2147483648 ≤ n) && decide (n < 2147483648)
  | .i64, n => decide (-9223372036854775808 ≤ n) && decide (n < 9223372036854775808)
  | .u8, n => decide (0 ≤ n) && decide (n < 256)
  | .u16, n => decide (0 ≤ n) && decide (n < 65536)
  | .u32, n => decide (0 ≤ n) && decide (n < 4294967296)
  | .u64, n => decide (0 ≤ n) && decide (n < 18446744073709551616)
theorem in_lit (k : IntKind) (x : Int) (h : inb k x = true) : InR k x := by
  cases k <;> simpa [inb, InR] using h
theorem r_eqlb {P : Program} {w : World} {a : Act} {n : Nat} {L : List (Nat × Value)} {dst : Option Nat} {ty t t' : TypeId} {pos : String} {aft : Array Edge} {g : Option (Nat × Bool)} {x y : Operand} {b c : Bool} (hu : P.underlying t = some .bool) (hA : Fr a n L) (hx : ov L x = some (.bool b)) (hy : ov L y = some (.bool c)) :
    (execOp a.eval ⟨dst, .binOp .eql t x y t', ty, pos, aft, g⟩).run P w = .ok (.value (.bool (decide (b = c)))) w := by
  have e : (b == c) = decide (b = c) := by cases b <;> cases c <;> rfl
  simp [execOp, hA.ev hx, hA.ev hy, eqGuard, run_eql_bool w t b c hu, e]
theorem r_neqb {P : Program} {w : World} {a : Act} {n : Nat} {L : List (Nat × Value)} {dst : Option Nat} {ty t t' : TypeId} {pos : String} {aft : Array Edge} {g : Option (Nat × Bool)} {x y : Operand} {b c : Bool} (hu : P.underlying t = some .bool) (hA : Fr a n L) (hx : ov L x = some (.bool b)) (hy : ov L y = some (.bool c)) :
    (execOp a.eval ⟨dst, .binOp .neq t x y t', ty, pos, aft, g⟩).run P w = .ok (.value (.bool (decide (b ≠ c)))) w := by
  have e : (b != c) = decide (b ≠ c) := by cases b <;> cases c <;> rfl
  have h : (binOp .neq t (.bool b) (.bool c)).run P w = .ok (.bool (b != c)) w := by
    have h1 := run_equalIn_bool w 9999 t b c hu
    simp only [binOp, Op.equal, Op.maxDepth]
    rw [Sem.run_bind, h1]
    rfl
  simp [execOp, hA.ev hx, hA.ev hy, eqGuard, h, e]
/-- A slice against nil. -/
theorem r_eqnil {P : Program} {w : World} {a : Act} {n : Nat} {L : List (Nat × Value)} {dst : Option Nat} {ty t t' e : TypeId} {pos : String} {aft : Array Edge} {g : Option (Nat × Bool)} {x y : Operand} {A : Option Addr} {m cp : Nat} (hu : P.underlying t = some (.slice e)) (hA : Fr a n L) (hx : ov L x = some (.slice A m cp)) (hy : ov L y = some (.slice none 0 0)) :
    (execOp a.eval ⟨dst, .binOp .eql t x y t', ty, pos, aft, g⟩).run P w = .ok (.value (.bool A.isNone)) w := by
  have h := eqIn_nil (P := P) (w := w) 9999 A m cp hu
  have hb : (binOp .eql t (.slice A m cp) (.slice none 0 0)).run P w = .ok (.bool A.isNone) w := by
    simp only [binOp, Op.equal, Op.maxDepth]
    rw [Sem.run_bind, h]
    rfl
  simp [execOp, hA.ev hx, hA.ev hy, eqGuard, hb]

/-! ### Append -/
section
variable {P : Program} {Q : Exit → AW} {ops : Array Oper} {rest : List Oper} {W0 : World} {md : List Nat} {μ0 μ : Store} {its : List It} {w : World} {a : Act} {n : Nat} {L : List (Nat × Value)} {d : Nat} {dst : Option Nat} {ty t T e : TypeId} {pos : String} {aft : Array Edge} {x y : Operand} {v u vx : Value} {g o sz m mx by_ : Nat} {cs news : List Value}

theorem run_app {i : TypeInfo} {z : Value} (ht : P.underlying t = some (.slice e)) (hi : P.info? e = some i) (hz : i.zero = some z) (hsize : i.size = sz) (hzs : z.cells.size = sz) (hby : i.bytes = by_)
    (hown : w.ownsRow 0 e sz v m cs) {ad : Addr} {c : Nat} (hl : news.length = mx * sz) (hnews : ∀ j u, news[j]? = some u → w.cell? (ad.add j) = some u) (h1 : ∀ u ∈ news, u.oneCell' = true)
    (h63 : m + mx ≤ maxLen) (hb : (m + mx) * by_ ≤ 140737488355328) :
    ∃ v' w', (Builtin.append_ #[t, t] ty #[v, .slice (some ad) mx c]).run P w = .ok v' w' ∧ w'.ownsRow 0 e sz v' (m + mx) (cs ++ news) ∧ w.grownBy w' v.ownBlock ∧ (∀ k, v'.ownBlock = some k → v.ownBlock = some k ∨ w.heap.size ≤ k) ∧ (∀ k, v'.ownBlock = some k → k < w'.heap.size) := by
  subst hsize
  subst hby
  have hsmall : m + mx ≤ 9223372036854775807 := by simp only [maxLen] at h63; omega
  have hlen : (cs ++ news).length = (m + mx) * i.size := by rw [List.length_append, hown.1, hl, Nat.add_mul]
  have grown : ∀ (old : Nat), old < m + mx → ∀ (row : Option Nat),
      (w.drew.alloc (.cells (cs.toArray ++ news.toArray ++ Builtin.zeroCells z.cells (grownCap w (m + mx) old e - (m + mx))) e)).ownsRow 0 e i.size
        (.slice (some ⟨w.heap.size, 0, none⟩) (m + mx) (grownCap w (m + mx) old e)) (m + mx) (cs ++ news) ∧
      w.grownBy (w.drew.alloc (.cells (cs.toArray ++ news.toArray ++ Builtin.zeroCells z.cells (grownCap w (m + mx) old e - (m + mx))) e)) row := by
    intro old ho row
    have hge := grownCap_ge w (m + mx) old e
    have hcm : grownCap w (m + mx) old e ≤ maxLen := grownCap_le_maxLen w (m + mx) old e h63
    refine ⟨⟨hlen, .inr ⟨w.heap.size, _, _, rfl, Nat.zero_le _, heap_alloc_new w.drew _, hge, hcm, ?_, ?_⟩⟩, ⟨rfl, rfl, rfl, by simp, fun k hk _ => RowKit.Below.heap_alloc w.drew _ k hk⟩⟩
    · simp only [Array.size_append, List.size_toArray, size_zeroCells, hzs, hown.1, hl, ← Nat.add_mul]
      congr 1
      omega
    · simp only [Array.toList_append, List.append_assoc]
      rw [← List.append_assoc, ← hlen]
      exact List.take_left
  have hnewsz : ∀ (o : Obj), (w.drew.alloc o).heap.size = w.heap.size + 1 := fun o => by show (w.heap.push o).size = _; simp
  rcases hown.2 with ⟨rfl, rfl⟩ | ⟨g, cap, cur, rfl, hbg, hg, hnc, hcm, hcs, htake⟩
  · have hx : cs = [] := List.eq_nil_of_length_eq_zero (by simpa using hown.1)
    subst hx
    by_cases hm : mx = 0
    · subst hm
      have hn : news = [] := List.eq_nil_of_length_eq_zero (by simpa using hl)
      subst hn
      refine ⟨.slice none 0 0, w, ?_, World.ownsRow_nil w 0 e i.size, ⟨rfl, rfl, rfl, Nat.le_refl _, fun _ _ _ => rfl⟩, fun k hk => by simp [Value.ownBlock] at hk, fun k hk => by simp [Value.ownBlock] at hk⟩
      simp [Builtin.append_, run_underlying ht, sizeOf, typeInfo, hi, Builtin.lenOf, Builtin.firstCells, loadCells, loadCellsFrom]
    · have hr := run_append_nil (P := P) w t ty e i z ht hi hz ad mx c news hl hnews (by omega) (by omega) (by have hb' := hb; simp only [Nat.zero_add] at hb'; omega)
      have hgr := grown 0 (by omega) (Value.ownBlock (.slice none 0 0))
      simp only [Nat.zero_add, List.nil_append, Array.empty_append] at hgr ⊢
      exact ⟨_, _, hr, hgr.1, hgr.2, fun k hk => .inr (by simp [Value.ownBlock] at hk; omega), fun k hk => by rw [hnewsz]; simp [Value.ownBlock] at hk; omega⟩
  · have hglt : g < w.heap.size := (Array.getElem?_eq_some_iff.1 hg).1
    by_cases hroom : m + mx ≤ cap
    · have hfit : m * i.size + news.length ≤ cur.size := by rw [hl, hcs, ← Nat.add_mul]; exact Nat.mul_le_mul_right _ hroom
      have hr := run_append_room (P := P) w t ty e i ht hi g m cap cur hg ad mx c news hl hnews h1 hroom hfit
      refine ⟨_, _, hr, ⟨hlen, .inr ⟨g, cap, _, rfl, hbg, setRow_heap w g cur _ e _ hg, hroom, hcm, ?_, ?_⟩⟩, ⟨rfl, rfl, rfl, by simp, fun k _ hk => setRow_other w g k _ (fun e => hk (by simp [Value.ownBlock, e]))⟩, fun k hk => .inl hk, fun k hk => ?_⟩
      · simp only [List.size_toArray, List.length_append, List.length_take, List.length_drop, Array.length_toList]
        omega
      · rw [htake, ← hlen]
        exact List.take_left
      · simp [Value.ownBlock] at hk
        subst hk
        simpa using hglt
    · have holds : ∀ j u, cs[j]? = some u → w.cell? ((⟨g, 0, none⟩ : Addr).add j) = some u := hown.cells (g := g) rfl
      have hr := run_append_grow (P := P) w t ty e i z ht hi hz ⟨g, 0, none⟩ m cap cs hown.1 holds ad mx c news hl hnews (by omega) (by omega) (growslice_fits (by omega) hb)
      have hgr := grown cap (by omega) (Value.ownBlock (.slice (some ⟨g, 0, none⟩) m cap))
      exact ⟨_, _, hr, hgr.1, hgr.2, fun k hk => .inr (by simp [Value.ownBlock] at hk; omega), fun k hk => by rw [hnewsz]; simp [Value.ownBlock] at hk; omega⟩

/-- What the table says of an element type. -/
def TyE (P : Program) (e : TypeId) (sz by_ : Nat) : Prop := ∃ i z, P.info? e = some i ∧ i.zero = some z ∧ i.size = sz ∧ z.cells.size = sz ∧ i.bytes = by_

theorem TyE.of (h1 : (P.info? e).map (·.size) = some sz) (h2 : (P.info? e).map (·.bytes) = some by_) (h3 : ∃ z, (P.info? e).map (·.zero) = some (some z) ∧ z.cells.size = sz) : TyE P e sz by_ := by
  obtain ⟨z, h3, h4⟩ := h3
  cases hq : P.info? e with
  | none => simp [hq] at h1
  | some i => exact ⟨i, z, hq, by simpa [hq] using h3, by simpa [hq] using h1, h4, by simpa [hq] using h2⟩
theorem run_app0 {i : TypeInfo} (ht : P.underlying t = some (.slice e)) (hi : P.info? e = some i) (hown : w.ownsRow 0 e sz v m cs) (c : Nat) :
    (Builtin.append_ #[t, t] ty #[v, .slice none 0 c]).run P w = .ok v w := by
  rcases hown.2 with ⟨rfl, rfl⟩ | ⟨g, cap, cur, rfl, hbg, hg, hnc, hcm, hcs, htake⟩
  · simp [Builtin.append_, run_underlying ht, sizeOf, typeInfo, hi, Builtin.lenOf, Builtin.firstCells]
  · simp [Builtin.append_, run_underlying ht, sizeOf, typeInfo, hi, Builtin.lenOf, Builtin.firstCells, hnc, storeCells]

/-- Append to a row of one's own: what is appended is readable now. -/
theorem o_app {j : Nat} (hte : TyE P e sz by_) (ht : P.underlying t = some (.slice e)) (hI : Iv W0 md μ0 μ its w) (hj : its[j]? = some (row e sz v m cs)) (hA : Fr a n L) (hx : ov L x = some v) (hy : ov L y = some vx)
    (hf : ∃ A cp, vx = .slice A mx cp ∧ (mx ≠ 0 → ∃ ad, A = some ad ∧ ∀ j u, news[j]? = some u → w.cell? (ad.add j) = some u)) (hl : news.length = mx * sz) (h1 : ∀ u ∈ news, u.oneCell' = true)
    (h63 : m + mx ≤ maxLen) (hb : (m + mx) * by_ ≤ 140737488355328) (hd : Nat.ble (d + 1) n = true)
    (k : ∀ v' a w, Fr a n ((d, v') :: L) → Iv W0 md μ0 μ (its.set j (row e sz v' (m + mx) (cs ++ news))) w → wpList P ops Q rest a w) :
    wpList P ops Q (⟨some d, .call { callee := .builtin .append, args := #[x, y], argTypes := #[t, t] }, ty, pos, aft, none⟩ :: rest) a w := by
  obtain ⟨i, z, hi, hz, hsize, hzs, hby⟩ := hte
  obtain ⟨A, cp, rfl, hA2⟩ := hf
  have hown := hI.row_ok hj
  have main : ∃ v' w', (Builtin.append_ #[t, t] ty #[v, .slice A mx cp]).run P w = .ok v' w' ∧ w'.ownsRow 0 e sz v' (m + mx) (cs ++ news) ∧ w.grownBy w' v.ownBlock ∧ (∀ k, v'.ownBlock = some k → v.ownBlock = some k ∨ w.heap.size ≤ k) ∧ (∀ k, v'.ownBlock = some k → k < w'.heap.size) := by
    cases A with
    | some ad =>
      by_cases h0 : mx = 0
      · subst h0
        have hn : news = [] := List.eq_nil_of_length_eq_zero (by simpa using hl)
        subst hn
        exact run_app ht hi hz hsize hzs hby hown (by simp) (fun j u hu => by simp at hu) (by simp) h63 hb
      · obtain ⟨ad', e1, h2⟩ := hA2 h0
        cases e1
        exact run_app ht hi hz hsize hzs hby hown hl h2 h1 h63 hb
    | none =>
      have h0 : mx = 0 := by
        rcases Nat.eq_zero_or_pos mx with h | h
        · exact h
        · obtain ⟨ad, e1, _⟩ := hA2 (by omega); cases e1
      subst h0
      have hn : news = [] := List.eq_nil_of_length_eq_zero (by simpa using hl)
      subst hn
      refine ⟨v, w, run_app0 ht hi hown cp, by simpa using hown, ⟨rfl, rfl, rfl, Nat.le_refl _, fun _ _ _ => rfl⟩, fun k hk => .inl hk, fun k hk => ?_⟩
      exact ((hI.own _ (List.mem_of_getElem? hj)).2 k (by simp [row, hk])).1
  obtain ⟨v', w', hr, ho', hg, hb1, hb2⟩ := main
  refine wpl_val (v := v') (w' := w') ?_ (k v' _ w' (hA.put hd v') (hI.upd j _ (row e sz v' (m + mx) (cs ++ news)) hj hg.os hg.tape hg.output hg.size (fun k hk hn => hg.block k hk (fun e => hn (by simp [row, ← e]))) (fun g hg' => ?_) (fun g hg' => ?_) ?_ ho'))
  · simp only [execOp, resolve, invoke, builtin, Sem.run_bind, Sem.run_pure, Result.andThen_ok, List.map_toArray, List.map_cons, List.map_nil, hA.ev hx, hA.ev hy, hr]
  · have : v'.ownBlock = some g := by simpa [row] using hg'
    rcases hb1 g this with h' | h'
    · exact .inl (by simp [row, h'])
    · exact .inr h'
  · exact hb2 g (by simpa [row] using hg')
  · cases h : v'.ownBlock <;> simp [row, h]

/-- .. told in lists. -/
theorem o_appL {α : Type} {xs ys : List α} {j : Nat} (hte : TyE P e sz by_) (ht : P.underlying t = some (.slice e)) (hI : Iv W0 md μ0 μ its w) (hj : its[j]? = some (row e sz v xs.length cs)) (hA : Fr a n L) (hx : ov L x = some v) (hy : ov L y = some vx)
    (hf : ∃ A cp, vx = .slice A ys.length cp ∧ (ys.length ≠ 0 → ∃ ad, A = some ad ∧ ∀ j u, news[j]? = some u → w.cell? (ad.add j) = some u)) (hl : news.length = ys.length * sz) (h1 : ∀ u ∈ news, u.oneCell' = true)
    (h63 : xs.length + ys.length ≤ maxLen) (hb : (xs.length + ys.length) * by_ ≤ 140737488355328) (hd : Nat.ble (d + 1) n = true)
    (k : ∀ v' a w, Fr a n ((d, v') :: L) → Iv W0 md μ0 μ (its.set j (row e sz v' (xs ++ ys).length (cs ++ news))) w → wpList P ops Q rest a w) :
    wpList P ops Q (⟨some d, .call { callee := .builtin .append, args := #[x, y], argTypes := #[t, t] }, ty, pos, aft, none⟩ :: rest) a w :=
  o_app hte ht hI hj hA hx hy hf hl h1 h63 hb hd fun v' a w hA hI => k v' a w hA (by rw [List.length_append]; exact hI)

/-- What is appended: a slice out of the store .. -/
theorem src_sl (hr : Agr μ w) (h : SlV μ vx mx news) (hl : news.length = mx * sz) : ∃ A cp, vx = .slice A mx cp ∧ (mx ≠ 0 → ∃ ad, A = some ad ∧ ∀ j u, news[j]? = some u → w.cell? (ad.add j) = some u) := by
  obtain ⟨A, cp, e1, _, _, h4, h5⟩ := h
  exact ⟨A, cp, e1, fun h0 => ⟨_, h4 h0, fun j u hu => (h5 h0).cellq hr hu⟩⟩
/-- .. a row of one's own. -/
theorem src_row {j : Nat} (hI : Iv W0 md μ0 μ its w) (hj : its[j]? = some (row T sz vx mx news)) : ∃ A cp, vx = .slice A mx cp ∧ (mx ≠ 0 → ∃ ad, A = some ad ∧ ∀ j u, news[j]? = some u → w.cell? (ad.add j) = some u) := by
  have hown := hI.row_ok hj
  obtain ⟨A, cp, e1, _, _, h4⟩ := own_form hown
  refine ⟨A, cp, e1, fun h0 => ⟨_, (h4 h0).1, fun j u hu => ?_⟩⟩
  rw [add_eq]
  exact own_cells hown hu
theorem Iv.nilRow (hI : Iv W0 md μ0 μ its w) (e sz : Nat) : Iv W0 md μ0 μ (row e sz (.slice none 0 0) 0 [] :: its) w := by
  refine ⟨hI.os, hI.tape, hI.out, hI.size, hI.frame, hI.le, hI.agr, hI.fresh, by simpa [row, Value.ownBlock] using hI.nodup, fun i hi => ?_⟩
  rcases List.mem_cons.1 hi with rfl | hi
  · exact ⟨World.ownsRow_nil w 0 e sz, fun g hg => by simp [row, Value.ownBlock] at hg⟩
  · exact hI.own i hi

/-- A row is written no more. -/
theorem Iv.freezeRow (hI : Iv W0 md μ0 μ its w) (j : Nat) (hj : its[j]? = some (row e sz v m cs)) : ∃ μ', μ.le μ' ∧ SlV μ' v m cs ∧ Iv W0 md μ0 μ' (its.eraseIdx j) w := by
  have hown := hI.row_ok hj
  rcases hown.2 with ⟨rfl, rfl⟩ | ⟨g, cap, cur, rfl, hbg, hg, hnc, hcm, hcs, htake⟩
  · exact ⟨μ, Store.le.refl _, ⟨none, 0, rfl, Nat.le_refl _, by simp [maxLen], fun h => absurd rfl h, fun h => absurd rfl h⟩, hI.drop (List.eraseIdx_sublist its j)⟩
  · obtain ⟨μ', h1, h2, h3⟩ := hI.freeze j hj (g := g) (by simp [row, Value.ownBlock]) hg
    refine ⟨μ', h1, ⟨_, _, rfl, hnc, hcm, fun _ => rfl, fun _ i u hu => ?_⟩, h3⟩
    simp only [sb, so, Nat.zero_add, Store.cell, h2]
    rw [← htake, List.getElem?_take] at hu
    split at hu
    · simpa using hu
    · cases hu
/-- A block is written no more. -/
theorem Iv.freezeCel (hI : Iv W0 md μ0 μ its w) (j : Nat) {chs : List (List Value)} (hj : its[j]? = some (cel g chs T)) : ∃ μ', μ.le μ' ∧ At μ' g 0 chs.flatten ∧ Iv W0 md μ0 μ' (its.eraseIdx j) w := by
  obtain ⟨μ', h1, h2, h3⟩ := hI.freeze j hj (g := g) rfl (hI.cel_ok hj)
  refine ⟨μ', h1, fun i u hu => ?_, h3⟩
  simp only [Nat.zero_add, Store.cell, h2]
  simpa using hu
end

/-! ### Slicing -/
section
variable {P : Program} {W0 : World} {md : List Nat} {μ0 μ : Store} {its : List It} {a : Act} {n : Nat} {L : List (Nat × Value)} {dst : Option Nat} {ty t T e : TypeId} {pos : String} {aft : Array Edge} {gd : Option (Nat × Bool)} {x lo hi : Operand} {v : Value} {g o sz m : Nat} {cs : List Value}
/-- The bounds of 's[l:h]', either left out. -/
def loOf (L : List (Nat × Value)) : Option Operand → Option Int
  | none => some 0
  | some x => match ov L x with
    | some (.int _ i) => some i
    | _ => none
def hiOf (L : List (Nat × Value)) (m : Nat) : Option Operand → Option Int
  | none => some m
  | some x => match ov L x with
    | some (.int _ i) => some i
    | _ => none
theorem loOf_some {L : List (Nat × Value)} {x : Operand} {i : Int} (h : loOf L (some x) = some i) : ∃ k, ov L x = some (.int k i) := by
  simp only [loOf] at h
  cases hv : ov L x with
  | none => rw [hv] at h; cases h
  | some v => rw [hv] at h; cases v <;> simp at h; exact ⟨_, by rw [h]⟩
theorem hiOf_some {L : List (Nat × Value)} {m : Nat} {x : Operand} {i : Int} (h : hiOf L m (some x) = some i) : ∃ k, ov L x = some (.int k i) := by
  simp only [hiOf] at h
  cases hv : ov L x with
  | none => rw [hv] at h; cases h
  | some v => rw [hv] at h; cases v <;> simp at h; exact ⟨_, by rw [h]⟩
theorem run_bounds (b : Bool) {L : List (Nat × Value)} {m cp : Nat} {l h : Option Operand} {i j : Int} (hA : Fr a n L) (hl : loOf L l = some i) (hh : hiOf L m h = some j) (h0 : 0 ≤ i) (h1 : i ≤ j) (h2 : j ≤ (cp : Int)) (w : World) :
    (Instr.sliceBounds b m cp (l.map a.eval) (h.map a.eval) none).run P w = .ok (i.toNat, j.toNat, cp) w := by
  have ej : ((j.toNat : Nat) : Int) = j := Int.toNat_of_nonneg (by omega)
  cases l with
  | none =>
    have : i = 0 := by simpa [loOf] using hl.symm
    subst this
    cases h with
    | none =>
      have : j = m := by simpa [hiOf] using hh.symm
      subst this
      simp [Instr.sliceBounds]
    | some y =>
      obtain ⟨k, hk⟩ := hiOf_some hh
      simp [Instr.sliceBounds, hA.ev hk, run_sliceBound, (by omega : 0 ≤ j), h2]
  | some x =>
    obtain ⟨k', hk'⟩ := loOf_some hl
    cases h with
    | none =>
      have : j = m := by simpa [hiOf] using hh.symm
      subst this
      simp [Instr.sliceBounds, hA.ev hk', run_sliceBound, h0, h1]
    | some y =>
      obtain ⟨k, hk⟩ := hiOf_some hh
      simp [Instr.sliceBounds, hA.ev hk, hA.ev hk', run_sliceBound, (by omega : 0 ≤ j), h2, h0, ej, h1]
/-- Of a slice out of the store. -/
theorem r_sl {α : Type} {RE : α → List Value → Prop} {xs : List α} {l h : Option Operand} {i j : Int} (ht : P.underlying t = some (.slice e)) (hs : (P.info? e).map (·.size) = some sz) (hv : Slc RE sz μ v xs) (hA : Fr a n L) (hx : ov L x = some v)
    (hl : loOf L l = some i) (hh : hiOf L xs.length h = some j) (h0 : 0 ≤ i) (h1 : i ≤ j) (h2 : j ≤ (xs.length : Int)) :
    ∃ v', Slc RE sz μ v' ((xs.take j.toNat).drop i.toNat) ∧ ∀ (dst : Option Nat) (ty : TypeId) (pos : String) (aft : Array Edge) (gd : Option (Nat × Bool)) (w : World), (execOp a.eval ⟨dst, .slice t x l h none, ty, pos, aft, gd⟩).run P w = .ok (.value v') w := by
  obtain ⟨cs, hE, A, cp, e1, h3, h4, h5, h6⟩ := hv
  have hlen := hE.len
  have el : ((xs.take j.toNat).drop i.toNat).length = j.toNat - i.toNat := by simp; omega
  have hE' := (hE.take j.toNat).drop i.toNat
  refine ⟨.slice (if cp = i.toNat then A else A.map (·.add (i.toNat * sz))) (j.toNat - i.toNat) (cp - i.toNat), ⟨_, hE', ?_⟩, fun dst ty pos aft gd w => ?_⟩
  · rw [el]
    refine ⟨_, _, rfl, by omega, by omega, fun hn => ?_, fun hn => ?_⟩
    · have hA' := h5 (by omega)
      rw [if_neg (by omega)]
      simp [hA', sb, so, add_eq]
    · have hA' := h5 (by omega)
      have h6' := h6 (by omega)
      have e2 : cs = cs.take (i.toNat * sz) ++ ((cs.take (j.toNat * sz)).drop (i.toNat * sz) ++ cs.drop (j.toNat * sz)) := by
        have e3 : cs.take (i.toNat * sz) = (cs.take (j.toNat * sz)).take (i.toNat * sz) := by
          rw [List.take_take, Nat.min_eq_left (Nat.mul_le_mul_right _ (by omega))]
        rw [← List.append_assoc, e3, List.take_append_drop, List.take_append_drop]
      rw [e2] at h6'
      have h7 := h6'.part
      have e4 : (cs.take (i.toNat * sz)).length = i.toNat * sz := by
        rw [List.length_take, hlen, Nat.min_eq_left (Nat.mul_le_mul_right _ (by omega))]
      rw [e4] at h7
      rw [if_neg (by omega)]
      simp only [hA', Option.map_some, add_eq, sb, so]
      exact h7
  · cases hq : P.info? e with
    | none => simp [hq] at hs
    | some ei =>
      have hs' : ei.size = sz := by simpa [hq] using hs
      subst hs'
      have hb := run_bounds (P := P) true hA hl (m := xs.length) (cp := cp) hh h0 h1 (by omega) w
      have e3 : a.eval x = .slice A xs.length cp := (hA.ev hx).trans e1
      simp [execOp, Instr.sliceAt, e3, run_underlying ht, Instr.slice, hb, sizeOf, typeInfo, hq]
/-- Of an array in the store. -/
theorem r_sla {k : IntKind} {mm : Nat} {xs : List Int} {l h : Option Operand} {i j : Int} {b : Nat} (ht : P.underlying t = some (.array mm e)) (hs : (P.info? e).map (·.size) = some 1) (hm : At μ g o [av k mm xs].flatten) (hw : Arr k mm xs) (hmm : mm ≤ maxLen) (hA : Fr a n L) (hx : ov L x = some (.pointer (some ⟨g, o, none⟩)))
    (hl : loOf L l = some i) (hh : hiOf L mm h = some j) (h0 : 0 ≤ i) (h1 : i ≤ j) (h2 : j ≤ (mm : Int)) :
    ∃ v', Slc (RI k) 1 μ v' ((xs.take j.toNat).drop i.toNat) ∧ ∀ (dst : Option Nat) (ty : TypeId) (pos : String) (aft : Array Edge) (gd : Option (Nat × Bool)) (w : World), (execOp a.eval ⟨dst, .slice t x l h none, ty, pos, aft, gd⟩).run P w = .ok (.value v') w := by
  have hE := els_av hw
  have hE' := (hE.take j.toNat).drop i.toNat
  have el : ((xs.take j.toNat).drop i.toNat).length = j.toNat - i.toNat := by have := hw.1; simp; omega
  refine ⟨.slice (some (if mm = i.toNat then ⟨g, o, none⟩ else ⟨g, o + i.toNat, none⟩)) (j.toNat - i.toNat) (mm - i.toNat), ⟨_, hE', ?_⟩, fun dst ty pos aft gd w => ?_⟩
  · rw [el]
    refine ⟨_, _, rfl, by omega, by omega, fun hn => ?_, fun hn => ?_⟩
    · rw [if_neg (by omega)]; rfl
    · rw [if_neg (by omega)]
      simp only [sb, so]
      have hlen := hE.len
      have hw1 := hw.1
      generalize [av k mm xs].flatten = cs at *
      simp only [Nat.mul_one] at *
      have e2 : cs = cs.take i.toNat ++ ((cs.take j.toNat).drop i.toNat ++ cs.drop j.toNat) := by
        have e3 : cs.take i.toNat = (cs.take j.toNat).take i.toNat := by
          rw [List.take_take, Nat.min_eq_left (by omega)]
        rw [← List.append_assoc, e3, List.take_append_drop, List.take_append_drop]
      rw [e2] at hm
      have h7 := hm.part
      have e4 : (cs.take i.toNat).length = i.toNat := by rw [List.length_take]; omega
      rw [e4] at h7
      exact h7
  · cases hq : P.info? e with
    | none => simp [hq] at hs
    | some ei =>
      have hs' : ei.size = 1 := by simpa [hq] using hs
      have hb := run_bounds (P := P) false hA hl (m := mm) (cp := mm) hh h0 h1 (by omega) w
      simp [execOp, Instr.sliceAt, hA.ev hx, run_underlying ht, Instr.sureAddr, hb, sizeOf, typeInfo, hq, hs', add_eq]
end

theorem els_set {k : IntKind} {xs : List Int} {cs : List Value} (h : Els (RI k) 1 xs cs) (i : Nat) {x : Int} (hx : InR k x) : Els (RI k) 1 (xs.set i x) (cs.set i (.int k x)) := by
  obtain ⟨rfl, h2⟩ := els_int_cs h
  have := els_int (k := k) (xs := xs.set i x) fun y hy => by
    rcases List.mem_or_eq_of_mem_set hy with h' | h'
    · exact h2 y h'
    · exact h' ▸ hx
  rwa [List.map_set] at this
theorem cells_sl {μ : Store} {v : Value} {n : Nat} {cs : List Value} (h : SlV μ v n cs) : v.cells = [[v]].flatten.toArray := by
  obtain ⟨A, cp, rfl, _⟩ := h
  rfl
section
variable {P : Program} {Q : Exit → AW} {ops : Array Oper} {rest : List Oper} {W0 : World} {md : List Nat} {μ0 μ : Store} {its : List It} {w : World} {a : Act} {n : Nat} {L : List (Nat × Value)} {d : Nat} {ty t T e : TypeId} {pos : String} {aft : Array Edge} {x y : Operand} {v u : Value} {g o sz by_ : Nat} {cs : List Value}
/-- A store into an element of a row of numbers. -/
theorem o_rst {j q : Nat} {k : IntKind} {z : Int} {xs : List Int} (hs : (P.info? t).map (·.size) = some 1) (hI : Iv W0 md μ0 μ its w) (hj : its[j]? = some (row T 1 v xs.length cs)) (hA : Fr a n L) (hx : ov L x = some (.pointer (some ⟨sb v, o, none⟩))) (hy : ov L y = some (.int k z)) (ho : so v + q = o) (hq : q = q) (hlt : q < xs.length)
    (kk : ∀ w, Iv W0 md μ0 μ (its.set j (row T 1 v (xs.set q z).length (cs.set q (.int k z)))) w → wpList P ops Q rest a w) : wpList P ops Q (⟨none, .store t x y, ty, pos, aft, none⟩ :: rest) a w := by
  have hown := hI.row_ok hj
  have hlen := hown.1
  rcases hown.2 with ⟨rfl, h0⟩ | ⟨g, cap, cur, rfl, hb, hg, hnc, hcm, hcs, htake⟩
  · omega
  · have ho' : q = o := by simpa [so] using ho
    subst ho'
    have hcell : w.cell? ⟨g, q, none⟩ = some cur[q]! := by
      have hq' : q < cur.size := by omega
      simp [World.cell?, hg, hq']
    have hfro : w.frozen? ⟨g, q, none⟩ = false := by simp [World.frozen?, hg]
    have hglt : g < w.heap.size := (Array.getElem?_eq_some_iff.1 hg).1
    have hst : (storeVar t ⟨g, q, none⟩ (.int k z)).run P w = .ok () (w.setRow g (cur.setIfInBounds q (.int k z))) := by
      cases hq : P.info? t with
      | none => simp [hq] at hs
      | some ti =>
        have hz' : ti.size = 1 := by simpa [hq] using hs
        have h1 := run_store P w ⟨g, q, none⟩ (.int k z) .plain rfl
        rw [hcell] at h1
        simp only [hfro, Bool.false_eq_true, if_false, setCell_eq_setRow w g q cur T (0, 0) _ hg] at h1
        simp [storeVar, Value.cells, sizeOf, typeInfo, hq, hz', storeCells, add_eq, h1]
    refine wpl_skip (w' := w.setRow g (cur.setIfInBounds q (.int k z))) ?_ (kk _ (hI.upd j _ _ hj rfl rfl rfl (by simp) (fun i _ hi => setRow_other w g i _ (by simpa [row, Value.ownBlock] using hi)) (fun g' hg' => .inl (by simpa [row, Value.ownBlock] using hg')) (fun g' hg' => ?_) (by simp [row, Value.ownBlock]) ?_))
    · simp [execOp, hA.ev hx, hA.ev hy, Instr.storeAt, Instr.sureAddr, sb, hst]
    · have : g' = g := by simpa [row, Value.ownBlock] using hg'
      subst this
      simpa using hglt
    · refine ⟨by simp [hlen], .inr ⟨g, cap, _, by simp, hb, setRow_heap w g cur _ T _ hg, by simpa using hnc, hcm, by simpa using hcs, ?_⟩⟩
      simp only [List.length_set, Array.toList_setIfInBounds]
      rw [List.take_set, htake]
theorem els_rep {α : Type} {RE : α → List Value → Prop} {z0 : α} {c0 : List Value} (h : RE z0 c0) (hl : c0.length = sz) (m : Nat) : Els RE sz (List.replicate m z0) (List.replicate m c0).flatten := by
  induction m with
  | zero => exact .nil
  | succ m ih => rw [List.replicate_succ, List.replicate_succ, List.flatten_cons]; exact .cons h hl ih
theorem made_rep {z : Array Value} {c0 : List Value} (hz : z = c0.toArray) (h0 : 0 < c0.length) (m : Nat) : (madeCells z (m * c0.length)).toList = (List.replicate m c0).flatten := by
  subst hz
  induction m with
  | zero => simp [madeCells]
  | succ m ih =>
    rw [List.replicate_succ', List.flatten_append, ← ih]
    apply List.ext_getElem?
    intro i
    simp only [madeCells, Array.toList_map, Array.toList_range, List.flatten_cons, List.flatten_nil, List.append_nil, List.size_toArray]
    rcases Nat.lt_or_ge i (m * c0.length) with h | h
    · rw [List.getElem?_append_left (by simpa using h)]
      have h2 : i < (m + 1) * c0.length := Nat.lt_of_lt_of_le h (Nat.mul_le_mul_right _ (by omega))
      simp [h, h2]
    · rw [List.getElem?_append_right (by simpa using h)]
      simp only [List.length_map, List.length_range]
      rcases Nat.lt_or_ge i ((m + 1) * c0.length) with h2 | h2
      · have h3 : i - m * c0.length < c0.length := by rw [Nat.succ_mul] at h2; omega
        have h4 : i % c0.length = i - m * c0.length := by
          have : i = (i - m * c0.length) + c0.length * m := by rw [Nat.mul_comm c0.length m]; omega
          conv => lhs; rw [this, Nat.add_mul_mod_self_left, Nat.mod_eq_of_lt h3]
        simp [h2, h4, h3]
      · rw [List.getElem?_eq_none (by simpa using h2), List.getElem?_eq_none (by rw [Nat.succ_mul] at h2; omega)]
/-- 'make'. -/
theorem o_make {α : Type} {RE : α → List Value → Prop} {z0 : α} {c0 : List Value} {kl kc : IntKind} {l c : Int} (hre : RE z0 c0) (hte : TyE P e sz by_) (hc0 : c0.length = sz) (hz : ∃ z, (P.info? e).map (·.zero) = some (some z) ∧ z.cells = c0.toArray) (hu : P.underlying t = some (.slice e)) (hI : Iv W0 md μ0 μ its w) (hA : Fr a n L) (hx : ov L x = some (.int kl l)) (hy : ov L y = some (.int kc c))
    (hb : 0 ≤ l ∧ l ≤ c ∧ c * (by_ : Int) ≤ 140737488355328 ∧ c ≤ (maxLen : Int)) (hd : Nat.ble (d + 1) n = true)
    (k : ∀ g cs a w, Els RE sz (List.replicate l.toNat z0) cs → Fr a n ((d, .slice (some ⟨g, 0, none⟩) l.toNat c.toNat) :: L) → Iv W0 md μ0 μ (row e sz (.slice (some ⟨g, 0, none⟩) l.toNat c.toNat) (List.replicate l.toNat z0).length cs :: its) w → wpList P ops Q rest a w) :
    wpList P ops Q (⟨some d, .makeSlice t x y, ty, pos, aft, none⟩ :: rest) a w := by
  obtain ⟨z, hz1, hz2⟩ := hz
  obtain ⟨i, z', hi, hz3, hsz, hz4, hby⟩ := hte
  have hzz : i.zero = some z := by simpa [hi] using hz1
  obtain ⟨b1, b2, b3, b4⟩ := hb
  simp only [maxLen] at b4
  have hr := run_make (P := P) w t e i z hu hi hzz kl kc l c b1 b2 (by rw [hby, Int.mul_comm]; omega) (by omega)
  have hr' : (execOp a.eval ⟨some d, .makeSlice t x y, ty, pos, aft, none⟩).run P w = .ok (.value (.slice (some ⟨w.heap.size, 0, none⟩) l.toNat c.toNat)) (w.alloc (.cells (madeCells z.cells (c.toNat * i.size)) e)) := by
    simp [execOp, hA.ev hx, hA.ev hy, hr]
  have hpos : 0 < c0.length ∨ c0.length = 0 := by omega
  refine wpl_val hr' (k _ (List.replicate l.toNat c0).flatten _ _ (els_rep hre hc0 _) (hA.put hd _) (hI.alloc _ _ (by simp [row, Value.ownBlock]) ?_))
  have hlc : l.toNat ≤ c.toNat := by omega
  have e1 : i.size = c0.length := by rw [hsz, hc0]
  refine ⟨by simp [hc0], .inr ⟨w.heap.size, c.toNat, _, by simp, Nat.zero_le _, heap_alloc_new w _, by simpa using hlc, by simp only [maxLen]; omega, by simp [size_madeCells, hsz], ?_⟩⟩
  rcases hpos with h0 | h0
  · rw [e1, made_rep hz2 h0, ← hc0]
    have e2 : (List.replicate c.toNat c0).flatten = (List.replicate l.toNat c0).flatten ++ (List.replicate (c.toNat - l.toNat) c0).flatten := by
      rw [← List.flatten_append, List.replicate_append_replicate]
      congr 2
      omega
    rw [e2, List.take_left' (by simp)]
  · have : c0 = [] := List.eq_nil_of_length_eq_zero h0
    subst this
    simp at hc0
    simp [← hc0, madeCells]
end

/-- What a callee that is handed a row may lean on. -/
def RowOK (μ : Store) (w : World) (e sz : Nat) (v : Value) (n : Nat) (cs : List Value) : Prop := (row e sz v n cs).ok w ∧ (row e sz v n cs).foot.Nodup ∧ ∀ g ∈ (row e sz v n cs).foot, g < w.heap.size ∧ μ g = none
theorem RowOK.start {μ : Store} {w : World} {e sz : Nat} {v : Value} {n : Nat} {cs : List Value} (h : RowOK μ w e sz v n cs) (hμ : Agr μ w) : Iv w (row e sz v n cs).foot μ μ [row e sz v n cs] w := Iv.start1 hμ h.1 h.2.1 h.2.2

/-! ### Structs and arrays that are built -/
section
variable {P : Program} {Q : Exit → AW} {ops : Array Oper} {rest : List Oper} {W0 : World} {md : List Nat} {μ0 μ : Store} {its : List It} {w : World} {a : Act} {n : Nat} {L : List (Nat × Value)} {d : Nat} {dst : Option Nat} {ty t T e : TypeId} {pos : String} {aft : Array Edge} {gd : Option (Nat × Bool)} {sz by_ : Nat}
def plOK (P : Program) : List Field → List (Nat × Nat) → Prop
  | [], [] => True
  | f :: fs, (o, s) :: pl => f.offset = o ∧ (P.info? f.type).map (·.size) = some s ∧ plOK P fs pl
  | _, _ => False
theorem run_places {fs : List Field} {pl : List (Nat × Nat)} (h : plOK P fs pl) : (fs.mapM fun f => Prod.mk f.offset <$> sizeOf f.type).run P w = .ok pl w := by
  induction fs generalizing pl with
  | nil =>
    cases pl with
    | nil => simp
    | cons p pl => exact h.elim
  | cons f fs ih =>
    cases pl with
    | nil => exact h.elim
    | cons p pl =>
      obtain ⟨o, s⟩ := p
      obtain ⟨h1, h2, h3⟩ := h
      have := ih h3
      cases hq : P.info? f.type with
      | none => simp [hq] at h2
      | some i =>
        have h2' : i.size = s := by simpa [hq] using h2
        rw [List.mapM_cons]
        simp [sizeOf, typeInfo, hq, h1, h2'] at this ⊢
        simp [this]
def pvs (L : List (Nat × Value)) : List (Nat × Operand) → Option (List (Nat × Value))
  | [] => some []
  | (i, x) :: xs => match ov L x, pvs L xs with
    | some v, some vs => some ((i, v) :: vs)
    | _, _ => none
theorem Fr.pvs (h : Fr a n L) : ∀ {xs : List (Nat × Operand)} {vs : List (Nat × Value)}, pvs L xs = some vs → xs.map (fun (i, x) => (i, a.eval x)) = vs
  | [], vs, e => by simpa [K.pvs] using e
  | (i, x) :: xs, vs, e => by
    simp only [K.pvs] at e
    cases h1 : ov L x with
    | none => simp [h1] at e
    | some v =>
      cases h2 : K.pvs L xs with
      | none => simp [h1, h2] at e
      | some us =>
        simp [h1, h2] at e
        subst e
        simp [h.ev h1, h.pvs h2]
theorem r_bldS {fs : List Field} {pl : List (Nat × Nat)} {parts : List (Nat × Operand)} {pv : List (Nat × Value)} {zc cs : Array Value} (hz : ∃ z, (P.info? t).map (·.zero) = some (some z) ∧ z.cells = zc) (hu : P.underlying t = some (.struct fs.toArray)) (hpl : plOK P fs pl) (hA : Fr a n L) (hp : pvs L parts = some pv)
    (hf : Instr.fill (fun i => pl.toArray[i]?) zc pv = some cs) : (execOp a.eval ⟨dst, .build t parts.toArray, ty, pos, aft, gd⟩).run P w = .ok (.value (.agg cs)) w := by
  obtain ⟨z, hz, rfl⟩ := hz
  cases hq : P.info? t with
  | none => simp [hq] at hz
  | some ti =>
    have hz' : ti.zero = some z := by simpa [hq] using hz
    have hp' := hA.pvs hp
    have hpr := run_places (P := P) (w := w) hpl
    have hf : Instr.fill (fun i => pl[i]?) z.cells pv = some cs := by simpa using hf
    simp [execOp, Instr.build, zeroValue, typeInfo, program, hp', Sem.run, hq, hz', run_underlying hu, hpr, hf]
theorem r_bldA {mm : Nat} {parts : List (Nat × Operand)} {pv : List (Nat × Value)} {zc cs : Array Value} (hz : ∃ z, (P.info? t).map (·.zero) = some (some z) ∧ z.cells = zc) (hu : P.underlying t = some (.array mm e)) (hs : (P.info? e).map (·.size) = some sz) (hA : Fr a n L) (hp : pvs L parts = some pv)
    (hf : Instr.fill (fun i => some (i * sz, sz)) zc pv = some cs) : (execOp a.eval ⟨dst, .build t parts.toArray, ty, pos, aft, gd⟩).run P w = .ok (.value (.agg cs)) w := by
  obtain ⟨z, hz, rfl⟩ := hz
  cases hq : P.info? t with
  | none => simp [hq] at hz
  | some ti =>
    cases hq' : P.info? e with
    | none => simp [hq'] at hs
    | some ei =>
      have hs' : ei.size = sz := by simpa [hq'] using hs
      subst hs'
      have hz' : ti.zero = some z := by simpa [hq] using hz
      have hp' := hA.pvs hp
      simp [execOp, Instr.build, zeroValue, typeInfo, program, hp', Sem.run, hq, hz', run_underlying hu, hf, sizeOf, hq']
/-- A slice literal. -/
theorem o_bsl {mm : Nat} {parts : List (Nat × Operand)} {pv : List (Nat × Value)} (cs : List Value) {z0 : Array Value} (hte : TyE P e sz by_) (hz : ∃ z, (P.info? e).map (·.zero) = some (some z) ∧ z.cells = z0) (hu : P.underlying t = some (.slice e)) (hI : Iv W0 md μ0 μ its w) (hA : Fr a n L) (hp : pvs L parts = some pv)
    (hpos : Nat.ble 1 sz = true) (hbig : Nat.ble (mm * sz) 16777216 = true) (hlen : cs.length = mm * sz)
    (hf : Instr.fill (fun i => some (i * sz, sz)) ((Array.range (mm * sz)).map ((if mm * sz = 0 then #[] else z0)[· % (if mm * sz = 0 then #[] else z0).size]!)) pv = some cs.toArray) (hd : Nat.ble (d + 1) n = true)
    (k : ∀ g a w, Fr a n ((d, .slice (some ⟨g, 0, none⟩) mm mm) :: L) → Iv W0 md μ0 μ (row e sz (.slice (some ⟨g, 0, none⟩) mm mm) mm cs :: its) w → wpList P ops Q rest a w) :
    wpList P ops Q (⟨some d, .buildSlice t mm parts.toArray, ty, pos, aft, none⟩ :: rest) a w := by
  obtain ⟨z, hz, rfl⟩ := hz
  obtain ⟨i, z', hi, hz1, hsz, hz2, hby⟩ := hte
  subst hsz
  have hzz : i.zero = some z := by simpa [hi] using hz
  have hp' := hA.pvs hp
  have hbig : ¬ mm * i.size > 16777216 := by have := Nat.le_of_ble_eq_true hbig; omega
  have hmm : mm ≤ maxLen := by
    have h0 : 0 < i.size := Nat.le_of_ble_eq_true hpos
    have : mm ≤ mm * i.size := Nat.le_mul_of_pos_right _ h0
    simp only [maxLen]
    omega
  have hr : (execOp a.eval ⟨some d, .buildSlice t mm parts.toArray, ty, pos, aft, none⟩).run P w = .ok (.value (.slice (some ⟨w.heap.size, 0, none⟩) mm mm)) (w.alloc (.cells cs.toArray e)) := by
    by_cases h0 : mm = 0
    · subst h0
      have hcs : cs = [] := List.eq_nil_of_length_eq_zero (by simpa using hlen)
      subst hcs
      simp [Array.range_zero'] at hf
      simp [execOp, Instr.buildSlice, typeInfo, program, hp', Sem.run, run_underlying hu, sizeOf, hi, hf, newRow, Array.range_zero']
    · have h1 : mm * i.size ≠ 0 := Nat.mul_ne_zero h0 (by have := Nat.le_of_ble_eq_true hpos; omega)
      simp only [h1, if_false] at hf
      have h2 : i.size ≠ 0 := by have := Nat.le_of_ble_eq_true hpos; omega
      simp [execOp, Instr.buildSlice, zeroValue, typeInfo, program, hp', Sem.run, run_underlying hu, sizeOf, hi, hzz, h1, hbig, hf, newRow]
  refine wpl_val hr (k _ _ _ (hA.put hd _) (hI.alloc _ _ (by simp [row, Value.ownBlock]) ?_))
  refine ⟨hlen, .inr ⟨w.heap.size, mm, _, rfl, Nat.zero_le _, heap_alloc_new w _, Nat.le_refl _, hmm, by simpa using hlen, ?_⟩⟩
  simp [← hlen]
def iMin (a b : Int) : Int := if b < a then b else a
def iMax (a b : Int) : Int := if a < b then b else a
theorem iMin_in {k : IntKind} {a b : Int} (ha : InR k a) (hb : InR k b) : InR k (iMin a b) := by unfold iMin; split <;> assumption
theorem iMax_in {k : IntKind} {a b : Int} (ha : InR k a) (hb : InR k b) : InR k (iMax a b) := by unfold iMax; split <;> assumption
theorem r_min {x y : Operand} {ts : Array TypeId} {k : IntKind} {i j : Int} (hA : Fr a n L) (hx : ov L x = some (.int k i)) (hy : ov L y = some (.int k j)) :
    (execOp a.eval ⟨dst, .call { callee := .builtin .min, args := #[x, y], argTypes := ts }, ty, pos, aft, gd⟩).run P w = .ok (.value (.int k (iMin i j))) w := by
  simp [execOp, resolve, invoke, builtin, hA.ev hx, hA.ev hy, Builtin.min_, Builtin.min2, iMin]
theorem r_max {x y : Operand} {ts : Array TypeId} {k : IntKind} {i j : Int} (hA : Fr a n L) (hx : ov L x = some (.int k i)) (hy : ov L y = some (.int k j)) :
    (execOp a.eval ⟨dst, .call { callee := .builtin .max, args := #[x, y], argTypes := ts }, ty, pos, aft, gd⟩).run P w = .ok (.value (.int k (iMax i j))) w := by
  simp [execOp, resolve, invoke, builtin, hA.ev hx, hA.ev hy, Builtin.max_, Builtin.max2, iMax]
end


/-! ### Long literals -/
def inRB : IntKind → Int → Bool
  | .i8, n => decide (-128 ≤ n) && decide (n < 128)
  | .i16, n => decide (-32768 ≤ n) && decide (n < 32768)
  | .i32, n => decide (-2147483648 ≤ n) && decide (n < 2147483648)
  | .i64, n => decide (-9223372036854775808 ≤ n) && decide (n < 9223372036854775808)
  | .u8, n => decide (0 ≤ n) && decide (n < 256)
  | .u16, n => decide (0 ≤ n) && decide (n < 65536)
  | .u32, n => decide (0 ≤ n) && decide (n < 4294967296)
  | .u64, n => decide (0 ≤ n) && decide (n < 18446744073709551616)
theorem inRB_in {k : IntKind} {n : Int} (h : inRB k n = true) : InR k n := by
  cases k <;> simp only [inRB, Bool.and_eq_true, decide_eq_true_eq] at h <;> exact h
theorem all_in {k : IntKind} {xs : List Int} (h : xs.all (inRB k) = true) : ∀ x ∈ xs, InR k x := fun x hx => inRB_in (List.all_eq_true.1 h x hx)
def numbered (k : IntKind) (xs : List Int) : List (Nat × Value) := (List.range xs.length).zip (xs.map (.int k))
theorem els_ints {k : IntKind} : ∀ {xs : List Int}, (∀ x ∈ xs, InR k x) → Els (RI k) 1 xs (xs.map (.int k))
  | [], _ => .nil
  | x :: xs, h => .cons (c := [.int k x]) ⟨rfl, h x (by simp)⟩ rfl (els_ints fun y hy => h y (by simp [hy]))

end Go.Proofs.Ytnbnnphlffhgiaa.K
