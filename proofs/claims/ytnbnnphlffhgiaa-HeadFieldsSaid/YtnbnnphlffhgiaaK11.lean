/- A helper of this seat's claims. It proves no statement by itself. -/
/- Elements of rows written in part; slices as elements; results of several kinds; slices.Grow on nothing. -/
import Derived.Test.YtnbnnphlffhgiaaK10
namespace Go.Proofs.Ytnbnnphlffhgiaa.K
open Go
set_option linter.unusedVariables false

/-! ### Slices as elements -/
def RS {α : Type} (RE : α → List Value → Prop) (sz : Nat) (μ : Store) (x : List α) (c : List Value) : Prop := ∃ v : Value, c = [[v]].flatten ∧ Slc RE sz μ v x
theorem RS.le {α : Type} {RE RE' : α → List Value → Prop} {sz : Nat} {μ ν : Store} (hm : ∀ x c, RE x c → RE' x c) (hl : μ.le ν) {x : List α} {c : List Value} (h : RS RE sz μ x c) : RS RE' sz ν x c := let ⟨v, h0, h1⟩ := h; ⟨v, h0, h1.le hm hl⟩
theorem RS.ones {α : Type} {RE : α → List Value → Prop} {sz : Nat} {μ : Store} : ∀ x c, RS RE sz μ x c → ∀ u ∈ c, u.oneCell' = true := by
  rintro x c ⟨v, rfl, hw⟩ u hu
  obtain ⟨_, hs⟩ := Slc.sv hw
  simp at hu
  subst hu
  exact one_sl hs

/-! ### Elements of rows, written in part -/
section
variable {α : Type} {RE : α → List Value → Prop} {sz : Nat}
theorem Els.set {xs : List α} {cs : List Value} (h : Els RE sz xs cs) {i : Nat} {x : α} (hx : xs[i]? = some x) {y : α} {d : List Value} (hy : RE y d) (hd : d.length = sz) :
    ∃ A c B, cs = A ++ (c ++ B) ∧ A.length = i * sz ∧ c.length = sz ∧ RE x c ∧ Els RE sz (xs.set i y) (A ++ (d ++ B)) := by
  induction h generalizing i with
  | nil => simp at hx
  | @cons z c cs zs h1 h2 h3 ih =>
    cases i with
    | zero =>
      have : z = x := by simpa using hx
      subst this
      exact ⟨[], c, cs, rfl, by simp, h2, h1, Els.cons (c := d) hy hd h3⟩
    | succ i =>
      obtain ⟨A, c', B, e, hA, hc, hr, hE⟩ := ih (by simpa using hx)
      refine ⟨c ++ A, c', B, by rw [e, List.append_assoc], by rw [List.length_append, h2, hA, Nat.add_mul, Nat.one_mul, Nat.add_comm], hc, hr, ?_⟩
      rw [List.set_cons_succ, List.append_assoc]
      exact Els.cons (c := c) h1 h2 hE
end
section
variable {P : Program} {Q : Exit → AW} {ops : Array Oper} {rest : List Oper} {W0 : World} {md : List Nat} {μ0 μ : Store} {its : List It} {w : World} {a : Act} {n : Nat} {L : List (Nat × Value)} {dst : Option Nat} {d : Nat} {ty t T e : TypeId} {pos : String} {aft : Array Edge} {gd : Option (Nat × Bool)} {x y : Operand} {v u : Value} {g o sz m : Nat}
/-- A store into a part of a row. -/
theorem o_rstA {j mm : Nat} (A B B' C : List Value) {cs : List Value} (hcs : cs = A ++ (B ++ C)) (hs0 : (P.info? t).map (·.size) = some mm) (hs1 : B'.length = mm) (hB : B'.length = B.length) (h1 : ∀ c ∈ B', c.oneCell' = true)
    (hI : Iv W0 md μ0 μ its w) (hj : its[j]? = some (row T sz v m cs)) (hA : Fr a n L) (hx : ov L x = some (.pointer (some ⟨sb v, o, none⟩))) (hy : ov L y = some u) (hc : u.cells = B'.toArray) (ho : so v + A.length = o) (hm : 0 < m)
    (k : ∀ w, Iv W0 md μ0 μ (its.set j (row T sz v m (A ++ (B' ++ C)))) w → wpList P ops Q rest a w) : wpList P ops Q (⟨none, .store t x y, ty, pos, aft, none⟩ :: rest) a w := by
  subst hcs
  have hown := hI.row_ok hj
  have hlen := hown.1
  rcases hown.2 with ⟨rfl, h0⟩ | ⟨g, cap, cur, rfl, hb, hg, hnc, hcm, hcsz, htake⟩
  · omega
  · have ho' : A.length = o := by simpa [so] using ho
    have hcur : cur = (A ++ (B ++ (C ++ cur.toList.drop (A ++ (B ++ C)).length)) : List Value).toArray := by
      have e1 : cur.toList = (A ++ (B ++ C)) ++ cur.toList.drop (A ++ (B ++ C)).length := by
        have := List.take_append_drop (A ++ (B ++ C)).length cur.toList
        rw [hlen, htake] at this
        rw [hlen]
        exact this.symm
      apply Array.ext'
      rw [List.toList_toArray]
      conv => lhs; rw [e1]
      simp only [List.append_assoc]
    generalize cur.toList.drop (A ++ (B ++ C)).length = D at hcur
    subst hcur
    have hst : (storeVar t ⟨g, o, none⟩ u).run P w = .ok () (w.setRow g (A ++ (B' ++ (C ++ D))).toArray) := by
      subst ho'
      exact run_storeVar_row (P := P) (hs0.trans (congrArg some hs1.symm)) hB hc h1 hg
    have hglt : g < w.heap.size := (Array.getElem?_eq_some_iff.1 hg).1
    have hpre : (A ++ (B' ++ C)).length = (A ++ (B ++ C)).length := by simp [hB]
    refine wpl_skip (w' := w.setRow g (A ++ (B' ++ (C ++ D))).toArray) ?_ (k _ (hI.upd j _ _ hj rfl rfl rfl (by simp) (fun i _ hi => setRow_other w g i _ (by simpa [row, Value.ownBlock] using hi)) (fun g' hg' => .inl (by simpa [row, Value.ownBlock] using hg')) (fun g' hg' => ?_) (by simp [row, Value.ownBlock]) ?_))
    · simp [execOp, hA.ev hx, hA.ev hy, Instr.storeAt, Instr.sureAddr, sb, hst]
    · have : g' = g := by simpa [row, Value.ownBlock] using hg'
      subst this
      simpa using hglt
    · refine ⟨by rw [hpre]; exact hlen, .inr ⟨g, cap, _, rfl, hb, setRow_heap w g _ _ T _ hg, hnc, hcm, ?_, ?_⟩⟩
      · rw [← hcsz]; simp [hB]
      · have e2 : A ++ (B' ++ (C ++ D)) = (A ++ (B' ++ C)) ++ D := by simp only [List.append_assoc]
        rw [e2, List.toList_toArray, ← hlen, ← hpre]
        exact List.take_left
/-- A load out of an element of a row. -/
theorem r_rldm1 {k0 : TypeDesc} {j : Nat} {cs : List Value} (A C : List Value) (hcs : cs = A ++ ([u] ++ C)) (hu : P.underlying t = some k0) (hd : isAggD k0 = false) (hI : Iv W0 md μ0 μ its w) (hj : its[j]? = some (row T sz v m cs)) (hA : Fr a n L) (hx : ov L x = some (.pointer (some ⟨sb v, o, none⟩))) (ho : so v + A.length = o) :
    (execOp a.eval ⟨dst, .load t x, ty, pos, aft, gd⟩).run P w = .ok (.value u) w := by
  subst hcs
  exact r_rld1 (q := A.length) hu hd hI hj (by simp) hA hx ho

/-! ### Results -/
inductive ResIs (P : Program) (w : World) (L : List (Nat × Value)) : List ResultVar → List Value → Prop
  | nil : ResIs P w L [] []
  | tmp {t : Nat} {v : Value} {rs : List ResultVar} {vs : List Value} (h : lk L t = some v) (hs : ResIs P w L rs vs) : ResIs P w L (.tmp t :: rs) (v :: vs)
  | cell {t T : Nat} {ad : Addr} {v : Value} {rs : List ResultVar} {vs : List Value} (h : lk L t = some (.pointer (some ad))) (hl : (loadVar T ad).run P w = .ok v w) (hs : ResIs P w L rs vs) : ResIs P w L (.cell t T :: rs) (v :: vs)
theorem getDs {xs : Array Value} {i : Nat} {v d : Value} (h : xs[i]? = some v) : xs.getD i d = v := by simp [Array.getD_eq_getD_getElem?, h]
def resOf (tmps : Array Value) : ResultVar → Sem Value
  | .tmp t => pure (tmps.getD t undef)
  | .cell a t => do loadVar t (← asAddr (tmps.getD a undef))
theorem resM (hA : Fr a n L) {rs : List ResultVar} {vs : List Value} (h : ResIs P w L rs vs) : (rs.mapM (resOf a.tmps)).run P w = .ok vs w := by
  induction h with
  | nil => simp
  | tmp h _ ih =>
    have h1 := hA.g _ _ h
    have e := getDs (d := undef) h1
    simp only [List.mapM_cons, Sem.run_bind, resOf, e, Sem.run_pure, Result.andThen_ok, ih]
  | cell h hl _ ih =>
    have h1 := hA.g _ _ h
    have e := getDs (d := undef) h1
    have ea : ∀ ad : Addr, (asAddr (Value.pointer (some ad))).run P w = .ok ad w := fun _ => rfl
    rw [List.mapM_cons, Sem.run_bind]
    simp only [resOf]
    rw [Sem.run_bind, e, ea, Result.andThen_ok, hl, Result.andThen_ok, Sem.run_bind, ih]
    rfl
theorem retN {fn : Func} {Post : Ending → World → Prop} {rs : List ResultVar} {v1 v2 : Value} {vs : List Value} (hA : Fr a n L) (hr : fn.results = rs.toArray) (h : ResIs P w L rs (v1 :: v2 :: vs)) (hp : Post (.returned (.tuple (v1 :: v2 :: vs).toArray)) w) : RetP P fn Post a w := by
  refine ⟨hA.d, _, ?_, hp⟩
  have h2 := resM hA h
  have e : (fn.results.mapM (resOf a.tmps)).run P w = .ok (v1 :: v2 :: vs).toArray w := by
    rw [hr, List.mapM_toArray, Sem.run_map, h2]
    rfl
  show Sem.run P (do let vs ← fn.results.mapM (resOf a.tmps); pure (if h : vs.size = 1 then vs[0] else .tuple vs)) w = _
  rw [Sem.run_bind, e]
  rfl
theorem cell_ld {k0 : TypeDesc} {j mm : Nat} {chs : List (List Value)} (hu : P.underlying t = some k0) (hd : isAggD k0 = true) (hs0 : (P.info? t).map (·.size) = some mm) (hs1 : chs.flatten.length = mm) (hI : Iv W0 md μ0 μ its w) (hj : its[j]? = some (cel g chs T)) :
    (loadVar t ⟨g, 0, none⟩).run P w = .ok (.agg chs.flatten.toArray) w := by
  have hg := hI.cel_ok hj
  exact run_loadVar_agg (P := P) (w := w) hu hd (hs0.trans (congrArg some hs1.symm)) ⟨g, 0, none⟩ (fun j u hu => by
    rw [add_eq]
    simp only [World.cell?, hg, Nat.zero_add]
    simpa using hu)
theorem cell_ld1 {k0 : TypeDesc} {j : Nat} (hu : P.underlying t = some k0) (hd : isAggD k0 = false) (hI : Iv W0 md μ0 μ its w) (hj : its[j]? = some (cel g [[v]] T)) :
    (loadVar t ⟨g, 0, none⟩).run P w = .ok v w := by
  have hg := hI.cel_ok hj
  exact run_loadVar_one (P := P) hu hd _ (by simp [World.cell?, hg])

end
end Go.Proofs.Ytnbnnphlffhgiaa.K
