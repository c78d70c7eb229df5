/- Proved: the statement BestGoes, as given (its conditions are those of the given row, and card where there is one; no others): the call ends, with true, and the input reads as it did. This file is one of its parts. -/
import Derived.Test.YtdngkgkkblfcjaaDoorPBestGoes1
import Derived.Shelf.SlSortCmp.NoneTotal
import Derived.LaidEql
import Derived.Test.YtdngkgkkblfcjaaDoorProg
namespace Go.Proofs.YtdngkgkkblfcjaaDoor.K
open Go Go.Shelf Go.Sort
set_option linter.unusedVariables false
set_option linter.unusedSectionVars false
theorem ci_neg : ∀ a b : List Int, cmpI b a = - cmpI a b
  | [], [] => rfl
  | [], _ :: _ => rfl
  | _ :: _, [] => rfl
  | x :: a, y :: b => by
    simp only [cmpI]
    by_cases h : x < y
    · rw [if_pos h, if_neg (by omega), if_pos h]; rfl
    · by_cases h2 : y < x
      · rw [if_pos h2, if_neg h, if_pos h2]
      · rw [if_neg h2, if_neg h, if_neg h, if_neg h2, ci_neg a b]
theorem ci_zero : ∀ a b : List Int, cmpI a b = 0 → a = b
  | [], [], _ => rfl
  | [], _ :: _, h => by simp [cmpI] at h
  | _ :: _, [], h => by simp [cmpI] at h
  | x :: a, y :: b, h => by
    simp only [cmpI] at h
    by_cases h1 : x < y
    · rw [if_pos h1] at h; omega
    · rw [if_neg h1] at h
      by_cases h2 : y < x
      · rw [if_pos h2] at h; omega
      · rw [if_neg h2] at h
        rw [ci_zero a b h, show x = y by omega]
theorem ci_trans : ∀ a b c : List Int, cmpI a b < 0 → cmpI b c < 0 → cmpI a c < 0
  | [], [], _, h, _ => by simp [cmpI] at h
  | _, _ :: _, [], _, h => by simp [cmpI] at h
  | [], _ :: _, _ :: _, _, _ => by simp [cmpI]
  | _ :: _, [], _, h, _ => by simp [cmpI] at h
  | x :: a, y :: b, z :: c, h1, h2 => by
    simp only [cmpI] at h1 h2 ⊢
    by_cases p1 : x < y
    · by_cases p2 : y < z
      · rw [if_pos (by omega)]; omega
      · rw [if_neg p2] at h2
        by_cases p3 : z < y
        · rw [if_pos p3] at h2; omega
        · rw [if_pos (by omega)]; omega
    · rw [if_neg p1] at h1
      by_cases q1 : y < x
      · rw [if_pos q1] at h1; omega
      · rw [if_neg q1] at h1
        by_cases p2 : y < z
        · rw [if_pos (by omega)]; omega
        · rw [if_neg p2] at h2
          by_cases p3 : z < y
          · rw [if_pos p3] at h2; omega
          · rw [if_neg p3] at h2
            rw [if_neg (by omega), if_neg (by omega)]
            exact ci_trans a b c h1 h2
section
variable {α : Type} [Inhabited α] {enc : α → List Value} {k : Nat}
theorem flat_get (hk : ∀ x, (enc x).length = k) : ∀ (l : List α) (t : Nat), t < l.length * k → (l.flatMap enc)[t]? = some ((enc (l.getD (t / k) default))[t % k]!)
  | [], t, h => by simp at h
  | x :: l, t, h => by
    rw [List.flatMap_cons]
    rcases Nat.lt_or_ge t k with h1 | h1
    · rw [List.getElem?_append_left (by rw [hk]; exact h1), Nat.div_eq_of_lt h1, Nat.mod_eq_of_lt h1]
      have : t < (enc x).length := by rw [hk]; exact h1
      simp [this]
    · have h2 : t - k < l.length * k := by
        simp only [List.length_cons, Nat.add_mul, Nat.one_mul] at h
        omega
      have hk0 : 0 < k := by
        rcases Nat.eq_zero_or_pos k with e | e
        · subst e; simp at h2
        · exact e
      rw [List.getElem?_append_right (by rw [hk]; exact h1), hk, flat_get hk l (t - k) h2]
      have e1 : t / k = (t - k) / k + 1 := by
        rw [← Nat.add_div_right (t - k) hk0]
        congr 1
        omega
      have e2 : t % k = (t - k) % k := by rw [Nat.mod_eq_sub_mod h1]
      rw [e1, e2]
      rfl
theorem flat_len (hk : ∀ x, (enc x).length = k) (l : List α) : (l.flatMap enc).length = l.length * k := by
  induction l with
  | nil => simp
  | cons x l ih => rw [List.flatMap_cons, List.length_append, hk, ih, List.length_cons, Nat.add_mul, Nat.one_mul, Nat.add_comm]
theorem flatK_list (hk : ∀ x, (enc x).length = k) (d : Array α) : (flatK enc k d).toList = d.toList.flatMap enc := by
  apply List.ext_getElem?
  intro t
  rcases Nat.lt_or_ge t (d.size * k) with h | h
  · rw [flat_get hk d.toList t (by simpa using h)]
    have h1 := get_flatK enc k d t h
    have h2 : t < (flatK enc k d).size := by rw [size_flatK]; exact h
    rw [getElem!_pos _ t h2] at h1
    rw [Array.getElem?_toList, Array.getElem?_eq_getElem h2, h1]
    congr 3
    have h3 : t / k < d.size := by
      have hk0 : 0 < k := by
        rcases Nat.eq_zero_or_pos k with e | e
        · subst e; simp at h
        · exact e
      exact (Nat.div_lt_iff_lt_mul hk0).2 h
    rw [getElem!_pos d _ h3]
    simp [List.getD, h3]
  · rw [List.getElem?_eq_none (by rw [Array.length_toList, size_flatK]; exact h), List.getElem?_eq_none (by rw [flat_len hk]; simpa using h)]
variable {μ : Store} {w0 : World} {e : TypeId} {g cap : Nat} {cur : Array Value} {d d' : Array α}
theorem holds_row (hk : ∀ x, (enc x).length = k) (hg : w0.heap[g]? = some (.cells cur e (0, 0))) (hc : cur.toList.take (d.size * k) = d.toList.flatMap enc) : HoldsK enc k w0 g 0 d := by
  intro j hj
  rw [size_flatK] at hj
  have h1 : (d.toList.flatMap enc)[j]? = some (flatK enc k d)[j]! := by
    rw [← flatK_list hk]
    have h2 : j < (flatK enc k d).size := by rw [size_flatK]; exact hj
    rw [getElem!_pos _ j h2, Array.getElem?_toList, Array.getElem?_eq_getElem h2]
  rw [← hc, List.getElem?_take, if_pos hj, Array.getElem?_toList] at h1
  constructor
  · simp [World.cell?, hg, h1]
  · simp [World.frozen?, hg]
theorem row_sorted (hμ : Agr μ w0) (hk : ∀ x, (enc x).length = k) (hg : w0.heap[g]? = some (.cells cur e (0, 0))) (hn : d.size ≤ cap) (hcm : cap ≤ maxLen) (hcs : cur.size = cap * k) (hd : d'.size = d.size) (hgs : g < w0.heap.size) (hmu : μ g = none) (m : Nat) (os : Array Obj) (cs : List Value) (nn : Nat) (hnn : nn = d.size) :
    Iv w0 (row e k (.slice (some ⟨g, 0, none⟩) nn cap) nn cs).foot μ μ [row e k (.slice (some ⟨g, 0, none⟩) nn cap) nn (d'.toList.flatMap enc)] (sortWorldK enc k w0 g 0 m d' os) := by
  subst hnn
  have hdk : d.size * k ≤ cap * k := Nat.mul_le_mul_right _ hn
  have hheap : ∀ j, j ≠ g → j < w0.heap.size → (sortWorldK enc k w0 g 0 m d' os).heap[j]? = w0.heap[j]? := fun j hj hjs => by
    show (((putRow id (Go.Sort.ahead w0 m) g 0 (flatK enc k d')).heap) ++ os)[j]? = _
    rw [Array.getElem?_append_left (by show j < (w0.heap.modify g _).size; simpa using hjs)]
    show (w0.heap.modify g _)[j]? = _
    rw [Array.getElem?_modify, if_neg (fun e => hj e.symm)]
  have hself : (sortWorldK enc k w0 g 0 m d' os).heap[g]? = some (.cells (putCells id 0 (flatK enc k d') cur) e (0, 0)) := by
    show (((putRow id (Go.Sort.ahead w0 m) g 0 (flatK enc k d')).heap) ++ os)[g]? = _
    rw [Array.getElem?_append_left (by show g < (w0.heap.modify g _).size; simpa using hgs)]
    show (w0.heap.modify g _)[g]? = _
    rw [Array.getElem?_modify, if_pos rfl, hg]
    rfl
  have hsize : (sortWorldK enc k w0 g 0 m d' os).heap.size = w0.heap.size + os.size := by
    show ((w0.heap.modify g _) ++ os).size = _
    simp
  have hfoot : ∀ cs, (row e k (.slice (some ⟨g, 0, none⟩) d.size cap) d.size cs).foot = [g] := fun cs => rfl
  refine ⟨rfl, rfl, rfl, by rw [hsize]; omega, fun j hj hm => hheap j (fun e => hm (by rw [hfoot, e]; simp)) hj, Store.le.refl _, fun j o ho => ?_, fun j o ho => .inl ho, by simp [hfoot], fun i hi => ?_⟩
  · have hj := hμ j o ho
    rw [hheap j (fun e => by rw [e, hmu] at ho; cases ho) (Array.getElem?_eq_some_iff.1 hj).1]
    exact hj
  · obtain rfl := List.mem_singleton.1 hi
    refine ⟨⟨by rw [flat_len hk, Array.length_toList, hd], .inr ⟨g, cap, _, rfl, Nat.zero_le _, hself, hn, hcm, by simp [putCells, hcs], ?_⟩⟩, fun x hx => ?_⟩
    · rw [← flatK_list hk]
      apply List.ext_getElem?
      intro t
      rw [List.getElem?_take]
      by_cases ht : t < d.size * k
      · rw [if_pos ht, Array.getElem?_toList, Array.getElem?_toList]
        have h1 : t < cur.size := by rw [hcs]; omega
        have h2 : t < (flatK enc k d').size := by rw [size_flatK, hd]; exact ht
        simp only [putCells, Array.getElem?_mapIdx, Array.getElem?_eq_getElem h1, Option.map_some, Nat.zero_le, true_and, Nat.zero_add, Nat.sub_zero]
        rw [if_pos h2, Array.getElem?_eq_getElem h2, getElem!_pos _ t h2]
        rfl
      · rw [if_neg ht, List.getElem?_eq_none (by rw [Array.length_toList, size_flatK, hd]; omega)]
    · rw [hfoot] at hx
      obtain rfl := List.mem_singleton.1 hx
      exact ⟨by rw [hsize]; omega, hmu, .inr (by rw [hfoot]; simp)⟩
end
abbrev H32 := {x : List Int // Arr .u8 32 x}
instance : Inhabited H32 := ⟨⟨List.replicate 32 0, arr_zero _ _⟩⟩
def henc (x : H32) : List Value := av .u8 32 x.1
def hcf (x y : H32) : Int := cmpI x.1 y.1
def hle (x y : List Int) : Bool := !decide (cmpI y x < 0)
def hsort (l : List (List Int)) : List (List Int) := l.mergeSort hle
theorem henc_len (x : H32) : (henc x).length = 32 := av_len _ _ _
theorem hcf_swo : SWO (ltOf hcf) where
  irrefl x := by
    have : cmpI x.1 x.1 = 0 := by have := ci_neg x.1 x.1; omega
    simp [ltOf, hcf, this]
  trans x y z h1 h2 := by
    exact decide_eq_true (ci_trans _ _ _ (of_decide_eq_true h1) (of_decide_eq_true h2))
  ntrans x y z h1 h2 := by
    have h1 := of_decide_eq_false h1
    have h2 := of_decide_eq_false h2
    refine decide_eq_false fun h3 => ?_
    simp only [hcf] at h1 h2 h3
    have a := ci_neg x.1 y.1
    have b := ci_neg y.1 z.1
    rcases Int.lt_trichotomy (cmpI y.1 x.1) 0 with c | c | c
    · have := ci_trans _ _ _ c h3; omega
    · rw [ci_zero _ _ c] at h2; omega
    · omega
theorem hcf_total (x y : H32) (h1 : ltOf hcf x y = false) (h2 : ltOf hcf y x = false) : x = y := by
  have h1 := of_decide_eq_false h1
  have h2 := of_decide_eq_false h2
  simp only [hcf] at h1 h2
  have a := ci_neg x.1 y.1
  exact Subtype.ext (ci_zero _ _ (by omega))
theorem els_h32 : ∀ {xs : List (List Int)} {cs : List Value}, Els (RA .u8 32) 32 xs cs → ∃ d : List H32, d.map (·.1) = xs ∧ cs = d.flatMap henc
  | _, _, .nil => ⟨[], rfl, rfl⟩
  | _, _, .cons (x := x) ha hl h => by
    obtain ⟨d, h1, h2⟩ := els_h32 h
    exact ⟨⟨x, ha.2⟩ :: d, by simp [h1], by
      have h3 := ha.1
      rw [List.flatMap_cons, ← h2]
      congr 1
      first | done | (rw [h3]; simp [henc])⟩
theorem h32_els : ∀ (d : List H32), Els (RA .u8 32) 32 (d.map (·.1)) (d.flatMap henc)
  | [] => .nil
  | x :: d => by
    rw [List.flatMap_cons, List.map_cons]
    exact .cons ⟨by simp [henc], x.2⟩ (henc_len x) (h32_els d)
theorem hsort_map (d : List H32) : (d.mergeSort fun x y => !ltOf hcf y x).map (·.1) = hsort (d.map (·.1)) := by
  unfold hsort
  exact List.map_mergeSort fun a _ b _ => rfl
theorem sort_hash {P : Program} {ρ : Ren} (L : SlLaysF0.n6 P ρ) (aE : ∀ w, (isAgg (ρ.t 24)).run P w = .ok true w) (zE : ∀ w, (Go.sizeOf (ρ.t 24)).run P w = .ok 32 w) (g : Nat) (eg : ∀ args w, (callFunc g args).run P w = .ok (.enter g args) w)
    (hC : ∀ (x y : H32) (W : World), Calls P g #[.agg (henc x).toArray, .agg (henc y).toArray] W fun e w' => e = .returned (.int .i64 (hcf x y)) ∧ ∃ q os', w' = grow (W.drewN q) os')
    {e : TypeId} {μ : Store} {w0 : World} (hμ : Agr μ w0) {x0 : List (List Int)} {u0 : Value} {k0 : List Value} (hx0 : Els (RA .u8 32) 32 x0 k0) (ho0 : RowOK μ w0 e 32 u0 x0.length k0) (hl : x0.length ≤ 4398046511104) :
    Calls P (ρ.f 6) #[u0, .func (.func g) #[] #[]] w0 fun e' w' => ∃ v, e' = .returned v ∧ ∃ (c0 : List Value), v = .tuple #[] ∧ Els (RA .u8 32) 32 (hsort x0) c0 ∧ Iv w0 (row e 32 u0 x0.length k0).foot μ μ [row e 32 u0 (hsort x0).length c0] w' := by
  obtain ⟨d, rfl, rfl⟩ := els_h32 hx0
  have hlen : (hsort (d.map (·.1))).length = (d.map (·.1)).length := by simp [hsort]
  rcases ho0.1.2 with ⟨rfl, hn⟩ | ⟨b, cap, cur, rfl, _, hg, hn, hcm, hcs, htk⟩
  · obtain rfl : d = [] := by simpa using hn
    refine (AnyF.slices_SortFunc_none L none 0 _ w0).mono fun e' w' h => ?_
    obtain ⟨rfl, rfl⟩ := h
    exact ⟨_, rfl, [], rfl, by simpa [hsort] using Els.nil, by simpa [hsort] using ho0.start hμ⟩
  · have hb := ho0.2.2 b (by simp [row, Value.ownBlock])
    have hz : d.toArray.size = d.length := by simp
    have hh : HoldsK henc 32 w0 b 0 d.toArray := holds_row henc_len hg (by simpa using htk)
    have := AnyQ.slices_SortFunc_total L 32 aE zE henc henc_len (fun x => one_av _ _ _) hcf hcf_swo g #[] b 0 cap d.toArray w0 eg (fun m os dk hs x y => by simpa using hC x y _) hh hb.1 (by simp at hl ⊢; omega) hcf_total
    rw [hz] at this
    have e1 : (d.map (·.1)).length = d.length := by simp
    rw [e1]
    refine this.mono fun e' w' h => ?_
    obtain ⟨rfl, m, os, rfl⟩ := h
    refine ⟨_, rfl, (d.mergeSort fun x y => !ltOf hcf y x).flatMap henc, rfl, ?_, ?_⟩
    · rw [← hsort_map]; exact h32_els _
    · rw [hlen, e1]
      exact row_sorted (d := d.toArray) (d' := (d.mergeSort fun x y => !ltOf hcf y x).toArray) hμ henc_len hg (by simpa using hn) hcm hcs (by simp) hb.1 hb.2 m os _ d.length (by simp)
def Gw (W0 w : World) : Prop := ∃ (q : Nat) (os : Array Obj), w = grow (W0.drewN q) os
theorem Gw.refl (w : World) : Gw w w := ⟨0, #[], by rw [grow_empty]; rfl⟩
theorem Gw.alloc {W0 w : World} (h : Gw W0 w) (o : Obj) : Gw W0 (w.alloc o) := by
  obtain ⟨q, os, rfl⟩ := h
  exact ⟨q, os ++ #[o], by rw [alloc_eq_grow, grow_grow]⟩
theorem Gw.drew1 {W0 w : World} (h : Gw W0 w) : Gw W0 { w with drawn := w.drawn + 1 } := by
  obtain ⟨q, os, rfl⟩ := h
  exact ⟨q + 1, os, rfl⟩
section
variable {P : Program} {N R : AW} {E : List (Nat × AW)} {Q : Exit → AW} {ops : Array Oper} {rest : List Oper} {W0 : World} {md : List Nat} {μ0 μ : Store} {its : List It} {w : World} {ds : List Deferred} {a : Act} {n : Nat} {L : List (Nat × Value)} {d : Nat} {ty T : TypeId} {pos : String} {aft : Array Edge} {x : Operand} {v : Value}
theorem o_boxG (chs : List (List Value)) (hI : Iv W0 md μ0 μ its w) (hG : Gw W0 w) (hA : FrG ds a n L) (hx : ov L x = some v) (hc : v.cells = chs.flatten.toArray) (hd : Nat.ble (d + 1) n = true)
    (k : ∀ g a w, FrG ds a n ((d, .pointer (some ⟨g, 0, none⟩)) :: L) → Iv W0 md μ0 μ (cel g chs T :: its) w → Gw W0 w → wpList P ops Q rest a w) : wpList P ops Q (⟨some d, .box T x, ty, pos, aft, none⟩ :: rest) a w := by
  have hr : (execOp a.eval ⟨some d, .box T x, ty, pos, aft, none⟩).run P w = .ok (.value (.pointer (some ⟨w.heap.size, 0, none⟩))) (w.alloc (.cells chs.flatten.toArray T)) := by
    simp [execOp, hA.ev hx, Instr.box, newVar, newRow, newObj, hc, Sem.run]
  exact wpl_val hr (k _ _ _ (hA.put hd _) (hI.alloc _ _ rfl (by show _ = _; rw [heap_alloc_new])) (hG.alloc _))
theorem w_drawG {id : Nat} {l : List Oper} (hm : P.follows .mixedOrders = true) (hB : Region.lexB .any l.toArray = true) (hI : Iv W0 md μ0 μ its w) (hG : Gw W0 w)
    (h : wpQuiet P l.toArray (fun w => Iv W0 md μ0 μ its w ∧ Gw W0 w) (fun a => ∀ w, Iv W0 md μ0 μ its w ∧ Gw W0 w → N a w) l a) : (Code.region id l.toArray true).wp P (PQ N E R) a w :=
  wp_region_quiet (C := fun w => Iv W0 md μ0 μ its w ∧ Gw W0 w) hm hB ⟨hI.drew1, hG.drew1⟩ h
end
end Go.Proofs.YtdngkgkkblfcjaaDoor.K
namespace Go.Proofs.YtdngkgkkblfcjaaDoor.K
open Go
set_option linter.unusedVariables false
def Rch (P : Program) (T : TypeId) (rv : Value) (name : String) (f : Nat) : Prop := ∀ w, (method (P.types.size + Made.depth) T rv name).run P w = .ok (f, rv) w
section
variable {P : Program} {W0 : World} {md : List Nat} {μ0 μ : Store} {its : List It} {w : World} {ds : List Deferred} {a : Act} {n : Nat} {L : List (Nat × Value)} {dst : Option Nat} {ty T : TypeId} {pos : String} {aft : Array Edge} {gd : Option (Nat × Bool)} {v rv : Value} {name : String} {f : Nat}
theorem run_calli {c : Operand} {xs : List Operand} {vs : List Value} {ats : Array TypeId} (hf : CalleeF P f) (hr : Rch P T rv name f) (hA : FrG ds a n L) (hc : ov L c = some (.iface T rv)) (hv : ovs L xs = some vs) :
    (execOp a.eval ⟨dst, .call { callee := .invoke c name, args := xs.toArray, argTypes := ats }, ty, pos, aft, gd⟩).run P w = .ok (.enter f (rv :: vs).toArray) w := by
  obtain ⟨fn, h1, h2, h3⟩ := hf
  have h4 := hA.evs hv
  have h5 := hA.ev hc
  have h2' : fn.name ≠ "runtime.NumGoroutine" := by simpa using h2
  have h3' : fn.body ≠ none := fun e => by rw [e] at h3; cases h3
  have h6 := hr w
  simp [execOp, resolve, invoke, callMethod, h4, h5, program, Sem.run] at h6 ⊢
  simp [h6, callFunc, h1, h2', h3', program, Sem.run]
theorem o_calli {Q : Exit → AW} {ops : Array Oper} {rest : List Oper} {c : Operand} {d : Nat} {xs : List Operand} {vs : List Value} {ats : Array TypeId} (Z : Value → World → Prop) (hf : CalleeF P f) (hr : Rch P T rv name f) (hA : FrG ds a n L) (hc : ov L c = some (.iface T rv)) (hv : ovs L xs = some vs)
    (hcl : Calls P f (rv :: vs).toArray w fun e w' => ∃ v, e = .returned v ∧ Z v w') (hd : Nat.ble (d + 1) n = true) (k : ∀ v a w', Z v w' → FrG ds a n ((d, v) :: L) → wpList P ops Q rest a w') :
    wpList P ops Q (⟨some d, .call { callee := .invoke c name, args := xs.toArray, argTypes := ats }, ty, pos, aft, none⟩ :: rest) a w :=
  wpList_plain rfl fun K hK => by
    unfold Oper.wp
    rw [run_calli hf hr hA hc hv]
    exact hcl.mono fun e w' ⟨v, he, hz⟩ => by subst he; exact hK _ _ (k v _ _ hz (hA.put hd v))
end
end Go.Proofs.YtdngkgkkblfcjaaDoor.K
namespace Go.Proofs.YtdngkgkkblfcjaaDoor.K
open Go
set_option linter.unusedVariables false
set_option linter.unusedSectionVars false
abbrev NG := Nat × Value × List Value
def pvn {K : Type} (gs : K → NG) : Option K → Value
  | none => .pointer none
  | some k => .pointer (some ⟨(gs k).1, 0, none⟩)
def kl {K N : Type} (m : List (K × N)) : List (K × Option K) := m.map fun p => (p.1, some p.1)
def gup {K : Type} [DecidableEq K] (gs : K → NG) (k : K) (u : NG) : K → NG := fun x => if x = k then u else gs x
section
variable {K N : Type} (NC : N → Value → List (List Value)) (T e sz : Nat) (ln : N → Nat)
def nodI (gs : K → NG) (p : K × N) : List It := [cel (gs p.1).1 (NC p.2 (gs p.1).2.1) T, row e sz (gs p.1).2.1 (ln p.2) (gs p.1).2.2]
def ndI (kv : K → Value) (g : Nat) (m : List (K × N)) (gs : K → NG) : It := many (mpI g (ent kv (pvn gs) (kl m)) :: m.flatMap (nodI NC T e sz ln gs))
def ndR [DecidableEq K] (kv : K → Value) (g : Nat) (m : List (K × N)) (gs : K → NG) (k : K) : It := many (mpI g (ent kv (pvn gs) (kl m)) :: (m.filter fun p => decide (p.1 ≠ k)).flatMap (nodI NC T e sz ln gs))
end
section
variable {W0 : World} {md : List Nat} {μ0 μ μ' : Store} {its its1 its2 : List It} {w : World}
theorem Iv.perm (h : Iv W0 md μ0 μ its w) (hp : its.Perm its2) : Iv W0 md μ0 μ its2 w :=
  ⟨h.os, h.tape, h.out, h.size, h.frame, h.le, h.agr, h.fresh, (hp.flatMap_right _).nodup_iff.1 h.nodup, fun i hi => h.own i (hp.mem_iff.2 hi)⟩
variable {K N : Type} [DecidableEq K] {kv : K → Value} {g : Nat} {m : List (K × N)} {gs : K → NG} {k : K} {n n' : N} {NC : N → Value → List (List Value)} {T e sz : Nat} {ln : N → Nat}
theorem mget_perm : ∀ {m : List (K × N)}, (m.map (·.1)).Nodup → mget m k = some n → m.Perm ((k, n) :: m.filter fun p => decide (p.1 ≠ k))
  | [], _, h => by simp [mget] at h
  | p :: m, hn, h => by
    simp only [List.map_cons, List.nodup_cons] at hn
    unfold mget at h
    split at h
    · rename_i e1
      obtain ⟨p1, p2⟩ := p
      simp only at e1; subst e1
      cases h
      have : (m.filter fun q => decide (q.1 ≠ p1)) = m := List.filter_eq_self.2 fun q hq => by
        have : q.1 ≠ p1 := fun e => hn.1 (List.mem_map.2 ⟨q, hq, e⟩)
        simpa using this
      rw [List.filter_cons_of_neg (by simp), this]
    · rename_i e1
      rw [List.filter_cons_of_pos (by simpa using e1)]
      exact ((mget_perm hn.2 h).cons p).trans (List.Perm.swap ..)
theorem mput_filter : ∀ {m : List (K × N)}, ((mput m k n).filter fun p => decide (p.1 ≠ k)) = m.filter fun p => decide (p.1 ≠ k)
  | [] => by simp [mput]
  | p :: m => by
    unfold mput
    split
    · rename_i e1; simp [e1]
    · rename_i e1
      rw [List.filter_cons_of_pos (by simpa using e1), List.filter_cons_of_pos (by simpa using e1), mput_filter]
theorem mget_mput_self : ∀ {m : List (K × N)}, mget (mput m k n) k = some n
  | [] => by simp [mput, mget]
  | p :: m => by
    unfold mput
    split
    · simp [mget]
    · rename_i e1; simp [mget, e1, mget_mput_self]
theorem mput_map1 : ∀ {m : List (K × N)}, mget m k = some n → (mput m k n').map (·.1) = m.map (·.1)
  | [], h => by simp [mget] at h
  | p :: m, h => by
    unfold mget at h
    unfold mput
    split at h
    · rename_i e1; simp [e1]
    · rename_i e1; rw [if_neg e1]; simp [mput_map1 h]
theorem kl_map {m m' : List (K × N)} (h : m'.map (·.1) = m.map (·.1)) : kl m' = kl m := by
  have : ∀ m : List (K × N), kl m = (m.map (·.1)).map fun k => (k, some k) := fun m => by simp [kl, List.map_map, Function.comp_def]
  rw [this, this, h]
theorem kl_mput : ∀ {m : List (K × N)}, kl (mput m k n) = mput (kl m) k (some k)
  | [] => by simp [kl, mput]
  | p :: m => by
    unfold mput
    simp only [kl, List.map_cons]
    split
    · rfl
    · rw [List.map_cons]; exact congrArg _ kl_mput
theorem mget_kl : ∀ {m : List (K × N)}, mget (kl m) k = (mget m k).map fun _ => some k
  | [] => by simp [kl, mget]
  | p :: m => by
    simp only [kl, List.map_cons, mget]
    split
    · rename_i e1; simp [e1]
    · exact mget_kl
theorem mget_ne {m : List (K × N)} (h : mget m k = none) : ∀ p ∈ m, p.1 ≠ k := by
  induction m with
  | nil => simp
  | cons p m ih =>
    unfold mget at h
    split at h
    · cases h
    · rename_i e1
      intro q hq
      rcases List.mem_cons.1 hq with rfl | hq
      · exact e1
      · exact ih h q hq
theorem mem_of_mget {m : List (K × N)} (h : mget m k = some n) : (k, n) ∈ m := by
  induction m with
  | nil => simp [mget] at h
  | cons p m ih =>
    unfold mget at h
    split at h
    · rename_i e1
      obtain ⟨p1, p2⟩ := p
      simp only at e1; subst e1
      cases h
      simp
    · exact List.mem_cons_of_mem _ (ih h)
theorem nodI_gup {u : NG} {p : K × N} (h : p.1 ≠ k) : nodI NC T e sz ln (gup gs k u) p = nodI NC T e sz ln gs p := by simp [nodI, gup, h]
theorem flat_gup {u : NG} {m : List (K × N)} : (m.filter fun p => decide (p.1 ≠ k)).flatMap (nodI NC T e sz ln (gup gs k u)) = (m.filter fun p => decide (p.1 ≠ k)).flatMap (nodI NC T e sz ln gs) := by
  rw [List.flatMap_def, List.flatMap_def]
  congr 1
  exact List.map_congr_left fun p hp => nodI_gup (by simpa using (List.mem_filter.1 hp).2)
theorem Iv.focus (h : Iv W0 md μ0 μ (ndI NC T e sz ln kv g m gs :: its) w) (hn : (m.map (·.1)).Nodup) (hk : mget m k = some n) :
    Iv W0 md μ0 μ (cel (gs k).1 (NC n (gs k).2.1) T :: row e sz (gs k).2.1 (ln n) (gs k).2.2 :: ndR NC T e sz ln kv g m gs k :: its) w := by
  have h1 := h.unpack
  have hp : (mpI g (ent kv (pvn gs) (kl m)) :: m.flatMap (nodI NC T e sz ln gs) ++ its).Perm ((mpI g (ent kv (pvn gs) (kl m)) :: (m.filter fun p => decide (p.1 ≠ k)).flatMap (nodI NC T e sz ln gs)) ++ ([cel (gs k).1 (NC n (gs k).2.1) T, row e sz (gs k).2.1 (ln n) (gs k).2.2] ++ its)) := by
    have h2 : (m.flatMap (nodI NC T e sz ln gs)).Perm _ := (mget_perm hn hk).flatMap_right _
    rw [List.flatMap_cons] at h2
    have h3 := (h2.trans List.perm_append_comm).append_right its
    rw [List.append_assoc] at h3
    exact h3.cons _
  have h2 := (h1.perm hp).pack
  refine h2.perm ?_
  exact (List.perm_middle (l₁ := [cel (gs k).1 (NC n (gs k).2.1) T, row e sz (gs k).2.1 (ln n) (gs k).2.2])).symm
theorem Iv.unfocus {v : Value} {cs : List Value} (h : Iv W0 md μ0 μ (cel (gs k).1 (NC n' v) T :: row e sz v (ln n') cs :: ndR NC T e sz ln kv g m gs k :: its) w) (hn : (m.map (·.1)).Nodup) (hk : mget m k = some n) :
    Iv W0 md μ0 μ (ndI NC T e sz ln kv g (mput m k n') (gup gs k ((gs k).1, v, cs)) :: its) w := by
  have h1 := h.perm (List.perm_middle (l₁ := [cel (gs k).1 (NC n' v) T, row e sz v (ln n') cs]))
  have h2 := h1.unpack
  refine Iv.pack (h2.perm ?_)
  have hm : (mput m k n').map (·.1) = m.map (·.1) := mput_map1 hk
  have he : ent kv (pvn (gup gs k ((gs k).1, v, cs))) (kl (mput m k n')) = ent kv (pvn gs) (kl m) := by
    rw [kl_map hm]
    simp only [ent]
    refine List.map_congr_left fun p hp => ?_
    obtain ⟨q, hq, rfl⟩ := List.mem_map.1 hp
    simp only [pvn, gup]
    split
    · rename_i e1; rw [e1]
    · rfl
  rw [he]
  have h3 : ((mput m k n').flatMap (nodI NC T e sz ln (gup gs k ((gs k).1, v, cs)))).Perm _ := (mget_perm (by rw [hm]; exact hn) (mget_mput_self (m := m) (n := n'))).flatMap_right _
  rw [List.flatMap_cons, mput_filter, flat_gup] at h3
  have e1 : nodI NC T e sz ln (gup gs k ((gs k).1, v, cs)) (k, n') = [cel (gs k).1 (NC n' v) T, row e sz v (ln n') cs] := by simp [nodI, gup]
  rw [e1] at h3
  have h4 := (h3.trans List.perm_append_comm).append_right its
  rw [List.append_assoc] at h4
  exact (h4.symm.cons _)
end
section
variable {K N : Type} {KW : K → Prop} {kv : K → Value} {P : Program} {NN RR : AW} {E : List (Nat × AW)} {Q : Exit → AW} {ops : Array Oper} {rest : List Oper} {W0 : World} {md : List Nat} {μ0 μ : Store} {its : List It} {w : World} {ds : List Deferred} {a : Act} {n : Nat} {L : List (Nat × Value)} {dst : Option Nat} {ty t kt et : TypeId} {pos : String} {aft : Array Edge} {gd : Option (Nat × Bool)} {x y : Operand} {g : Nat} {m : List (K × N)} {gs : K → NG} {k : K} {nd : N} {d : Nat} {NC : N → Value → List (List Value)} {T e sz : Nat} {ln : N → Nat}
variable [DecidableEq K]
def KM (KW : K → Prop) (m : List (K × N)) : Prop := (∀ p ∈ m, KW p.1) ∧ (m.map (·.1)).Nodup
theorem KM.mw (h : KM KW m) : MW KW (fun _ : Option K => True) (kl m) := by
  refine ⟨fun p hp => ?_, ?_⟩
  · obtain ⟨q, hq, rfl⟩ := List.mem_map.1 hp
    exact ⟨h.1 q hq, trivial⟩
  · have : (kl m).map (·.1) = m.map (·.1) := by simp [kl, List.map_map, Function.comp_def]
    rw [this]; exact h.2
theorem Iv.ndm (hI : Iv W0 md μ0 μ its w) {j : Nat} (hj : its[j]? = some (ndI NC T e sz ln kv g m gs)) : ∃ its', Iv W0 md μ0 μ (mpI g (ent kv (pvn gs) (kl m)) :: its') w := by
  have h1 := (hI.sl [j] (its' := [ndI NC T e sz ln kv g m gs]) (by simp [hj]) (by simp)).unpack (its2 := [])
  exact ⟨_, by simpa using h1⟩
def lkn (m : List (K × N)) (k : K) : Option K := (mget m k).map fun _ => k
theorem lkn_eq : (mget (kl m) k).getD none = lkn m k := by
  rw [mget_kl, lkn]; cases mget m k <;> rfl
theorem r_nlook2 (Nk : KeyN P kt kv KW) (ht : P.underlying t = some (.map kt et)) (hz : (P.info? et).map (·.zero) = some (some (.pointer none))) (hl : KM KW m) (hk : KW k) {j : Nat} (hI : Iv W0 md μ0 μ its w) (hj : its[j]? = some (ndI NC T e sz ln kv g m gs)) (hA : FrG ds a n L) (hx : ov L x = some (.map (some g))) (hy : ov L y = some (kv k)) :
    (execOp a.eval ⟨dst, .lookup t x y true, ty, pos, aft, gd⟩).run P w = .ok (.value (.tuple #[pvn gs (lkn m k), .bool (mget m k).isSome])) w := by
  obtain ⟨its', hI'⟩ := hI.ndm hj
  have := r_look2 (dst := dst) (ty := ty) (pos := pos) (aft := aft) (gd := gd) (vv := pvn gs) (z0 := none) Nk ht hz hl.mw hk (j := 0) hI' rfl hA hx hy
  rw [lkn_eq, mget_kl] at this
  rw [this]
  cases mget m k <;> rfl
theorem r_nlook (Nk : KeyN P kt kv KW) (ht : P.underlying t = some (.map kt et)) (hz : (P.info? et).map (·.zero) = some (some (.pointer none))) (hl : KM KW m) (hk : KW k) {j : Nat} (hI : Iv W0 md μ0 μ its w) (hj : its[j]? = some (ndI NC T e sz ln kv g m gs)) (hA : FrG ds a n L) (hx : ov L x = some (.map (some g))) (hy : ov L y = some (kv k)) :
    (execOp a.eval ⟨dst, .lookup t x y false, ty, pos, aft, gd⟩).run P w = .ok (.value (pvn gs (lkn m k))) w := by
  obtain ⟨its', hI'⟩ := hI.ndm hj
  have := r_look (dst := dst) (ty := ty) (pos := pos) (aft := aft) (gd := gd) (vv := pvn gs) (z0 := none) Nk ht hz hl.mw hk (j := 0) hI' rfl hA hx hy
  rw [lkn_eq] at this
  exact this
theorem r_nlen (ht : P.underlying t = some (.map kt et)) {j : Nat} (hI : Iv W0 md μ0 μ its w) (hj : its[j]? = some (ndI NC T e sz ln kv g m gs)) (hA : FrG ds a n L) (hx : ov L x = some (.map (some g))) :
    (execOp a.eval ⟨dst, .call { callee := .builtin .len, args := #[x], argTypes := #[t] }, ty, pos, aft, gd⟩).run P w = .ok (.value (.int .i64 (m.length : Int))) w := by
  obtain ⟨its', hI'⟩ := hI.ndm hj
  have := r_mlen (dst := dst) (ty := ty) (pos := pos) (aft := aft) (gd := gd) (vv := pvn gs) (l := kl m) ht (j := 0) hI' rfl hA hx
  simpa [kl] using this
def nget (m : List (K × N)) (o : Option K) : Option N := o.bind (mget m)
theorem nget_some {o : Option K} (h : nget m o = some nd) : ∃ k, o = some k ∧ mget m k = some nd := by
  cases o with
  | none => simp [nget] at h
  | some k => exact ⟨k, rfl, h⟩
theorem KM.put (h : KM KW m) (hk : KW k) : KM KW (mput m k nd) := by
  have := MW.put (VW := fun _ : N => True) (v := nd) (l := m) (KW := KW) ⟨fun p hp => ⟨h.1 p hp, trivial⟩, h.2⟩ hk trivial
  exact ⟨fun p hp => (this.1 p hp).1, this.2⟩
theorem mget_mem : ∀ {m : List (K × N)} {p : K × N}, (m.map (·.1)).Nodup → p ∈ m → mget m p.1 = some p.2
  | q :: m, p, hn, h => by
    simp only [List.map_cons, List.nodup_cons] at hn
    unfold mget
    rcases List.mem_cons.1 h with rfl | h
    · simp
    · rw [if_neg fun e => hn.1 (List.mem_map.2 ⟨p, h, e.symm⟩)]
      exact mget_mem hn.2 h
theorem mem_mput {p : K × N} (hn : ((mput m k nd).map (·.1)).Nodup) (h : p ∈ mput m k nd) : p = (k, nd) ∨ (p ∈ m ∧ p.1 ≠ k) := by
  by_cases e1 : p.1 = k
  · have h1 := mget_mem hn h
    rw [e1, mget_mput_self] at h1
    obtain ⟨p1, p2⟩ := p
    simp only at e1; subst e1
    cases h1
    exact .inl rfl
  · have h1 : p ∈ (mput m k nd).filter fun p => decide (p.1 ≠ k) := List.mem_filter.2 ⟨h, by simpa using e1⟩
    rw [mput_filter] at h1
    exact .inr ⟨(List.mem_filter.1 h1).1, e1⟩
theorem gup_ne {u : NG} {k' : K} (h : k' ≠ k) : gup gs k u k' = gs k' := by simp [gup, h]
theorem mget_ne_of {k' : K} {nd' : N} (h : mget m k = none) (h' : mget m k' = some nd') : k' ≠ k := fun e => by rw [e, h] at h'; cases h'
theorem mget_mput_ne {k' : K} (h : k' ≠ k) : ∀ {m : List (K × N)}, mget (mput m k nd) k' = mget m k'
  | [] => by simp only [mput, mget]; rw [if_neg fun e : k = k' => h e.symm]
  | p :: m => by
    unfold mput
    split
    · rename_i e1
      simp only [mget]
      rw [if_neg (fun e : k = k' => h e.symm), if_neg (fun e : p.1 = k' => h (e.symm.trans e1))]
    · simp only [mget, mget_mput_ne h]
def nput (m : List (K × N)) (o : Option K) (n : N) : List (K × N) := match o with
  | none => m
  | some k => mput m k n
def NdW (KW : K → Prop) (NW : N → List Value → Prop) (m : List (K × N)) (gs : K → NG) : Prop := KM KW m ∧ ∀ p ∈ m, NW p.2 (gs p.1).2.2
variable {NW NW' : N → List Value → Prop}
theorem NdW.at (h : NdW KW NW m gs) (hk : mget m k = some nd) : NW nd (gs k).2.2 := h.2 _ (mem_of_mget hk)
theorem NdW.kw (h : NdW KW NW m gs) (hk : mget m k = some nd) : KW k := h.1.1 _ (mem_of_mget hk)
theorem NdW.mono (h : NdW KW NW m gs) (hw : ∀ n cs, NW n cs → NW' n cs) : NdW KW NW' m gs := ⟨h.1, fun p hp => hw _ _ (h.2 p hp)⟩
theorem NdW.put {u : NG} (h : NdW KW NW m gs) (hk : KW k) (hn : NW nd u.2.2) : NdW KW NW (mput m k nd) (gup gs k u) := by
  refine ⟨h.1.put hk, fun p hp => ?_⟩
  rcases mem_mput (h.1.put (nd := nd) hk).2 hp with rfl | ⟨h1, h2⟩
  · simpa [gup] using hn
  · rw [gup_ne h2]; exact h.2 p h1
theorem NdW.nil : NdW KW NW ([] : List (K × N)) gs := ⟨⟨by simp, by simp⟩, by simp⟩
theorem r_nilcN {o : Option K} (ho : o = some k) (hA : FrG ds a n L) (hx : ov L x = some (pvn gs o)) : (execOp a.eval ⟨dst, .nilCheck x, ty, pos, aft, gd⟩).run P w = .ok (.value (.pointer (some ⟨(gs k).1, 0, none⟩))) w := by
  subst ho; exact r_nilc hA hx
theorem o_mknd (kv : K → Value) (NC : N → Value → List (List Value)) (T e sz : Nat) (ln : N → Nat) (hI : Iv W0 md μ0 μ its w) (hA : FrG ds a n L) (hd : Nat.ble (d + 1) n = true)
    (k : ∀ g a w, Iv W0 md μ0 μ (ndI NC T e sz ln kv g [] (fun _ => (0, .pointer none, [])) :: its) w → FrG ds a n ((d, .map (some g)) :: L) → wpList P ops Q rest a w) :
    wpList P ops Q (⟨some d, .makeMap t none, ty, pos, aft, none⟩ :: rest) a w :=
  o_mkmap kv (pvn fun _ => (0, .pointer none, [])) hI hA hd fun g a w hI hA => k g a w (Iv.pack (its1 := [_]) hI) hA
theorem run_nput {v : Value} {cs : List Value} (gn : Nat) (nd : N) (Nk : KeyN P kt kv KW) (ht : P.underlying t = some (.map kt et)) (hl : KM KW m) (hk : KW k) (hno : mget m k = none)
    (hI : Iv W0 md μ0 μ (cel gn (NC nd v) T :: row e sz v (ln nd) cs :: ndI NC T e sz ln kv g m gs :: its) w) :
    ∃ w', (Instr.mapUpdate t (.map (some g)) (kv k) (.pointer (some ⟨gn, 0, none⟩))).run P w = .ok () w' ∧ Iv W0 md μ0 μ (ndI NC T e sz ln kv g (mput m k nd) (gup gs k (gn, v, cs)) :: its) w' := by
  have hne := mget_ne hno
  have he : ent kv (pvn gs) (kl m) = ent kv (pvn (gup gs k (gn, v, cs))) (kl m) := by
    simp only [ent]
    refine List.map_congr_left fun p hp => ?_
    obtain ⟨q, hq, rfl⟩ := List.mem_map.1 hp
    simp [pvn, gup, hne q hq]
  have hfl : (m.filter fun p => decide (p.1 ≠ k)) = m := List.filter_eq_self.2 fun q hq => by simpa using hne q hq
  have hf : m.flatMap (nodI NC T e sz ln gs) = m.flatMap (nodI NC T e sz ln (gup gs k (gn, v, cs))) := by
    have := flat_gup (NC := NC) (T := T) (e := e) (sz := sz) (ln := ln) (gs := gs) (k := k) (u := (gn, v, cs)) (m := m)
    rw [hfl] at this
    exact this.symm
  have h1 := (hI.perm (List.perm_middle (l₁ := [cel gn (NC nd v) T, row e sz v (ln nd) cs]))).unpack
  rw [he, hf] at h1
  obtain ⟨w', h2, h3⟩ := run_mput (v := some k) (P := P) (vv := pvn (gup gs k (gn, v, cs))) Nk ht hl.mw hk (j := 0) h1 rfl
  refine ⟨w', by simpa [pvn, gup] using h2, ?_⟩
  simp only [List.cons_append, List.set_cons_zero] at h3
  rw [← kl_mput (n := nd)] at h3
  refine Iv.pack (h3.perm ?_)
  rw [mput_none hne, List.flatMap_append]
  have e1 : [(k, nd)].flatMap (nodI NC T e sz ln (gup gs k (gn, v, cs))) = [cel gn (NC nd v) T, row e sz v (ln nd) cs] := by simp [nodI, gup]
  rw [e1]
  simp
theorem o_nput {v : Value} {cs : List Value} (gn : Nat) (nd : N) (Nk : KeyN P kt kv KW) (ht : P.underlying t = some (.map kt et)) (hl : KM KW m) (hk : KW k) (hno : mget m k = none)
    (hI : Iv W0 md μ0 μ (cel gn (NC nd v) T :: row e sz v (ln nd) cs :: ndI NC T e sz ln kv g m gs :: its) w) {u : Operand} (hA : FrG ds a n L) (hx : ov L x = some (.map (some g))) (hy : ov L y = some (kv k)) (hu : ov L u = some (.pointer (some ⟨gn, 0, none⟩)))
    (kk : ∀ w, Iv W0 md μ0 μ (ndI NC T e sz ln kv g (mput m k nd) (gup gs k (gn, v, cs)) :: its) w → wpList P ops Q rest a w) :
    wpList P ops Q (⟨none, .mapUpdate t x y u, ty, pos, aft, none⟩ :: rest) a w := by
  obtain ⟨w', h1, h2⟩ := run_nput (P := P) gn nd Nk ht hl hk hno hI
  refine wpl_skip (w' := w') ?_ (by simpa [Act.put] using kk w' h2)
  simp [execOp, hA.ev hx, hA.ev hy, hA.ev hu, h1]
theorem o_nins {v : Value} {cs : List Value} (gn : Nat) (nd : N) (Nk : KeyN P kt kv KW) (ht : P.underlying t = some (.map kt et)) (hl : KM KW m) (hk : KW k) (hno : mget m k = none)
    (hI : Iv W0 md μ0 μ (cel gn (NC nd v) T :: row e sz v (ln nd) cs :: ndI NC T e sz ln kv g m gs :: its) w) {u : Operand} (hA : FrG ds a n L) (hx : ov L x = some (.map (some g))) (hy : ov L y = some (kv k)) (hu : ov L u = some (.pointer (some ⟨gn, 0, none⟩)))
    (kk : ∀ w, Iv W0 md μ0 μ (ndI NC T e sz ln kv g (mput m k nd) (gup gs k (gn, v, cs)) :: its) w → wpList P ops Q rest a w) :
    wpList P ops Q (⟨none, .insert t x y u, ty, pos, aft, none⟩ :: rest) a w := by
  obtain ⟨w', h1, h2⟩ := run_nput (P := P) gn nd Nk ht hl hk hno hI
  refine wpl_skip (w' := w') ?_ (by simpa [Act.put] using kk w' h2)
  simp [execOp, hA.ev hx, hA.ev hy, hA.ev hu, h1]
theorem r_field {fs : Array Field} {f : Field} {A : Array Value} {v : Value} {mm : Nat} (hu : P.underlying t = some (.struct fs)) (hf : fs[mm]? = some f) (hX : ∀ w, (part f.type A f.offset).run P w = .ok v w) (hA : FrG ds a n L) (hx : ov L x = some (.agg A)) :
    (execOp a.eval ⟨dst, .field t x mm, ty, pos, aft, gd⟩).run P w = .ok (.value v) w := by
  simp [execOp, hA.ev hx, Instr.field, run_underlying hu, hf, asAgg, hX]
theorem Iv.unfocusB {b : Nat} {n0 n1 : N} {v : Value} {cs : List Value} {o : Option K} (hb : (gs k).1 = b) (ho : o = some k) (h : Iv W0 md μ0 μ (cel b (NC n1 v) T :: row e sz v (ln n1) cs :: ndR NC T e sz ln kv g m gs k :: its) w) (hn : (m.map (·.1)).Nodup) (hk : mget m k = some n0) :
    Iv W0 md μ0 μ (ndI NC T e sz ln kv g (nput m o n1) (gup gs k (b, v, cs)) :: its) w := by
  subst hb; subst ho; exact h.unfocus hn hk
theorem Iv.focusB {n0 : N} {u : NG} (hb : gs k = u) (h : Iv W0 md μ0 μ (ndI NC T e sz ln kv g m gs :: its) w) (hn : (m.map (·.1)).Nodup) (hk : mget m k = some n0) :
    Iv W0 md μ0 μ (cel u.1 (NC n0 u.2.1) T :: row e sz u.2.1 (ln n0) u.2.2 :: ndR NC T e sz ln kv g m gs k :: its) w := by
  subst hb; exact h.focus hn hk
theorem NdW.nput {u : NG} {o : Option K} {n1 : N} (ho : o = some k) (h : NdW KW NW m gs) (hk : KW k) (hn : NW n1 u.2.2) : NdW KW NW (nput m o n1) (gup gs k u) := by
  subst ho; exact h.put hk hn
theorem NdW.atB {n0 : N} {u : NG} (hb : gs k = u) (h : NdW KW NW m gs) (hk : mget m k = some n0) : NW n0 u.2.2 := by
  subst hb; exact h.at hk
end
end Go.Proofs.YtdngkgkkblfcjaaDoor.K
namespace Go.Proofs.YtdngkgkkblfcjaaDoor.K
open Go Go.Proofs
set_option linter.unusedVariables false
inductive Er where
  | b (n : Nat)
  | pl (p : Int) (e : Er)
deriving DecidableEq, Inhabited
def Er.isP : Er → Bool
  | .pl _ _ => true
  | _ => false
def Er.pos : Er → Int
  | .pl p _ => p
  | _ => 0
def Er.err : Er → Er
  | .pl _ e => e
  | _ => .b 0
def Er.cmp : Er → Er → Bool
  | .b 0, .b 0 => false
  | .pl _ _, .pl _ _ => false
  | _, _ => true
def ErB (tp : TypeId) (code : ByteArray → Nat) (μ : Store) (v : Value) (x : Nat) : Prop :=
  (x = 0 ∧ v = .nilIface) ∨ (x ≠ 0 ∧ μ.cell (x - 1) 0 = some v ∧ ∃ (a : Addr) (s : ByteArray) (c : Array Value) (t : TypeId), v = .iface tp (.pointer (some a)) ∧ μ a.block = some (.cells c t (0, 0)) ∧ code s = x ∧ ∀ w : World, Agr μ w → w.cell? a = some (.string s))
def ErV (tp ta : TypeId) (code : ByteArray → Nat) (μ : Store) : Er → Value → Prop
  | .b x, v => ErB tp code μ v x
  | .pl p e, v => ∃ (g : Nat) (u : Value), v = .iface ta (.pointer (some ⟨g, 0, none⟩)) ∧ At μ g 0 [[.int .i64 p], [u]].flatten ∧ InR .i64 p ∧ ErV tp ta code μ e u
section
variable {tp ta : TypeId} {code : ByteArray → Nat} {μ ν : Store} {v v' : Value} {x y : Er} {i j : Nat}
theorem ErB.le (hl : μ.le ν) (h : ErB tp code μ v i) : ErB tp code ν v i := by
  rcases h with h | ⟨h0, h1, a, s, c, t, h2, h3, h4, h5⟩
  · exact .inl h
  · exact .inr ⟨h0, hl.cell h1, a, s, c, t, h2, hl _ _ h3, h4, fun w hw => h5 w (fun k o e => hw k o (hl k o e))⟩
theorem ErV.le (_ : ∀ (a b : Nat) (h : True), True) (hl : μ.le ν) : ∀ {x : Er} {v : Value}, ErV tp ta code μ x v → ErV tp ta code ν x v
  | .b _, _, h => ErB.le hl h
  | .pl _ _, _, ⟨g, u, h1, h2, h3, h4⟩ => ⟨g, u, h1, h2.le hl, h3, h4.le (fun _ _ h => h) hl⟩
theorem erv_nil : ErV tp ta code μ (.b 0) .nilIface := .inl ⟨rfl, rfl⟩
theorem ErB.one (h : ErB tp code μ v i) : v.oneCell' = true := by
  rcases h with ⟨_, rfl⟩ | ⟨_, _, a, s, c, t, rfl, _⟩ <;> rfl
theorem ErV.one : ∀ {x : Er} {v : Value}, ErV tp ta code μ x v → v.oneCell' = true
  | .b _, _, h => ErB.one h
  | .pl _ _, _, ⟨_, _, h1, _⟩ => by subst h1; rfl
theorem ErB.same (h : ErB tp code μ v i) (h' : ErB tp code μ v' i) : v = v' := by
  rcases h with ⟨e, rfl⟩ | ⟨e, h1, a, s, c, t, rfl, h3⟩
  · rcases h' with ⟨_, rfl⟩ | ⟨e', _⟩
    · rfl
    · exact absurd e e'
  · rcases h' with ⟨e', _⟩ | ⟨_, h1', _⟩
    · exact absurd e' e
    · exact Option.some.inj (h1.symm.trans h1')
theorem ErV.load {g : Nat} (h : ErV tp ta code μ (.b (g + 1)) v) : μ.cell g 0 = some v := by
  rcases (show ErB tp code μ v (g + 1) from h) with ⟨e, _⟩ | ⟨_, h1, _⟩
  · cases e
  · exact h1
def aP (ta : TypeId) : Value → Value
  | .iface t u => if t = ta then u else .pointer none
  | _ => .pointer none
theorem ErV.isP (h : ErV tp ta code μ x v) (hp : x.isP = true) : ∃ (g : Nat) (u : Value), aP ta v = .pointer (some ⟨g, 0, none⟩) ∧ At μ g 0 [[.int .i64 x.pos], [u]].flatten ∧ InR .i64 x.pos ∧ ErV tp ta code μ x.err u := by
  cases x with
  | b n => cases hp
  | pl p e =>
    obtain ⟨g, u, rfl, h2, h3, h4⟩ := h
    exact ⟨g, u, by simp [aP], h2, h3, h4⟩
theorem ErV.low {l : List (Er × Value)} (hle : μ.le ν) (h : ErV tp ta code ν x v) (hx : x ∈ l.map (·.1)) (hl : ∀ p ∈ l, ErV tp ta code μ p.1 p.2 ∧ p.1.isP = false) : ErV tp ta code μ x v := by
  obtain ⟨p, hp, rfl⟩ := List.mem_map.1 hx
  obtain ⟨h1, h2⟩ := hl p hp
  cases hq : p.1 with
  | pl _ _ => rw [hq] at h2; cases h2
  | b n =>
    rw [hq] at h h1
    have h3 : ErB tp code ν p.2 n := ErB.le hle h1
    rw [ErB.same (show ErB tp code ν v n from h) h3]
    exact h1
def RErV (tp ta : TypeId) (code : ByteArray → Nat) (μ : Store) (x : Er) (c : List Value) : Prop := ∃ v : Value, c = [[v]].flatten ∧ ErV tp ta code μ x v
theorem RErV.le (hl : μ.le ν) {c : List Value} (h : RErV tp ta code μ x c) : RErV tp ta code ν x c := let ⟨v, h0, h1⟩ := h; ⟨v, h0, h1.le (fun _ _ h => h) hl⟩
theorem RErV.ones : ∀ (x : Er) (c : List Value), RErV tp ta code μ x c → ∀ u ∈ c, u.oneCell' = true := by
  rintro x c ⟨v, rfl, h⟩ u hu
  have : u = v := by simpa using hu
  subst this
  exact h.one
structure ErF (P : Program) (ti tp ta : TypeId) : Prop where
  ne : tp ≠ ta
  hi : ∃ ms, P.underlying ti = some (.interface ms)
  hp : ∃ te i j, P.underlying tp = some (.pointer te) ∧ P.info? tp = some i ∧ i.comparable = true ∧ P.info? te = some j ∧ j.size ≠ 0
theorem ErF.of {P : Program} {ti tp te : TypeId} {ms : Array (String × TypeId)} (hi : P.underlying ti = some (.interface ms)) (hp : P.underlying tp = some (.pointer te)) (hc : (P.info? tp).map (·.comparable) = some true) (hs : (P.info? te).map (·.size) = some 1) (hn : tp ≠ ta) : ErF P ti tp ta := by
  obtain ⟨i, hi', hc'⟩ := Option.map_eq_some_iff.1 hc
  obtain ⟨j, hj, hs'⟩ := Option.map_eq_some_iff.1 hs
  exact ⟨hn, ⟨ms, hi⟩, ⟨te, i, j, hp, hi', hc', hj, by rw [hs']; decide⟩⟩
theorem eqIn_errB {P : Program} {ti : TypeId} {w : World} (F : ErF P ti tp ta) (hA : Agr μ w) (h : ErB tp code μ v i) (h' : ErB tp code μ v' j) : (Op.equalIn 10000 ti v v').run P w = .ok (decide (i = j)) w := by
  obtain ⟨ms, hi⟩ := F.hi
  obtain ⟨te, q, r, hp, hif, hc, hj, hs⟩ := F.hp
  by_cases e : i = j
  · subst e
    have := h.same h'
    subst this
    rw [decide_eq_true rfl]
    rcases h with ⟨_, rfl⟩ | ⟨_, _, a, s, c, t, rfl, _⟩
    · exact (show ∀ d : Nat, (Op.equalIn (d + 1) ti .nilIface .nilIface).run P w = .ok true w from fun d => by simp [Op.equalIn, run_underlying hi]) 9999
    · exact run_equalIn_iface_ptr_same w 9998 a hi hp hif hc hj
  · rw [decide_eq_false e]
    rcases h with ⟨e1, rfl⟩ | ⟨e1, _, a, s, c, t, rfl, hb, hco, hce⟩ <;> rcases h' with ⟨e2, rfl⟩ | ⟨e2, _, a', s', c', t', rfl, hb', hco', hce'⟩
    · exact absurd (e1.trans e2.symm) e
    · exact (show ∀ (d : Nat) (u : Value), (Op.equalIn (d + 1) ti .nilIface (.iface tp u)).run P w = .ok false w from fun d u => by simp [Op.equalIn, run_underlying hi]) 9999 _
    · exact (show ∀ (d : Nat) (u : Value), (Op.equalIn (d + 1) ti (.iface tp u) .nilIface).run P w = .ok false w from fun d u => by simp [Op.equalIn, run_underlying hi]) 9999 _
    · refine run_equalIn_iface_ptr_other w 9998 hi hp hif hc hj hs ?_ (hA _ _ hb) (hA _ _ hb')
      rintro rfl
      have := (hce w hA).symm.trans (hce' w hA)
      simp only [Option.some.injEq, Value.string.injEq] at this
      subst this
      exact e (hco.symm.trans hco')
theorem eqIn_off {P : Program} {ti : TypeId} {w : World} (F : ErF P ti tp ta) {u u' : Value} {t t' : TypeId} (hn : t ≠ t') : (Op.equalIn 10000 ti (.iface t u) (.iface t' u')).run P w = .ok false w := by
  obtain ⟨ms, hi⟩ := F.hi
  exact (show ∀ d : Nat, (Op.equalIn (d + 1) ti (.iface t u) (.iface t' u')).run P w = .ok false w from fun d => by simp [Op.equalIn, run_underlying hi, hn]) 9999
theorem eqIn_nilL {P : Program} {ti : TypeId} {w : World} (F : ErF P ti tp ta) {u : Value} {t : TypeId} : (Op.equalIn 10000 ti (.iface t u) .nilIface).run P w = .ok false w := by
  obtain ⟨ms, hi⟩ := F.hi
  exact (show ∀ d : Nat, (Op.equalIn (d + 1) ti (.iface t u) .nilIface).run P w = .ok false w from fun d => by simp [Op.equalIn, run_underlying hi]) 9999
theorem eqIn_nilR {P : Program} {ti : TypeId} {w : World} (F : ErF P ti tp ta) {u : Value} {t : TypeId} : (Op.equalIn 10000 ti .nilIface (.iface t u)).run P w = .ok false w := by
  obtain ⟨ms, hi⟩ := F.hi
  exact (show ∀ d : Nat, (Op.equalIn (d + 1) ti .nilIface (.iface t u)).run P w = .ok false w from fun d => by simp [Op.equalIn, run_underlying hi]) 9999
def Er.fit (x y : Er) : Bool := !x.isP || !y.isP
theorem Er.fitR {n : Nat} : x.fit (Er.b n) = true := by cases x <;> rfl
theorem eqIn_err {P : Program} {ti : TypeId} {w : World} (F : ErF P ti tp ta) (hA : Agr μ w) (hf : x.fit y = true) (h : ErV tp ta code μ x v) (h' : ErV tp ta code μ y v') : (Op.equalIn 10000 ti v v').run P w = .ok (decide (x = y)) w := by
  cases x with
  | b i =>
    cases y with
    | b j =>
      have := eqIn_errB F hA (show ErB tp code μ v i from h) (show ErB tp code μ v' j from h')
      simpa using this
    | pl p e =>
      obtain ⟨g, u, rfl, _⟩ := h'
      rw [decide_eq_false (by simp)]
      rcases (show ErB tp code μ v i from h) with ⟨_, rfl⟩ | ⟨_, _, a, s, c, t, rfl, _⟩
      · exact eqIn_nilR F
      · exact eqIn_off F F.ne
  | pl p e =>
    cases y with
    | b j =>
      obtain ⟨g, u, rfl, _⟩ := h
      rw [decide_eq_false (by simp)]
      rcases (show ErB tp code μ v' j from h') with ⟨_, rfl⟩ | ⟨_, _, a, s, c, t, rfl, _⟩
      · exact eqIn_nilL F
      · exact eqIn_off F F.ne.symm
    | pl p' e' => cases hf
end
section
variable {P : Program} {w : World} {ds : List Deferred} {a : Act} {n : Nat} {L : List (Nat × Value)} {dst : Option Nat} {ty t t' tp ta : TypeId} {pos : String} {aft : Array Edge} {gd : Option (Nat × Bool)} {x y : Operand} {code : ByteArray → Nat} {μ : Store} {v v' : Value} {i j : Er}
def Lits (x y : Operand) (i j : Er) : Prop := ((∃ c, x = .const c) ∨ ∃ c, y = .const c) ∧ i.fit j = true ∨ i.cmp j = true
theorem Lits.fit (h : Lits x y i j) : i.fit j = true := by
  rcases h with h | h
  · exact h.2
  · cases i <;> cases j <;> first | rfl | cases h
theorem Lits.nil (h : Lits x y (.b 0) (.b 0)) : (∃ c, x = .const c) ∨ ∃ c, y = .const c := by
  rcases h with h | h
  · exact h.1
  · cases h
theorem erv_form (h : ErV tp ta code μ i v) : (i = .b 0 ∧ v = .nilIface) ∨ ∃ t u, v = .iface t u := by
  cases i with
  | b n =>
    rcases (show ErB tp code μ v n from h) with ⟨rfl, rfl⟩ | ⟨_, _, a, s, c, t, rfl, _⟩
    · exact .inl ⟨rfl, rfl⟩
    · exact .inr ⟨_, _, rfl⟩
  | pl p e =>
    obtain ⟨g, u, rfl, _⟩ := h
    exact .inr ⟨_, _, rfl⟩
theorem eg_err {op : BinOp} (h : ErV tp ta code μ i v) (h' : ErV tp ta code μ j v') (hg : Lits x y i j) : (eqGuard op t x y v v').run P w = .ok () w := by
  rcases erv_form h with ⟨rfl, rfl⟩ | ⟨_, _, rfl⟩ <;> rcases erv_form h' with ⟨rfl, rfl⟩ | ⟨_, _, rfl⟩
  · rcases hg.nil with ⟨c, rfl⟩ | ⟨c, rfl⟩
    · cases op <;> simp [eqGuard]
    · cases op <;> simp [eqGuard]
  all_goals cases op <;> simp [eqGuard]
theorem r_neE (F : ErF P t tp ta) (hr : Agr μ w) (h : ErV tp ta code μ i v) (h' : ErV tp ta code μ j v') (hg : Lits x y i j) (hA : FrG ds a n L) (hx : ov L x = some v) (hy : ov L y = some v') :
    (execOp a.eval ⟨dst, .binOp .neq t x y t', ty, pos, aft, gd⟩).run P w = .ok (.value (.bool (decide (i ≠ j)))) w := by
  have hb : (binOp .neq t v v').run P w = .ok (.bool (decide (i ≠ j))) w := by
    have he := eqIn_err F hr hg.fit h h'
    clear hx hy hg
    have hd : decide (i ≠ j) = !decide (i = j) := by by_cases e : i = j <;> simp [e]
    rw [hd]
    rcases erv_form h with ⟨_, rfl⟩ | ⟨_, _, rfl⟩ <;> rcases erv_form h' with ⟨_, rfl⟩ | ⟨_, _, rfl⟩ <;> (simp only [binOp, Op.equal, Op.maxDepth]; rw [Sem.run_bind, he]; rfl)
  simp [execOp, hA.ev hx, hA.ev hy, eg_err h h' hg, hb]
theorem r_ldG {d : TypeDesc} {g : Nat} (hu : P.underlying t = some d) (hd : isAggD d = false) (hr : Agr μ w) (h : ErV tp ta code μ (.b (g + 1)) v) (hA : FrG ds a n L) :
    (execOp a.eval ⟨dst, .load t (.global g), ty, pos, aft, gd⟩).run P w = .ok (.value v) w := by
  have hx : ov L (.global g) = some (.pointer (some ⟨g, 0, none⟩)) := rfl
  simp [execOp, hA.ev hx, Instr.loadAt, Instr.sureAddr, run_loadVar_one (P := P) hu hd _ (hr.cell h.load)]
theorem r_mkI {te : TypeId} (hu : P.underlying t = some (.pointer te)) (hA : FrG ds a n L) (hx : ov L x = some v) :
    (execOp a.eval ⟨dst, .makeInterface t x, ty, pos, aft, gd⟩).run P w = .ok (.value (.iface t v)) w := by
  simp [execOp, hA.ev hx, Instr.makeInterface, run_underlying hu]
end
theorem at_in {μ : Store} {g b o : Nat} (A B C : List (List Value)) (h : At μ g b (A ++ (B ++ C)).flatten) (ho : b + A.flatten.length = o) : At μ g o B.flatten := by
  subst ho
  rw [List.flatten_append, List.flatten_append] at h
  exact h.part
end Go.Proofs.YtdngkgkkblfcjaaDoor.K
namespace Go.Proofs.YtdngkgkkblfcjaaDoor.T
open Go Go.Proofs Go.Proofs.YtdngkgkkblfcjaaDoor.K
set_option linter.unusedVariables false
set_option linter.unusedSimpArgs false
def errTexts : List (Nat × List UInt8) := [(0, [116, 111, 111, 32, 109, 97, 110, 121, 44, 32, 111, 114, 32, 116, 111, 111, 32, 102, 101, 119]), (1, [116, 111, 111, 32, 108, 111, 110, 103]), (2, [111, 110, 101, 32, 116, 104, 105, 110, 103, 32, 116, 119, 105, 99, 101]), (3, [97, 32, 114, 111, 111, 116, 32, 116, 104, 97, 116, 32, 100, 111, 101, 115, 32, 110, 111, 116, 32, 102, 105, 116]), (4, [107, 110, 111, 119, 110, 32, 97, 108, 114, 101, 97, 100, 121]), (5, [110, 111, 32, 115, 117, 99, 104, 32, 112, 97, 114, 101, 110, 116]), (6, [116, 104, 101, 114, 101, 32, 105, 115, 32, 110, 111, 32, 114, 111, 111, 109]), (7, [97, 32, 110, 117, 109, 98, 101, 114, 32, 111, 117, 116, 32, 111, 102, 32, 105, 116, 115, 32, 114, 97, 110, 103, 101]), (8, [110, 111, 32, 102, 105, 114, 115, 116, 32, 116, 114, 97, 110, 115, 97, 99, 116, 105, 111, 110, 32, 119, 104, 101, 114, 101, 32, 116, 104, 101, 114, 101, 32, 104, 97, 115, 32, 116, 111, 32, 98, 101, 32, 111, 110, 101, 44, 32, 111, 114, 32, 111, 110, 101, 32, 119, 104, 101, 114, 101, 32, 116, 104, 101, 114, 101, 32, 109, 97, 121, 32, 98, 101, 32, 110, 111, 110, 101]), (9, [97, 32, 107, 101, 121, 32, 116, 104, 97, 116, 32, 100, 111, 101, 115, 32, 110, 111, 116, 32, 102, 105, 116]), (10, [97, 110, 32, 97, 109, 111, 117, 110, 116, 32, 116, 104, 97, 116, 32, 99, 97, 110, 39, 116, 32, 98, 101]), (11, [105, 116, 32, 101, 110, 100, 115, 32, 116, 111, 111, 32, 101, 97, 114, 108, 121]), (12, [110, 111, 116, 32, 97, 115, 32, 105, 116, 32, 104, 97, 115, 32, 116, 111, 32, 98, 101]), (13, [98, 101, 104, 105, 110, 100, 32, 119, 104, 97, 116, 32, 105, 115, 32, 110, 111, 116, 32, 118, 97, 108, 105, 100]), (14, [97, 32, 116, 105, 109, 101, 32, 116, 104, 97, 116, 32, 105, 115, 32, 116, 111, 111, 32, 101, 97, 114, 108, 121]), (15, [97, 32, 99, 111, 105, 110, 32, 116, 104, 97, 116, 32, 105, 115, 32, 110, 111, 116, 32, 116, 104, 101, 114, 101]), (16, [97, 32, 99, 111, 105, 110, 32, 116, 104, 97, 116, 32, 105, 115, 32, 116, 111, 111, 32, 121, 111, 117, 110, 103]), (17, [116, 111, 111, 32, 101, 97, 114, 108, 121, 32, 116, 111, 32, 98, 101, 32, 116, 97, 107, 101, 110]), (18, [108, 101, 115, 115, 32, 99, 111, 109, 101, 115, 32, 105, 110, 32, 116, 104, 97, 110, 32, 103, 111, 101, 115, 32, 111, 117, 116]), (19, [109, 111, 114, 101, 32, 116, 104, 97, 110, 32, 116, 104, 101, 32, 114, 101, 119, 97, 114, 100]), (20, [97, 32, 99, 111, 105, 110, 32, 116, 104, 97, 116, 32, 105, 115, 32, 115, 112, 101, 110, 116, 32, 105, 110, 32, 116, 104, 101, 32, 112, 111, 111, 108]), (21, [116, 111, 111, 32, 109, 97, 110, 121, 32, 116, 104, 97, 116, 32, 104, 97, 110, 103, 32, 116, 111, 103, 101, 116, 104, 101, 114]), (22, [116, 104, 101, 114, 101, 32, 105, 115, 32, 110, 111, 110, 101]), (23, [110, 111, 32, 115, 117, 99, 104, 32, 119, 111, 114, 100]), (24, [110, 111, 116, 32, 97, 32, 110, 117, 109, 98, 101, 114])]
def errCode (z : ByteArray) : Nat := match errTexts.find? (fun q => decide (q.2 = z.data.toList)) with | some q => q.1 + 1 | none => 0
abbrev xErrMany : Er := Er.b 1
abbrev xErrLong : Er := Er.b 2
abbrev xErrTwice : Er := Er.b 3
abbrev xErrRoot : Er := Er.b 4
abbrev xErrKnown : Er := Er.b 5
abbrev xErrParent : Er := Er.b 6
abbrev xErrFull : Er := Er.b 7
abbrev xErrRange : Er := Er.b 8
abbrev xErrBase : Er := Er.b 9
abbrev xErrKey : Er := Er.b 10
abbrev xErrValue : Er := Er.b 11
abbrev xErrEnd : Er := Er.b 12
abbrev xErrShape : Er := Er.b 13
abbrev xErrInvalid : Er := Er.b 14
abbrev xErrTime : Er := Er.b 15
abbrev xErrMissing : Er := Er.b 16
abbrev xErrYoung : Er := Er.b 17
abbrev xErrEarly : Er := Er.b 18
abbrev xErrLess : Er := Er.b 19
abbrev xErrReward : Er := Er.b 20
abbrev xErrClash : Er := Er.b 21
abbrev xErrLimit : Er := Er.b 22
abbrev xErrNone : Er := Er.b 23
abbrev xErrWord : Er := Er.b 24
abbrev xErrNumber : Er := Er.b 25
abbrev ErS (μ : Store) (v : Value) (x : Er) : Prop := ErV 201 121 errCode μ x v
structure Gl (μ : Store) : Prop where
  g0 : ∃ v, ErS μ v (Er.b 1)
  g1 : ∃ v, ErS μ v (Er.b 2)
  g2 : ∃ v, ErS μ v (Er.b 3)
  g3 : ∃ v, ErS μ v (Er.b 4)
  g4 : ∃ v, ErS μ v (Er.b 5)
  g5 : ∃ v, ErS μ v (Er.b 6)
  g6 : ∃ v, ErS μ v (Er.b 7)
  g7 : ∃ v, ErS μ v (Er.b 8)
  g8 : ∃ v, ErS μ v (Er.b 9)
  g9 : ∃ v, ErS μ v (Er.b 10)
  g10 : ∃ v, ErS μ v (Er.b 11)
  g11 : ∃ v, ErS μ v (Er.b 12)
  g12 : ∃ v, ErS μ v (Er.b 13)
  g13 : ∃ v, ErS μ v (Er.b 14)
  g14 : ∃ v, ErS μ v (Er.b 15)
  g15 : ∃ v, ErS μ v (Er.b 16)
  g16 : ∃ v, ErS μ v (Er.b 17)
  g17 : ∃ v, ErS μ v (Er.b 18)
  g18 : ∃ v, ErS μ v (Er.b 19)
  g19 : ∃ v, ErS μ v (Er.b 20)
  g20 : ∃ v, ErS μ v (Er.b 21)
  g21 : ∃ v, ErS μ v (Er.b 22)
  g22 : ∃ v, ErS μ v (Er.b 23)
  g23 : ∃ v, ErS μ v (Er.b 24)
  g24 : ∃ v, ErS μ v (Er.b 25)
theorem Gl.le {μ ν : Store} (hl : μ.le ν) (h : Gl μ) : Gl ν := ⟨h.g0.imp fun _ h => ErV.le (fun _ _ h => h) hl h, h.g1.imp fun _ h => ErV.le (fun _ _ h => h) hl h, h.g2.imp fun _ h => ErV.le (fun _ _ h => h) hl h, h.g3.imp fun _ h => ErV.le (fun _ _ h => h) hl h, h.g4.imp fun _ h => ErV.le (fun _ _ h => h) hl h, h.g5.imp fun _ h => ErV.le (fun _ _ h => h) hl h, h.g6.imp fun _ h => ErV.le (fun _ _ h => h) hl h, h.g7.imp fun _ h => ErV.le (fun _ _ h => h) hl h, h.g8.imp fun _ h => ErV.le (fun _ _ h => h) hl h, h.g9.imp fun _ h => ErV.le (fun _ _ h => h) hl h, h.g10.imp fun _ h => ErV.le (fun _ _ h => h) hl h, h.g11.imp fun _ h => ErV.le (fun _ _ h => h) hl h, h.g12.imp fun _ h => ErV.le (fun _ _ h => h) hl h, h.g13.imp fun _ h => ErV.le (fun _ _ h => h) hl h, h.g14.imp fun _ h => ErV.le (fun _ _ h => h) hl h, h.g15.imp fun _ h => ErV.le (fun _ _ h => h) hl h, h.g16.imp fun _ h => ErV.le (fun _ _ h => h) hl h, h.g17.imp fun _ h => ErV.le (fun _ _ h => h) hl h, h.g18.imp fun _ h => ErV.le (fun _ _ h => h) hl h, h.g19.imp fun _ h => ErV.le (fun _ _ h => h) hl h, h.g20.imp fun _ h => ErV.le (fun _ _ h => h) hl h, h.g21.imp fun _ h => ErV.le (fun _ _ h => h) hl h, h.g22.imp fun _ h => ErV.le (fun _ _ h => h) hl h, h.g23.imp fun _ h => ErV.le (fun _ _ h => h) hl h, h.g24.imp fun _ h => ErV.le (fun _ _ h => h) hl h⟩
structure digestWriter where
  s : List Int
  rest : List Int
  n : Int
deriving Inhabited, DecidableEq
def digestWriterC (x : digestWriter) (v0 : Value) : List (List Value) := [av .u32 8 x.s, [v0], [.int .i64 x.n]]
def digestWriterW (μ : Store) (x : digestWriter) (v0 : Value) : Prop := Arr .u32 8 x.s ∧ Slc (RI .u8) 1 μ v0 x.rest ∧ InR .i64 x.n
def RdigestWriter (μ : Store) (x : digestWriter) (c : List Value) : Prop := ∃ v0 : Value, c = (digestWriterC x v0).flatten ∧ digestWriterW μ x v0
theorem digestWriterW.le {μ ν : Store} (hl : μ.le ν) {x : digestWriter} {v0 : Value} (h : digestWriterW μ x v0) : digestWriterW ν x v0 := let ⟨h0, h1, h2⟩ := h; ⟨h0, h1.le (fun _ _ h => h) hl, h2⟩
theorem RdigestWriter.ones {μ : Store} : ∀ x c, RdigestWriter μ x c → ∀ u ∈ c, u.oneCell' = true := by
  rintro x c ⟨v0, rfl, hw⟩ u hu
  simp only [digestWriterC, List.flatten_cons, List.flatten_nil, List.append_nil, List.mem_append, List.mem_singleton, List.mem_cons, List.not_mem_nil, or_false] at hu
  obtain ⟨_, hs0⟩ := Slc.sv (hw.2.1)
  rcases hu with hu | hu | hu <;> first | exact one_av _ _ _ _ hu | (subst hu; rfl) | (subst hu; exact one_sl hs0)
theorem RdigestWriter.le {μ ν : Store} (hl : μ.le ν) {x : digestWriter} {c : List Value} (h : RdigestWriter μ x c) : RdigestWriter ν x c := let ⟨v0, h0, h1⟩ := h; ⟨v0, h0, h1.le hl⟩
structure Point where
  Tx : List Int
  N : Int
deriving Inhabited, DecidableEq
def PointC (x : Point) : List (List Value) := [av .u8 32 x.Tx, [.int .u32 x.N]]
def PointW (μ : Store) (x : Point) : Prop := Arr .u8 32 x.Tx ∧ InR .u32 x.N
def RPoint (μ : Store) (x : Point) (c : List Value) : Prop := c = (PointC x).flatten ∧ PointW μ x
theorem PointW.le {μ ν : Store} (hl : μ.le ν) {x : Point} (h : PointW μ x) : PointW ν x := let ⟨h0, h1⟩ := h; ⟨h0, h1⟩
theorem RPoint.ones {μ : Store} : ∀ x c, RPoint μ x c → ∀ u ∈ c, u.oneCell' = true := by
  rintro x c ⟨rfl, hw⟩ u hu
  simp only [PointC, List.flatten_cons, List.flatten_nil, List.append_nil, List.mem_append, List.mem_singleton, List.mem_cons, List.not_mem_nil, or_false] at hu
  rcases hu with hu | hu <;> first | exact one_av _ _ _ _ hu | (subst hu; rfl)
theorem RPoint.le {μ ν : Store} (hl : μ.le ν) {x : Point} {c : List Value} (h : RPoint μ x c) : RPoint ν x c := let ⟨h0, h1⟩ := h; ⟨h0, h1.le hl⟩
structure In where
  From : Point
  Key : List Int
  Seq : Int
deriving Inhabited, DecidableEq
def InC (x : In) (v0 : Value) : List (List Value) := [av .u8 32 x.From.Tx, [.int .u32 x.From.N], [v0], [.int .u32 x.Seq]]
def InW (μ : Store) (x : In) (v0 : Value) : Prop := Arr .u8 32 x.From.Tx ∧ InR .u32 x.From.N ∧ Slc (RI .u8) 1 μ v0 x.Key ∧ InR .u32 x.Seq
def RIn (μ : Store) (x : In) (c : List Value) : Prop := ∃ v0 : Value, c = (InC x v0).flatten ∧ InW μ x v0
theorem InW.le {μ ν : Store} (hl : μ.le ν) {x : In} {v0 : Value} (h : InW μ x v0) : InW ν x v0 := let ⟨h0, h1, h2, h3⟩ := h; ⟨h0, h1, h2.le (fun _ _ h => h) hl, h3⟩
theorem RIn.ones {μ : Store} : ∀ x c, RIn μ x c → ∀ u ∈ c, u.oneCell' = true := by
  rintro x c ⟨v0, rfl, hw⟩ u hu
  simp only [InC, List.flatten_cons, List.flatten_nil, List.append_nil, List.mem_append, List.mem_singleton, List.mem_cons, List.not_mem_nil, or_false] at hu
  obtain ⟨_, hs0⟩ := Slc.sv (hw.2.2.1)
  rcases hu with hu | hu | hu | hu <;> first | exact one_av _ _ _ _ hu | (subst hu; rfl) | (subst hu; exact one_sl hs0)
theorem RIn.le {μ ν : Store} (hl : μ.le ν) {x : In} {c : List Value} (h : RIn μ x c) : RIn ν x c := let ⟨v0, h0, h1⟩ := h; ⟨v0, h0, h1.le hl⟩
structure Out where
  Value : Int
  Lock : List Int
deriving Inhabited, DecidableEq
def OutC (x : Out) : List (List Value) := [[.int .u64 x.Value], av .u8 32 x.Lock]
def OutW (μ : Store) (x : Out) : Prop := InR .u64 x.Value ∧ Arr .u8 32 x.Lock
def ROut (μ : Store) (x : Out) (c : List Value) : Prop := c = (OutC x).flatten ∧ OutW μ x
theorem OutW.le {μ ν : Store} (hl : μ.le ν) {x : Out} (h : OutW μ x) : OutW ν x := let ⟨h0, h1⟩ := h; ⟨h0, h1⟩
theorem ROut.ones {μ : Store} : ∀ x c, ROut μ x c → ∀ u ∈ c, u.oneCell' = true := by
  rintro x c ⟨rfl, hw⟩ u hu
  simp only [OutC, List.flatten_cons, List.flatten_nil, List.append_nil, List.mem_append, List.mem_singleton, List.mem_cons, List.not_mem_nil, or_false] at hu
  rcases hu with hu | hu <;> first | exact one_av _ _ _ _ hu | (subst hu; rfl)
theorem ROut.le {μ ν : Store} (hl : μ.le ν) {x : Out} {c : List Value} (h : ROut μ x c) : ROut ν x c := let ⟨h0, h1⟩ := h; ⟨h0, h1.le hl⟩
structure Tx where
  Version : Int
  Ins : List In
  Outs : List Out
  Time : Int
deriving Inhabited, DecidableEq
def TxC (x : Tx) (v0 : Value) (v1 : Value) : List (List Value) := [[.int .u32 x.Version], [v0], [v1], [.int .u32 x.Time]]
def TxW (μ : Store) (x : Tx) (v0 : Value) (v1 : Value) : Prop := InR .u32 x.Version ∧ Slc (RIn μ) 35 μ v0 x.Ins ∧ Slc (ROut μ) 33 μ v1 x.Outs ∧ InR .u32 x.Time
def RTx (μ : Store) (x : Tx) (c : List Value) : Prop := ∃ v0 v1 : Value, c = (TxC x v0 v1).flatten ∧ TxW μ x v0 v1
theorem TxW.le {μ ν : Store} (hl : μ.le ν) {x : Tx} {v0 : Value} {v1 : Value} (h : TxW μ x v0 v1) : TxW ν x v0 v1 := let ⟨h0, h1, h2, h3⟩ := h; ⟨h0, h1.le (fun _ _ h => RIn.le hl h) hl, h2.le (fun _ _ h => ROut.le hl h) hl, h3⟩
theorem RTx.ones {μ : Store} : ∀ x c, RTx μ x c → ∀ u ∈ c, u.oneCell' = true := by
  rintro x c ⟨v0, v1, rfl, hw⟩ u hu
  simp only [TxC, List.flatten_cons, List.flatten_nil, List.append_nil, List.mem_append, List.mem_singleton, List.mem_cons, List.not_mem_nil, or_false] at hu
  obtain ⟨_, hs0⟩ := Slc.sv (hw.2.1)
  obtain ⟨_, hs1⟩ := Slc.sv (hw.2.2.1)
  rcases hu with hu | hu | hu | hu <;> first | exact one_av _ _ _ _ hu | (subst hu; rfl) | (subst hu; exact one_sl hs0) | (subst hu; exact one_sl hs1)
theorem RTx.le {μ ν : Store} (hl : μ.le ν) {x : Tx} {c : List Value} (h : RTx μ x c) : RTx ν x c := let ⟨v0, v1, h0, h1⟩ := h; ⟨v0, v1, h0, h1.le hl⟩
structure Head where
  Version : Int
  Prev : List Int
  Root : List Int
  Time : Int
  Work : Int
  Nonce : Int
deriving Inhabited, DecidableEq
def HeadC (x : Head) : List (List Value) := [[.int .u32 x.Version], av .u8 32 x.Prev, av .u8 32 x.Root, [.int .u32 x.Time], [.int .u32 x.Work], [.int .u32 x.Nonce]]
def HeadW (μ : Store) (x : Head) : Prop := InR .u32 x.Version ∧ Arr .u8 32 x.Prev ∧ Arr .u8 32 x.Root ∧ InR .u32 x.Time ∧ InR .u32 x.Work ∧ InR .u32 x.Nonce
def RHead (μ : Store) (x : Head) (c : List Value) : Prop := c = (HeadC x).flatten ∧ HeadW μ x
theorem HeadW.le {μ ν : Store} (hl : μ.le ν) {x : Head} (h : HeadW μ x) : HeadW ν x := let ⟨h0, h1, h2, h3, h4, h5⟩ := h; ⟨h0, h1, h2, h3, h4, h5⟩
theorem RHead.ones {μ : Store} : ∀ x c, RHead μ x c → ∀ u ∈ c, u.oneCell' = true := by
  rintro x c ⟨rfl, hw⟩ u hu
  simp only [HeadC, List.flatten_cons, List.flatten_nil, List.append_nil, List.mem_append, List.mem_singleton, List.mem_cons, List.not_mem_nil, or_false] at hu
  rcases hu with hu | hu | hu | hu | hu | hu <;> first | exact one_av _ _ _ _ hu | (subst hu; rfl)
theorem RHead.le {μ ν : Store} (hl : μ.le ν) {x : Head} {c : List Value} (h : RHead μ x c) : RHead ν x c := let ⟨h0, h1⟩ := h; ⟨h0, h1.le hl⟩
structure Block where
  Head : Head
  Txs : List Tx
deriving Inhabited, DecidableEq
def BlockC (x : Block) (v0 : Value) : List (List Value) := [[.int .u32 x.Head.Version], av .u8 32 x.Head.Prev, av .u8 32 x.Head.Root, [.int .u32 x.Head.Time], [.int .u32 x.Head.Work], [.int .u32 x.Head.Nonce], [v0]]
def BlockW (μ : Store) (x : Block) (v0 : Value) : Prop := InR .u32 x.Head.Version ∧ Arr .u8 32 x.Head.Prev ∧ Arr .u8 32 x.Head.Root ∧ InR .u32 x.Head.Time ∧ InR .u32 x.Head.Work ∧ InR .u32 x.Head.Nonce ∧ Slc (RTx μ) 4 μ v0 x.Txs
def RBlock (μ : Store) (x : Block) (c : List Value) : Prop := ∃ v0 : Value, c = (BlockC x v0).flatten ∧ BlockW μ x v0
theorem BlockW.le {μ ν : Store} (hl : μ.le ν) {x : Block} {v0 : Value} (h : BlockW μ x v0) : BlockW ν x v0 := let ⟨h0, h1, h2, h3, h4, h5, h6⟩ := h; ⟨h0, h1, h2, h3, h4, h5, h6.le (fun _ _ h => RTx.le hl h) hl⟩
theorem RBlock.ones {μ : Store} : ∀ x c, RBlock μ x c → ∀ u ∈ c, u.oneCell' = true := by
  rintro x c ⟨v0, rfl, hw⟩ u hu
  simp only [BlockC, List.flatten_cons, List.flatten_nil, List.append_nil, List.mem_append, List.mem_singleton, List.mem_cons, List.not_mem_nil, or_false] at hu
  obtain ⟨_, hs0⟩ := Slc.sv (hw.2.2.2.2.2.2)
  rcases hu with hu | hu | hu | hu | hu | hu | hu <;> first | exact one_av _ _ _ _ hu | (subst hu; rfl) | (subst hu; exact one_sl hs0)
theorem RBlock.le {μ ν : Store} (hl : μ.le ν) {x : Block} {c : List Value} (h : RBlock μ x c) : RBlock ν x c := let ⟨v0, h0, h1⟩ := h; ⟨v0, h0, h1.le hl⟩
structure ApiAt where
  Pos : Int
  Err : Er
deriving Inhabited, DecidableEq
def ApiAtC (x : ApiAt) (v0 : Value) : List (List Value) := [[.int .i64 x.Pos], [v0]]
def ApiAtW (μ : Store) (x : ApiAt) (v0 : Value) : Prop := InR .i64 x.Pos ∧ ErS μ v0 x.Err
def RApiAt (μ : Store) (x : ApiAt) (c : List Value) : Prop := ∃ v0 : Value, c = (ApiAtC x v0).flatten ∧ ApiAtW μ x v0
theorem ApiAtW.le {μ ν : Store} (hl : μ.le ν) {x : ApiAt} {v0 : Value} (h : ApiAtW μ x v0) : ApiAtW ν x v0 := let ⟨h0, h1⟩ := h; ⟨h0, h1.le (fun _ _ h => h) hl⟩
theorem RApiAt.ones {μ : Store} : ∀ x c, RApiAt μ x c → ∀ u ∈ c, u.oneCell' = true := by
  rintro x c ⟨v0, rfl, hw⟩ u hu
  simp only [ApiAtC, List.flatten_cons, List.flatten_nil, List.append_nil, List.mem_append, List.mem_singleton, List.mem_cons, List.not_mem_nil, or_false] at hu
  have hs0 := ErV.one (hw.2)
  rcases hu with hu | hu <;> first | exact one_av _ _ _ _ hu | (subst hu; rfl) | (subst hu; exact hs0)
theorem RApiAt.le {μ ν : Store} (hl : μ.le ν) {x : ApiAt} {c : List Value} (h : RApiAt μ x c) : RApiAt ν x c := let ⟨v0, h0, h1⟩ := h; ⟨v0, h0, h1.le hl⟩
structure sargassorefFault where
  Code : Int
  Placed : Bool
  Pos : Int
  Outer : Bool
  At : Int
deriving Inhabited, DecidableEq
def sargassorefFaultC (x : sargassorefFault) : List (List Value) := [[.int .i64 x.Code], [.bool x.Placed], [.int .i64 x.Pos], [.bool x.Outer], [.int .i64 x.At]]
def sargassorefFaultW (μ : Store) (x : sargassorefFault) : Prop := InR .i64 x.Code ∧ InR .i64 x.Pos ∧ InR .i64 x.At
def RsargassorefFault (μ : Store) (x : sargassorefFault) (c : List Value) : Prop := c = (sargassorefFaultC x).flatten ∧ sargassorefFaultW μ x
theorem sargassorefFaultW.le {μ ν : Store} (hl : μ.le ν) {x : sargassorefFault} (h : sargassorefFaultW μ x) : sargassorefFaultW ν x := let ⟨h0, h1, h2⟩ := h; ⟨h0, h1, h2⟩
theorem RsargassorefFault.ones {μ : Store} : ∀ x c, RsargassorefFault μ x c → ∀ u ∈ c, u.oneCell' = true := by
  rintro x c ⟨rfl, hw⟩ u hu
  simp only [sargassorefFaultC, List.flatten_cons, List.flatten_nil, List.append_nil, List.mem_append, List.mem_singleton, List.mem_cons, List.not_mem_nil, or_false] at hu
  rcases hu with hu | hu | hu | hu | hu <;> first | exact one_av _ _ _ _ hu | (subst hu; rfl)
theorem RsargassorefFault.le {μ ν : Store} (hl : μ.le ν) {x : sargassorefFault} {c : List Value} (h : RsargassorefFault μ x c) : RsargassorefFault ν x c := let ⟨h0, h1⟩ := h; ⟨h0, h1.le hl⟩
structure treeNode where
  head : Head
  height : Int
  work : Int
  up : List (List Int)
deriving Inhabited, DecidableEq
def treeNodeC (x : treeNode) (v0 : Value) : List (List Value) := [[.int .u32 x.head.Version], av .u8 32 x.head.Prev, av .u8 32 x.head.Root, [.int .u32 x.head.Time], [.int .u32 x.head.Work], [.int .u32 x.head.Nonce], [.int .i64 x.height], [.int .u64 x.work], [v0]]
def treeNodeW (μ : Store) (x : treeNode) (v0 : Value) : Prop := InR .u32 x.head.Version ∧ Arr .u8 32 x.head.Prev ∧ Arr .u8 32 x.head.Root ∧ InR .u32 x.head.Time ∧ InR .u32 x.head.Work ∧ InR .u32 x.head.Nonce ∧ InR .i64 x.height ∧ InR .u64 x.work ∧ Slc (RA .u8 32) 32 μ v0 x.up
def RtreeNode (μ : Store) (x : treeNode) (c : List Value) : Prop := ∃ v0 : Value, c = (treeNodeC x v0).flatten ∧ treeNodeW μ x v0
theorem treeNodeW.le {μ ν : Store} (hl : μ.le ν) {x : treeNode} {v0 : Value} (h : treeNodeW μ x v0) : treeNodeW ν x v0 := let ⟨h0, h1, h2, h3, h4, h5, h6, h7, h8⟩ := h; ⟨h0, h1, h2, h3, h4, h5, h6, h7, h8.le (fun _ _ h => h) hl⟩
theorem RtreeNode.ones {μ : Store} : ∀ x c, RtreeNode μ x c → ∀ u ∈ c, u.oneCell' = true := by
  rintro x c ⟨v0, rfl, hw⟩ u hu
  simp only [treeNodeC, List.flatten_cons, List.flatten_nil, List.append_nil, List.mem_append, List.mem_singleton, List.mem_cons, List.not_mem_nil, or_false] at hu
  obtain ⟨_, hs0⟩ := Slc.sv (hw.2.2.2.2.2.2.2.2)
  rcases hu with hu | hu | hu | hu | hu | hu | hu | hu | hu <;> first | exact one_av _ _ _ _ hu | (subst hu; rfl) | (subst hu; exact one_sl hs0)
theorem RtreeNode.le {μ ν : Store} (hl : μ.le ν) {x : treeNode} {c : List Value} (h : RtreeNode μ x c) : RtreeNode ν x c := let ⟨v0, h0, h1⟩ := h; ⟨v0, h0, h1.le hl⟩
structure treeTree where
  m : List ((List Int) × treeNode)
  start : List Int
deriving Inhabited, DecidableEq
structure bestMarks where
  t : treeTree
  bad : List ((List Int) × Bool)
deriving Inhabited, DecidableEq
structure bestRanks where
  l : List (List Int)
  m : bestMarks
deriving Inhabited, DecidableEq
abbrev kv104 (x : List Int) : Value := .agg [av .u8 32 x].flatten.toArray
abbrev vv104 (x : Bool) : Value := .bool x
abbrev mw104 (l : List ((List Int) × Bool)) : Prop := MW (fun x : List Int => Arr .u8 32 x) (fun x : Bool => True) l
abbrev kv95 (x : List Int) : Value := .agg [av .u8 32 x].flatten.toArray
abbrev nq95 (μ : Store) (x : treeNode) (cs : List Value) : Prop := HeadW μ x.head ∧ InR .i64 x.height ∧ InR .u64 x.work ∧ Els (RA .u8 32) 32 x.up cs
abbrev nw95 (μ : Store) (m : List ((List Int) × treeNode)) (gs : (List Int) → NG) : Prop := NdW (fun x : List Int => Arr .u8 32 x) (nq95 μ) m gs
abbrev nd95 (g : Nat) (m : List ((List Int) × treeNode)) (gs : (List Int) → NG) : It := ndI treeNodeC 94 26 32 (fun x => x.up.length) kv95 g m gs
abbrev nr95 (g : Nat) (m : List ((List Int) × treeNode)) (gs : (List Int) → NG) (k : List Int) : It := ndR treeNodeC 94 26 32 (fun x => x.up.length) kv95 g m gs k
theorem nw95.le {μ ν : Store} {m : List ((List Int) × treeNode)} {gs : (List Int) → NG} (hl : μ.le ν) (h : nw95 μ m gs) : nw95 ν m gs := NdW.mono h fun _ _ h => ⟨(h.1).le hl, h.2.1, h.2.2.1, h.2.2.2⟩
end Go.Proofs.YtdngkgkkblfcjaaDoor.T
namespace Go.Proofs.YtdngkgkkblfcjaaDoor.T
open Go Go.Proofs Go.Proofs.YtdngkgkkblfcjaaDoor.K
set_option linter.unusedVariables false
set_option linter.unusedSimpArgs false
theorem mo : Tryd.prog.follows .mixedOrders = true := by kernel_rfl
theorem erF : ErF Tryd.prog 47 201 121 := ErF.of Tryd.underlying47 Tryd.underlying201 (by kernel_rfl) (by kernel_rfl) (by decide)
theorem sz2 : (Tryd.prog.info? 2).map (·.size) = some 1 := by kernel_rfl
theorem sz3 : (Tryd.prog.info? 3).map (·.size) = some 1 := by kernel_rfl
theorem sz5 : (Tryd.prog.info? 5).map (·.size) = some 1 := by kernel_rfl
theorem sz24 : (Tryd.prog.info? 24).map (·.size) = some 1 := by kernel_rfl
theorem sz26 : (Tryd.prog.info? 26).map (·.size) = some 32 := by kernel_rfl
theorem sz28 : (Tryd.prog.info? 28).map (·.size) = some 68 := by kernel_rfl
theorem sz29 : (Tryd.prog.info? 29).map (·.size) = some 1 := by kernel_rfl
theorem sz30 : (Tryd.prog.info? 30).map (·.size) = some 1 := by kernel_rfl
theorem sz32 : (Tryd.prog.info? 32).map (·.size) = some 4 := by kernel_rfl
theorem sz34 : (Tryd.prog.info? 34).map (·.size) = some 1 := by kernel_rfl
theorem sz35 : (Tryd.prog.info? 35).map (·.size) = some 1 := by kernel_rfl
theorem sz37 : (Tryd.prog.info? 37).map (·.size) = some 69 := by kernel_rfl
theorem sz39 : (Tryd.prog.info? 39).map (·.size) = some 33 := by kernel_rfl
theorem sz40 : (Tryd.prog.info? 40).map (·.size) = some 1 := by kernel_rfl
theorem sz42 : (Tryd.prog.info? 42).map (·.size) = some 35 := by kernel_rfl
theorem sz44 : (Tryd.prog.info? 44).map (·.size) = some 33 := by kernel_rfl
theorem sz58 : (Tryd.prog.info? 58).map (·.size) = some 1 := by kernel_rfl
theorem sz62 : (Tryd.prog.info? 62).map (·.size) = some 1 := by kernel_rfl
theorem sz72 : (Tryd.prog.info? 72).map (·.size) = some 1 := by kernel_rfl
theorem sz95 : (Tryd.prog.info? 95).map (·.size) = some 1 := by kernel_rfl
theorem sz104 : (Tryd.prog.info? 104).map (·.size) = some 1 := by kernel_rfl
theorem sz110 : (Tryd.prog.info? 110).map (·.size) = some 1 := by kernel_rfl
theorem sz165 : (Tryd.prog.info? 165).map (·.size) = some 8 := by kernel_rfl
theorem sz188 : (Tryd.prog.info? 188).map (·.size) = some 64 := by kernel_rfl
theorem eg26 : Tryd.prog.eqGuardType Tryd.prog.depth 26 = false := by kernel_rfl
theorem xc121 : (Tryd.f121.name == "runtime.NumGoroutine") = false ∧ Tryd.f121.body.isNone = true ∧ Extern.findNext Tryd.f121 = none := ⟨by kernel_rfl, by kernel_rfl, by kernel_rfl⟩
theorem xe121 : Extern.find Tryd.f121 = some Extern.BytealgCompare.compare := by kernel_rfl
theorem cf9 : CalleeF Tryd.prog 9 := ⟨Tryd.f9, Tryd.func9, by decide, rfl⟩
theorem cf17 : CalleeF Tryd.prog 17 := ⟨Tryd.f17, Tryd.func17, by decide, rfl⟩
theorem cf18 : CalleeF Tryd.prog 18 := ⟨Tryd.f18, Tryd.func18, by decide, rfl⟩
theorem cf19 : CalleeF Tryd.prog 19 := ⟨Tryd.f19, Tryd.func19, by decide, rfl⟩
theorem cf22 : CalleeF Tryd.prog 22 := ⟨Tryd.f22, Tryd.func22, by decide, rfl⟩
theorem cf23 : CalleeF Tryd.prog 23 := ⟨Tryd.f23, Tryd.func23, by decide, rfl⟩
theorem cf24 : CalleeF Tryd.prog 24 := ⟨Tryd.f24, Tryd.func24, by decide, rfl⟩
theorem cf25 : CalleeF Tryd.prog 25 := ⟨Tryd.f25, Tryd.func25, by decide, rfl⟩
theorem cf26 : CalleeF Tryd.prog 26 := ⟨Tryd.f26, Tryd.func26, by decide, rfl⟩
theorem cf27 : CalleeF Tryd.prog 27 := ⟨Tryd.f27, Tryd.func27, by decide, rfl⟩
theorem cf28 : CalleeF Tryd.prog 28 := ⟨Tryd.f28, Tryd.func28, by decide, rfl⟩
theorem cf29 : CalleeF Tryd.prog 29 := ⟨Tryd.f29, Tryd.func29, by decide, rfl⟩
theorem cf30 : CalleeF Tryd.prog 30 := ⟨Tryd.f30, Tryd.func30, by decide, rfl⟩
theorem cf31 : CalleeF Tryd.prog 31 := ⟨Tryd.f31, Tryd.func31, by decide, rfl⟩
theorem cf32 : CalleeF Tryd.prog 32 := ⟨Tryd.f32, Tryd.func32, by decide, rfl⟩
theorem cf33 : CalleeF Tryd.prog 33 := ⟨Tryd.f33, Tryd.func33, by decide, rfl⟩
theorem cf36 : CalleeF Tryd.prog 36 := ⟨Tryd.f36, Tryd.func36, by decide, rfl⟩
theorem cf37 : CalleeF Tryd.prog 37 := ⟨Tryd.f37, Tryd.func37, by decide, rfl⟩
theorem cf49 : CalleeF Tryd.prog 49 := ⟨Tryd.f49, Tryd.func49, by decide, rfl⟩
theorem cf50 : CalleeF Tryd.prog 50 := ⟨Tryd.f50, Tryd.func50, by decide, rfl⟩
theorem cf51 : CalleeF Tryd.prog 51 := ⟨Tryd.f51, Tryd.func51, by decide, rfl⟩
theorem cf54 : CalleeF Tryd.prog 54 := ⟨Tryd.f54, Tryd.func54, by decide, rfl⟩
theorem cf55 : CalleeF Tryd.prog 55 := ⟨Tryd.f55, Tryd.func55, by decide, rfl⟩
theorem cf56 : CalleeF Tryd.prog 56 := ⟨Tryd.f56, Tryd.func56, by decide, rfl⟩
theorem cf57 : CalleeF Tryd.prog 57 := ⟨Tryd.f57, Tryd.func57, by decide, rfl⟩
theorem cf58 : CalleeF Tryd.prog 58 := ⟨Tryd.f58, Tryd.func58, by decide, rfl⟩
theorem cf59 : CalleeF Tryd.prog 59 := ⟨Tryd.f59, Tryd.func59, by decide, rfl⟩
theorem cf63 : CalleeF Tryd.prog 63 := ⟨Tryd.f63, Tryd.func63, by decide, rfl⟩
theorem cf70 : CalleeF Tryd.prog 70 := ⟨Tryd.f70, Tryd.func70, by decide, rfl⟩
theorem cf71 : CalleeF Tryd.prog 71 := ⟨Tryd.f71, Tryd.func71, by decide, rfl⟩
theorem cf72 : CalleeF Tryd.prog 72 := ⟨Tryd.f72, Tryd.func72, by decide, rfl⟩
theorem cf73 : CalleeF Tryd.prog 73 := ⟨Tryd.f73, Tryd.func73, by decide, rfl⟩
theorem cf74 : CalleeF Tryd.prog 74 := ⟨Tryd.f74, Tryd.func74, by decide, rfl⟩
theorem cf75 : CalleeF Tryd.prog 75 := ⟨Tryd.f75, Tryd.func75, by decide, rfl⟩
theorem cf76 : CalleeF Tryd.prog 76 := ⟨Tryd.f76, Tryd.func76, by decide, rfl⟩
theorem cf80 : CalleeF Tryd.prog 80 := ⟨Tryd.f80, Tryd.func80, by decide, rfl⟩
theorem cf81 : CalleeF Tryd.prog 81 := ⟨Tryd.f81, Tryd.func81, by decide, rfl⟩
theorem cf82 : CalleeF Tryd.prog 82 := ⟨Tryd.f82, Tryd.func82, by decide, rfl⟩
theorem cf83 : CalleeF Tryd.prog 83 := ⟨Tryd.f83, Tryd.func83, by decide, rfl⟩
theorem cf85 : CalleeF Tryd.prog 85 := ⟨Tryd.f85, Tryd.func85, by decide, rfl⟩
theorem cf99 : CalleeF Tryd.prog 99 := ⟨Tryd.f99, Tryd.func99, by decide, rfl⟩
theorem cf100 : CalleeF Tryd.prog 100 := ⟨Tryd.f100, Tryd.func100, by decide, rfl⟩
theorem cf102 : CalleeF Tryd.prog 102 := ⟨Tryd.f102, Tryd.func102, by decide, rfl⟩
theorem cf104 : CalleeF Tryd.prog 104 := ⟨Tryd.f104, Tryd.func104, by decide, rfl⟩
theorem cf105 : CalleeF Tryd.prog 105 := ⟨Tryd.f105, Tryd.func105, by decide, rfl⟩
theorem cf106 : CalleeF Tryd.prog 106 := ⟨Tryd.f106, Tryd.func106, by decide, rfl⟩
theorem cf107 : CalleeF Tryd.prog 107 := ⟨Tryd.f107, Tryd.func107, by decide, rfl⟩
theorem cf108 : CalleeF Tryd.prog 108 := ⟨Tryd.f108, Tryd.func108, by decide, rfl⟩
theorem cf109 : CalleeF Tryd.prog 109 := ⟨Tryd.f109, Tryd.func109, by decide, rfl⟩
theorem cf116 : CalleeF Tryd.prog 116 := ⟨Tryd.f116, Tryd.func116, by decide, rfl⟩
theorem cf117 : CalleeF Tryd.prog 117 := ⟨Tryd.f117, Tryd.func117, by decide, rfl⟩
theorem cf122 : CalleeF Tryd.prog 122 := ⟨Tryd.f122, Tryd.func122, by decide, rfl⟩
theorem cf123 : CalleeF Tryd.prog 123 := ⟨Tryd.f123, Tryd.func123, by decide, rfl⟩
theorem cf124 : CalleeF Tryd.prog 124 := ⟨Tryd.f124, Tryd.func124, by decide, rfl⟩
theorem cf125 : CalleeF Tryd.prog 125 := ⟨Tryd.f125, Tryd.func125, by decide, rfl⟩
theorem cf136 : CalleeF Tryd.prog 136 := ⟨Tryd.f136, Tryd.func136, by decide, rfl⟩
theorem cf137 : CalleeF Tryd.prog 137 := ⟨Tryd.f137, Tryd.func137, by decide, rfl⟩
theorem cf138 : CalleeF Tryd.prog 138 := ⟨Tryd.f138, Tryd.func138, by decide, rfl⟩
theorem cf139 : CalleeF Tryd.prog 139 := ⟨Tryd.f139, Tryd.func139, by decide, rfl⟩
theorem cf140 : CalleeF Tryd.prog 140 := ⟨Tryd.f140, Tryd.func140, by decide, rfl⟩
theorem cf146 : CalleeF Tryd.prog 146 := ⟨Tryd.f146, Tryd.func146, by decide, rfl⟩
theorem cf164 : CalleeF Tryd.prog 164 := ⟨Tryd.f164, Tryd.func164, by decide, rfl⟩
theorem cf165 : CalleeF Tryd.prog 165 := ⟨Tryd.f165, Tryd.func165, by decide, rfl⟩
theorem cf166 : CalleeF Tryd.prog 166 := ⟨Tryd.f166, Tryd.func166, by decide, rfl⟩
theorem zr5 : ∃ z, (Tryd.prog.info? 5).map (·.zero) = some (some z) ∧ z.cells = ([[.int .u8 0]] : List (List Value)).flatten.toArray := ⟨.int .u8 0, by kernel_rfl, by kernel_rfl⟩
theorem zr24 : ∃ z, (Tryd.prog.info? 24).map (·.zero) = some (some z) ∧ z.cells = ([[.int .u32 0]] : List (List Value)).flatten.toArray := ⟨.int .u32 0, by kernel_rfl, by kernel_rfl⟩
theorem zr26 : ∃ z, (Tryd.prog.info? 26).map (·.zero) = some (some z) ∧ z.cells = ([av .u8 32 (List.replicate 32 0)] : List (List Value)).flatten.toArray := ⟨.agg #[.int .u8 0, .int .u8 0, .int .u8 0, .int .u8 0, .int .u8 0, .int .u8 0, .int .u8 0, .int .u8 0, .int .u8 0, .int .u8 0, .int .u8 0, .int .u8 0, .int .u8 0, .int .u8 0, .int .u8 0, .int .u8 0, .int .u8 0, .int .u8 0, .int .u8 0, .int .u8 0, .int .u8 0, .int .u8 0, .int .u8 0, .int .u8 0, .int .u8 0, .int .u8 0, .int .u8 0, .int .u8 0, .int .u8 0, .int .u8 0, .int .u8 0, .int .u8 0], by kernel_rfl, by kernel_rfl⟩
theorem zr28 : ∃ z, (Tryd.prog.info? 28).map (·.zero) = some (some z) ∧ z.cells = ([[.int .u32 0], av .u8 32 (List.replicate 32 0), av .u8 32 (List.replicate 32 0), [.int .u32 0], [.int .u32 0], [.int .u32 0]] : List (List Value)).flatten.toArray := ⟨.agg #[.int .u32 0, .int .u8 0, .int .u8 0, .int .u8 0, .int .u8 0, .int .u8 0, .int .u8 0, .int .u8 0, .int .u8 0, .int .u8 0, .int .u8 0, .int .u8 0, .int .u8 0, .int .u8 0, .int .u8 0, .int .u8 0, .int .u8 0, .int .u8 0, .int .u8 0, .int .u8 0, .int .u8 0, .int .u8 0, .int .u8 0, .int .u8 0, .int .u8 0, .int .u8 0, .int .u8 0, .int .u8 0, .int .u8 0, .int .u8 0, .int .u8 0, .int .u8 0, .int .u8 0, .int .u8 0, .int .u8 0, .int .u8 0, .int .u8 0, .int .u8 0, .int .u8 0, .int .u8 0, .int .u8 0, .int .u8 0, .int .u8 0, .int .u8 0, .int .u8 0, .int .u8 0, .int .u8 0, .int .u8 0, .int .u8 0, .int .u8 0, .int .u8 0, .int .u8 0, .int .u8 0, .int .u8 0, .int .u8 0, .int .u8 0, .int .u8 0, .int .u8 0, .int .u8 0, .int .u8 0, .int .u8 0, .int .u8 0, .int .u8 0, .int .u8 0, .int .u8 0, .int .u32 0, .int .u32 0, .int .u32 0], by kernel_rfl, by kernel_rfl⟩
theorem zr32 : ∃ z, (Tryd.prog.info? 32).map (·.zero) = some (some z) ∧ z.cells = ([[.int .u32 0], [(.slice none 0 0)], [(.slice none 0 0)], [.int .u32 0]] : List (List Value)).flatten.toArray := ⟨.agg #[.int .u32 0, .slice none 0 0, .slice none 0 0, .int .u32 0], by kernel_rfl, by kernel_rfl⟩
theorem zr37 : ∃ z, (Tryd.prog.info? 37).map (·.zero) = some (some z) ∧ z.cells = ([[.int .u32 0], av .u8 32 (List.replicate 32 0), av .u8 32 (List.replicate 32 0), [.int .u32 0], [.int .u32 0], [.int .u32 0], [(.slice none 0 0)]] : List (List Value)).flatten.toArray := ⟨.agg #[.int .u32 0, .int .u8 0, .int .u8 0, .int .u8 0, .int .u8 0, .int .u8 0, .int .u8 0, .int .u8 0, .int .u8 0, .int .u8 0, .int .u8 0, .int .u8 0, .int .u8 0, .int .u8 0, .int .u8 0, .int .u8 0, .int .u8 0, .int .u8 0, .int .u8 0, .int .u8 0, .int .u8 0, .int .u8 0, .int .u8 0, .int .u8 0, .int .u8 0, .int .u8 0, .int .u8 0, .int .u8 0, .int .u8 0, .int .u8 0, .int .u8 0, .int .u8 0, .int .u8 0, .int .u8 0, .int .u8 0, .int .u8 0, .int .u8 0, .int .u8 0, .int .u8 0, .int .u8 0, .int .u8 0, .int .u8 0, .int .u8 0, .int .u8 0, .int .u8 0, .int .u8 0, .int .u8 0, .int .u8 0, .int .u8 0, .int .u8 0, .int .u8 0, .int .u8 0, .int .u8 0, .int .u8 0, .int .u8 0, .int .u8 0, .int .u8 0, .int .u8 0, .int .u8 0, .int .u8 0, .int .u8 0, .int .u8 0, .int .u8 0, .int .u8 0, .int .u8 0, .int .u32 0, .int .u32 0, .int .u32 0, .slice none 0 0], by kernel_rfl, by kernel_rfl⟩
theorem zr39 : ∃ z, (Tryd.prog.info? 39).map (·.zero) = some (some z) ∧ z.cells = ([av .u8 32 (List.replicate 32 0), [.int .u32 0]] : List (List Value)).flatten.toArray := ⟨.agg #[.int .u8 0, .int .u8 0, .int .u8 0, .int .u8 0, .int .u8 0, .int .u8 0, .int .u8 0, .int .u8 0, .int .u8 0, .int .u8 0, .int .u8 0, .int .u8 0, .int .u8 0, .int .u8 0, .int .u8 0, .int .u8 0, .int .u8 0, .int .u8 0, .int .u8 0, .int .u8 0, .int .u8 0, .int .u8 0, .int .u8 0, .int .u8 0, .int .u8 0, .int .u8 0, .int .u8 0, .int .u8 0, .int .u8 0, .int .u8 0, .int .u8 0, .int .u8 0, .int .u32 0], by kernel_rfl, by kernel_rfl⟩
theorem zr40 : ∃ z, (Tryd.prog.info? 40).map (·.zero) = some (some z) ∧ z.cells = ([[(.slice none 0 0)]] : List (List Value)).flatten.toArray := ⟨.slice none 0 0, by kernel_rfl, by kernel_rfl⟩
theorem zr42 : ∃ z, (Tryd.prog.info? 42).map (·.zero) = some (some z) ∧ z.cells = ([av .u8 32 (List.replicate 32 0), [.int .u32 0], [(.slice none 0 0)], [.int .u32 0]] : List (List Value)).flatten.toArray := ⟨.agg #[.int .u8 0, .int .u8 0, .int .u8 0, .int .u8 0, .int .u8 0, .int .u8 0, .int .u8 0, .int .u8 0, .int .u8 0, .int .u8 0, .int .u8 0, .int .u8 0, .int .u8 0, .int .u8 0, .int .u8 0, .int .u8 0, .int .u8 0, .int .u8 0, .int .u8 0, .int .u8 0, .int .u8 0, .int .u8 0, .int .u8 0, .int .u8 0, .int .u8 0, .int .u8 0, .int .u8 0, .int .u8 0, .int .u8 0, .int .u8 0, .int .u8 0, .int .u8 0, .int .u32 0, .slice none 0 0, .int .u32 0], by kernel_rfl, by kernel_rfl⟩
theorem zr44 : ∃ z, (Tryd.prog.info? 44).map (·.zero) = some (some z) ∧ z.cells = ([[.int .u64 0], av .u8 32 (List.replicate 32 0)] : List (List Value)).flatten.toArray := ⟨.agg #[.int .u64 0, .int .u8 0, .int .u8 0, .int .u8 0, .int .u8 0, .int .u8 0, .int .u8 0, .int .u8 0, .int .u8 0, .int .u8 0, .int .u8 0, .int .u8 0, .int .u8 0, .int .u8 0, .int .u8 0, .int .u8 0, .int .u8 0, .int .u8 0, .int .u8 0, .int .u8 0, .int .u8 0, .int .u8 0, .int .u8 0, .int .u8 0, .int .u8 0, .int .u8 0, .int .u8 0, .int .u8 0, .int .u8 0, .int .u8 0, .int .u8 0, .int .u8 0, .int .u8 0], by kernel_rfl, by kernel_rfl⟩
theorem zr94 : ∃ z, (Tryd.prog.info? 94).map (·.zero) = some (some z) ∧ z.cells = ([[.int .u32 0], av .u8 32 (List.replicate 32 0), av .u8 32 (List.replicate 32 0), [.int .u32 0], [.int .u32 0], [.int .u32 0], [.int .i64 0], [.int .u64 0], [(.slice none 0 0)]] : List (List Value)).flatten.toArray := ⟨.agg #[.int .u32 0, .int .u8 0, .int .u8 0, .int .u8 0, .int .u8 0, .int .u8 0, .int .u8 0, .int .u8 0, .int .u8 0, .int .u8 0, .int .u8 0, .int .u8 0, .int .u8 0, .int .u8 0, .int .u8 0, .int .u8 0, .int .u8 0, .int .u8 0, .int .u8 0, .int .u8 0, .int .u8 0, .int .u8 0, .int .u8 0, .int .u8 0, .int .u8 0, .int .u8 0, .int .u8 0, .int .u8 0, .int .u8 0, .int .u8 0, .int .u8 0, .int .u8 0, .int .u8 0, .int .u8 0, .int .u8 0, .int .u8 0, .int .u8 0, .int .u8 0, .int .u8 0, .int .u8 0, .int .u8 0, .int .u8 0, .int .u8 0, .int .u8 0, .int .u8 0, .int .u8 0, .int .u8 0, .int .u8 0, .int .u8 0, .int .u8 0, .int .u8 0, .int .u8 0, .int .u8 0, .int .u8 0, .int .u8 0, .int .u8 0, .int .u8 0, .int .u8 0, .int .u8 0, .int .u8 0, .int .u8 0, .int .u8 0, .int .u8 0, .int .u8 0, .int .u8 0, .int .u32 0, .int .u32 0, .int .u32 0, .int .i64 0, .int .u64 0, .slice none 0 0], by kernel_rfl, by kernel_rfl⟩
theorem zr97 : ∃ z, (Tryd.prog.info? 97).map (·.zero) = some (some z) ∧ z.cells = ([[.map none], av .u8 32 (List.replicate 32 0)] : List (List Value)).flatten.toArray := ⟨.agg #[.map none, .int .u8 0, .int .u8 0, .int .u8 0, .int .u8 0, .int .u8 0, .int .u8 0, .int .u8 0, .int .u8 0, .int .u8 0, .int .u8 0, .int .u8 0, .int .u8 0, .int .u8 0, .int .u8 0, .int .u8 0, .int .u8 0, .int .u8 0, .int .u8 0, .int .u8 0, .int .u8 0, .int .u8 0, .int .u8 0, .int .u8 0, .int .u8 0, .int .u8 0, .int .u8 0, .int .u8 0, .int .u8 0, .int .u8 0, .int .u8 0, .int .u8 0, .int .u8 0], by kernel_rfl, by kernel_rfl⟩
theorem zr104 : ∃ z, (Tryd.prog.info? 104).map (·.zero) = some (some z) ∧ z.cells = ([[.map none]] : List (List Value)).flatten.toArray := ⟨.map none, by kernel_rfl, by kernel_rfl⟩
theorem zr106 : ∃ z, (Tryd.prog.info? 106).map (·.zero) = some (some z) ∧ z.cells = ([[.pointer none], [.map none]] : List (List Value)).flatten.toArray := ⟨.agg #[.pointer none, .map none], by kernel_rfl, by kernel_rfl⟩
theorem zr112 : ∃ z, (Tryd.prog.info? 112).map (·.zero) = some (some z) ∧ z.cells = ([[(.slice none 0 0)], [.pointer none], [.nilFunc]] : List (List Value)).flatten.toArray := ⟨.agg #[.slice none 0 0, .pointer none, .nilFunc], by kernel_rfl, by kernel_rfl⟩
theorem zr165 : ∃ z, (Tryd.prog.info? 165).map (·.zero) = some (some z) ∧ z.cells = ([av .u32 8 (List.replicate 8 0)] : List (List Value)).flatten.toArray := ⟨.agg #[.int .u32 0, .int .u32 0, .int .u32 0, .int .u32 0, .int .u32 0, .int .u32 0, .int .u32 0, .int .u32 0], by kernel_rfl, by kernel_rfl⟩
theorem zr167 : ∃ z, (Tryd.prog.info? 167).map (·.zero) = some (some z) ∧ z.cells = ([av .u32 8 (List.replicate 8 0), [(.slice none 0 0)], [.int .i64 0]] : List (List Value)).flatten.toArray := ⟨.agg #[.int .u32 0, .int .u32 0, .int .u32 0, .int .u32 0, .int .u32 0, .int .u32 0, .int .u32 0, .int .u32 0, .slice none 0 0, .int .i64 0], by kernel_rfl, by kernel_rfl⟩
theorem zr188 : ∃ z, (Tryd.prog.info? 188).map (·.zero) = some (some z) ∧ z.cells = ([av .u32 64 (List.replicate 64 0)] : List (List Value)).flatten.toArray := ⟨.agg #[.int .u32 0, .int .u32 0, .int .u32 0, .int .u32 0, .int .u32 0, .int .u32 0, .int .u32 0, .int .u32 0, .int .u32 0, .int .u32 0, .int .u32 0, .int .u32 0, .int .u32 0, .int .u32 0, .int .u32 0, .int .u32 0, .int .u32 0, .int .u32 0, .int .u32 0, .int .u32 0, .int .u32 0, .int .u32 0, .int .u32 0, .int .u32 0, .int .u32 0, .int .u32 0, .int .u32 0, .int .u32 0, .int .u32 0, .int .u32 0, .int .u32 0, .int .u32 0, .int .u32 0, .int .u32 0, .int .u32 0, .int .u32 0, .int .u32 0, .int .u32 0, .int .u32 0, .int .u32 0, .int .u32 0, .int .u32 0, .int .u32 0, .int .u32 0, .int .u32 0, .int .u32 0, .int .u32 0, .int .u32 0, .int .u32 0, .int .u32 0, .int .u32 0, .int .u32 0, .int .u32 0, .int .u32 0, .int .u32 0, .int .u32 0, .int .u32 0, .int .u32 0, .int .u32 0, .int .u32 0, .int .u32 0, .int .u32 0, .int .u32 0, .int .u32 0], by kernel_rfl, by kernel_rfl⟩
theorem te5 : TyE Tryd.prog 5 1 1 := TyE.of (by kernel_rfl) (by kernel_rfl) ⟨.int .u8 0, by kernel_rfl, by kernel_rfl⟩
theorem te24 : TyE Tryd.prog 24 1 4 := TyE.of (by kernel_rfl) (by kernel_rfl) ⟨.int .u32 0, by kernel_rfl, by kernel_rfl⟩
theorem te26 : TyE Tryd.prog 26 32 32 := TyE.of (by kernel_rfl) (by kernel_rfl) ⟨.agg #[.int .u8 0, .int .u8 0, .int .u8 0, .int .u8 0, .int .u8 0, .int .u8 0, .int .u8 0, .int .u8 0, .int .u8 0, .int .u8 0, .int .u8 0, .int .u8 0, .int .u8 0, .int .u8 0, .int .u8 0, .int .u8 0, .int .u8 0, .int .u8 0, .int .u8 0, .int .u8 0, .int .u8 0, .int .u8 0, .int .u8 0, .int .u8 0, .int .u8 0, .int .u8 0, .int .u8 0, .int .u8 0, .int .u8 0, .int .u8 0, .int .u8 0, .int .u8 0], by kernel_rfl, by kernel_rfl⟩
theorem te32 : TyE Tryd.prog 32 4 64 := TyE.of (by kernel_rfl) (by kernel_rfl) ⟨.agg #[.int .u32 0, .slice none 0 0, .slice none 0 0, .int .u32 0], by kernel_rfl, by kernel_rfl⟩
theorem te40 : TyE Tryd.prog 40 1 24 := TyE.of (by kernel_rfl) (by kernel_rfl) ⟨.slice none 0 0, by kernel_rfl, by kernel_rfl⟩
theorem te42 : TyE Tryd.prog 42 35 72 := TyE.of (by kernel_rfl) (by kernel_rfl) ⟨.agg #[.int .u8 0, .int .u8 0, .int .u8 0, .int .u8 0, .int .u8 0, .int .u8 0, .int .u8 0, .int .u8 0, .int .u8 0, .int .u8 0, .int .u8 0, .int .u8 0, .int .u8 0, .int .u8 0, .int .u8 0, .int .u8 0, .int .u8 0, .int .u8 0, .int .u8 0, .int .u8 0, .int .u8 0, .int .u8 0, .int .u8 0, .int .u8 0, .int .u8 0, .int .u8 0, .int .u8 0, .int .u8 0, .int .u8 0, .int .u8 0, .int .u8 0, .int .u8 0, .int .u32 0, .slice none 0 0, .int .u32 0], by kernel_rfl, by kernel_rfl⟩
theorem te44 : TyE Tryd.prog 44 33 40 := TyE.of (by kernel_rfl) (by kernel_rfl) ⟨.agg #[.int .u64 0, .int .u8 0, .int .u8 0, .int .u8 0, .int .u8 0, .int .u8 0, .int .u8 0, .int .u8 0, .int .u8 0, .int .u8 0, .int .u8 0, .int .u8 0, .int .u8 0, .int .u8 0, .int .u8 0, .int .u8 0, .int .u8 0, .int .u8 0, .int .u8 0, .int .u8 0, .int .u8 0, .int .u8 0, .int .u8 0, .int .u8 0, .int .u8 0, .int .u8 0, .int .u8 0, .int .u8 0, .int .u8 0, .int .u8 0, .int .u8 0, .int .u8 0, .int .u8 0], by kernel_rfl, by kernel_rfl⟩
theorem rch109_Len (g : Nat) : Rch Tryd.prog 109 (.pointer (some ⟨g, 0, none⟩)) "Len" 164 := fun w => by kernel_rfl
theorem rch109_Less (g : Nat) : Rch Tryd.prog 109 (.pointer (some ⟨g, 0, none⟩)) "Less" 165 := fun w => by kernel_rfl
theorem rch109_Swap (g : Nat) : Rch Tryd.prog 109 (.pointer (some ⟨g, 0, none⟩)) "Swap" 166 := fun w => by kernel_rfl
theorem laidB : laidOutB Tryd.prog = true := by kernel_rfl
theorem mz104 : (Tryd.prog.info? 4).map (·.zero) = some (some (vv104 false)) := by kernel_rfl
theorem kk104 : Maps.Keyed Tryd.prog 26 := Maps.Keyed.of_law (deep_law_laid laidB (m := 5) (by decide) (of_decide_eq_true (by kernel_rfl)) (by kernel_rfl) (by kernel_rfl))
theorem kn104 : KeyN Tryd.prog 26 kv104 (fun x : List Int => Arr .u8 32 x) := keyN_arr Tryd.underlying26 Tryd.underlying5 (by kernel_rfl) (by kernel_rfl) kk104 (by kernel_rfl) ⟨_, (by kernel_rfl : Tryd.prog.types.size = 222 + 1)⟩
theorem mz95 : (Tryd.prog.info? 92).map (·.zero) = some (some (.pointer none)) := by kernel_rfl
theorem kk95 : Maps.Keyed Tryd.prog 26 := Maps.Keyed.of_law (deep_law_laid laidB (m := 5) (by decide) (of_decide_eq_true (by kernel_rfl)) (by kernel_rfl) (by kernel_rfl))
theorem kn95 : KeyN Tryd.prog 26 kv95 (fun x : List Int => Arr .u8 32 x) := keyN_arr Tryd.underlying26 Tryd.underlying5 (by kernel_rfl) (by kernel_rfl) kk95 (by kernel_rfl) ⟨_, (by kernel_rfl : Tryd.prog.types.size = 222 + 1)⟩
end Go.Proofs.YtdngkgkkblfcjaaDoor.T
namespace Go.Proofs.YtdngkgkkblfcjaaDoor.T
open Go Go.Proofs Go.Proofs.YtdngkgkkblfcjaaDoor.K
set_option linter.unusedVariables false
set_option linter.unusedSimpArgs false
noncomputable def math_bits_RotateLeft32.f (x0 : Int) (x1 : Int) : Option Int := (if 0 ≤ (bAnd .u64 (IntKind.u64.wrap x1) 31) then (if 0 ≤ (IntKind.u64.wrap (32 - (bAnd .u64 (IntKind.u64.wrap x1) 31))) then some (bOr .u32 (sL .u32 x0 (bAnd .u64 (IntKind.u64.wrap x1) 31)) (sR .u32 x0 (IntKind.u64.wrap (32 - (bAnd .u64 (IntKind.u64.wrap x1) 31))))) else none) else none)
noncomputable def sargassoref_Bytes.s0 (x0 : List Int) : ((List Int) × Int) → Option (((List Int) × Int) ⊕ (List Int)) := fun (s1, s2) => (if s2 < (x0.length : Int) then (if 0 ≤ s2 ∧ s2 < (x0.length : Int) then (if s1.length + 1 ≤ 140737488355328 then some (.inl (s1 ++ ([(x0.getD s2.toNat 0)] : List Int), IntKind.i64.wrap (s2 + 1))) else none) else none) else some (.inr s1))
noncomputable def sargassoref_Bytes.f (x0 : List Int) : Option (List Int) := (if 0 ≤ (0 : Int) ∧ (0 : Int) ≤ (x0.length : Int) ∧ (x0.length : Int) ≤ 140737488355328 then ((loopO (sargassoref_Bytes.s0 x0) ((List.replicate ((0 : Int).toNat) 0 : List Int), 0)).bind fun c1 => some c1) else none)
noncomputable def sargassoref_SameHash.s0 (x0 : List Int) (x1 : List Int) : Int → Option (Int ⊕ Bool) := fun s1 => (if s1 < 32 then (if 0 ≤ s1 ∧ s1 < 32 then (if (x0.getD s1.toNat 0) ≠ (x1.getD s1.toNat 0) then some (.inr false) else some (.inl (IntKind.i64.wrap (s1 + 1)))) else none) else some (.inr true))
noncomputable def sargassoref_SameHash.f (x0 : List Int) (x1 : List Int) : Option Bool := loopO (sargassoref_SameHash.s0 x0 x1) 0
noncomputable def sargassoref_HasHash.s0 (x0 : List (List Int)) (x1 : List Int) : Int → Option (Int ⊕ Bool) := fun s1 => (if s1 < (x0.length : Int) then (if 0 ≤ s1 ∧ s1 < (x0.length : Int) then ((sargassoref_SameHash.f (x0.getD s1.toNat []) x1).bind fun r1 => (if r1 = true then some (.inr true) else some (.inl (IntKind.i64.wrap (s1 + 1))))) else none) else some (.inr false))
noncomputable def sargassoref_HasHash.f (x0 : List (List Int)) (x1 : List Int) : Option Bool := loopO (sargassoref_HasHash.s0 x0 x1) 0
end Go.Proofs.YtdngkgkkblfcjaaDoor.T
namespace Go.Proofs.YtdngkgkkblfcjaaDoor.T
open Go Go.Proofs Go.Proofs.YtdngkgkkblfcjaaDoor.K
set_option linter.unusedVariables false
set_option linter.unusedSimpArgs false
set_option maxRecDepth 20000 in
theorem math_bits_RotateLeft32.c (μ : Store) (w0 : World) (hμ : Agr μ w0) (x0 : Int) (hx0 : InR .u32 x0) (x1 : Int) (hx1 : InR .i64 x1) (r : Int) (H : math_bits_RotateLeft32.f x0 x1 = some r) :
    Calls Tryd.prog 146 [.int .u32 x0, .int .i64 x1].toArray w0 (fun e w' => ∃ v, e = .returned v ∧ v = .int .u32 r ∧ InR .u32 r ∧ Iv w0 [] μ μ [] w') := by
  refine enter Tryd.func146 rfl Tryd.ntmps146 rfl fun a hA => ?_
  have hI := Iv.start hμ
  have H := bI H
  refine w_seq fun _ hN1 => w_reg <| sta hA rfl rfl fun a hA => ?_
  refine o_nil <| hN1 _ _ <| w_seq fun _ hN2 => w_reg <| stm hA rfl rfl fun a hA => 
    stp hA (r_conv Tryd.underlying3 Tryd.underlying133 hA rfl) rfl fun a hA => 
    stp hA (r_and hA rfl rfl) rfl fun a hA => 
    sta hA rfl rfl fun a hA => ?_
  refine o_nil <| hN2 _ _ <| w_seq fun _ hN3 => w_reg <| stm hA rfl rfl fun a hA => 
    stm hA rfl rfl fun a hA => ?_
  obtain ⟨hb1, H⟩ := bG H
  refine stp hA (r_shl hA rfl rfl hb1) rfl fun a hA => 
    stm hA rfl rfl fun a hA => 
    stm hA rfl rfl fun a hA => 
    stp hA (r_sub hA rfl rfl) rfl fun a hA => ?_
  obtain ⟨hb2, H⟩ := bG H
  refine stp hA (r_shr hA rfl rfl hb2) rfl fun a hA => 
    stp hA (r_or hA rfl rfl) rfl fun a hA => 
    sta hA rfl rfl fun a hA => ?_
  refine o_nil <| hN3 _ _ <| w_ret ?_
  obtain rfl := sJ H
  exact ret1 hA Tryd.results146 rfl ⟨_, rfl, rfl, (wrap_in _ _), hI.forget0⟩
set_option maxRecDepth 20000 in
theorem sargassoref_Bytes.c (μ : Store) (w0 : World) (hμ : Agr μ w0) (x0 : List Int) (u0 : Value) (hx0 : Slc (RI .u8) 1 μ u0 x0) (r : List Int) (H : sargassoref_Bytes.f x0 = some r) :
    Calls Tryd.prog 74 [u0].toArray w0 (fun e w' => ∃ v, e = .returned v ∧ ∃ (v0 : Value) (c0 : List Value), v = v0 ∧ Els (RI .u8) 1 r c0 ∧ Iv w0 [] μ μ [row 5 1 v0 r.length c0] w') := by
  refine enter Tryd.func74 rfl Tryd.ntmps74 rfl fun a hA => ?_
  have hI := Iv.start hμ
  have H := bI H
  refine w_seq fun _ hN1 => w_reg <| sta hA rfl rfl fun a hA => ?_
  refine o_nil <| hN1 _ _ <| w_seq fun _ hN2 => w_reg <| stm hA rfl rfl fun a hA => ?_
  obtain ⟨_, hsl1⟩ := Slc.sv hx0
  refine stp hA (r_slen Tryd.underlying40 hsl1 hA rfl) rfl fun a hA => ?_
  obtain ⟨hb1, H⟩ := bG H
  refine o_make (RE := (RI .u8)) (c0 := [[.int .u8 0]].flatten) (z0 := 0) ⟨rfl, (in_lit .u8 0 rfl)⟩ te5 rfl zr5 Tryd.underlying40 hI hA rfl rfl (by have hq := hb1; simp only [maxLen]; omega) rfl fun g1 cs1 a w hE1 hA hI => 
    sta hA rfl rfl fun a hA => ?_
  refine o_nil <| hN2 _ _ ?_
  obtain ⟨c1, hz1, Hk1⟩ := bB H
  refine w_cut (fun a w => ∃ (vvc1 : Value) (ccc1 : List Value), Els (RI .u8) 1 c1 ccc1 ∧ Fr a 22 [(2, (.slice none 0 0)), (3, vvc1)] ∧ Iv w0 [] μ μ [row 5 1 vvc1 c1.length ccc1] w) ?_ ?_
  · have H := bI hz1
    refine w_seq fun _ hN3 => w_reg <| sta hA rfl rfl fun a hA => ?_
    refine o_nil <| hN3 _ _ <| w_block ?_
    obtain ⟨z1, hz2, Hk2⟩ := bind_some H
    obtain ⟨n1, hn1⟩ := loopO_some hz2
    refine w_loop (fun n a w => ∃ (s1 : List Int) (s2 : Int) (vvs1 : Value) (ccs1 : List Value), loopN (sargassoref_Bytes.s0 x0) n (s1, s2) = some z1 ∧ Els (RI .u8) 1 s1 ccs1 ∧ InR .i64 s2 ∧ Fr a 22 [(0, u0), (2, (.slice none 0 0)), (3, vvs1), (4, .int .i64 s2)] ∧ Iv w0 [] μ μ [row 5 1 vvs1 s1.length ccs1] w) n1 ⟨(List.replicate ((0 : Int).toNat) 0 : List Int), 0, (.slice (some ⟨g1, 0, none⟩) ((0 : Int).toNat) (((x0.length : Int)).toNat)), cs1, hn1, hE1, (in_lit .i64 0 rfl), hA.sub ⟨rfl, rfl, rfl, rfl, trivial⟩, hI⟩ ?_
    clear hA hI
    rintro n a w ⟨s1, s2, vvs1, ccs1, hn1, ws1, ws2, hA, hI⟩
    obtain ⟨m1, rfl, H⟩ := loopN_bind hn1
    clear hn1
    refine w_seq fun _ hN4 => w_seq fun _ hN5 => w_reg <| stm hA rfl rfl fun a hA => 
      stm hA rfl rfl fun a hA => ?_
    obtain ⟨_, hsl2⟩ := Slc.sv hx0
    refine stp hA (r_slen Tryd.underlying40 hsl2 hA rfl) rfl fun a hA => 
      stp hA (r_lss hA rfl rfl) rfl fun a hA => ?_
    refine o_nil <| hN5 _ _ <| w_cond hA rfl (fun hc1 => ?_) (fun hc1 => ?_)
    · obtain ⟨hc1, H⟩ := dT H hc1
      refine w_skip <| hN4 _ _ <| w_seq fun _ hN6 => w_block <| w_reg <| stm hA rfl rfl fun a hA => 
        stm hA rfl rfl fun a hA => 
        stm hA rfl rfl fun a hA => ?_
      obtain ⟨hb2, H⟩ := bG H
      obtain ⟨_, he1, _, hat1⟩ := Slc.elem1 hx0 (getD_some 0 hb2.1 hb2.2)
      obtain ⟨rfl, hw1⟩ := he1
      obtain ⟨_, hsl3⟩ := Slc.sv hx0
      refine stp hA (r_six1 Tryd.underlying40 sz5 hsl3 hA rfl rfl hb2.1 hb2.2) rfl fun a hA => 
        stp hA (r_ldm1 [] [] Tryd.underlying5 rfl hI.agr hat1 hA rfl rfl) rfl fun a hA => ?_
      have hE2 : Els (RI .u8) 1 ([(x0.getD s2.toNat 0)] : List Int) _ := (Els.cons (c := [[.int .u8 (x0.getD s2.toNat 0)]].flatten) ⟨rfl, hw1⟩ rfl Els.nil)
      refine o_bsl ([[.int .u8 (x0.getD s2.toNat 0)]].flatten ++ ([])) te5 zr5 Tryd.underlying40 hI hA rfl rfl rfl rfl (by kernel_rfl) rfl fun g2 a w hA hI => ?_
      generalize hcs : ([[.int .u8 (x0.getD s2.toNat 0)]].flatten ++ ([]) : List Value) = cs2 at hE2 hI
      clear hcs
      obtain ⟨hb3, H⟩ := bG H
      have hE4 := ws1.app hE2
      refine o_appG (xs := (s1 : List Int)) (ys := (([(x0.getD s2.toNat 0)] : List Int) : List Int)) (M := 140737488355328) 1 te5 Tryd.underlying40 hI rfl hA rfl rfl (src_row hI (j := 0) rfl) hE2.len (hE2.ones (one_RI _)) hb3 rfl fun v1 a w hA hI => 
        sta hA rfl rfl fun a hA => ?_
      refine o_nil <| hN6 _ _ <| w_reg <| stm hA rfl rfl fun a hA => 
        stp hA (r_add hA rfl rfl) rfl fun a hA => 
        sta hA rfl rfl fun a hA => ?_
      refine o_nil <| ⟨m1, Nat.lt_succ_self _, s1 ++ ([(x0.getD s2.toNat 0)] : List Int), IntKind.i64.wrap (s2 + 1), v1, ccs1 ++ cs2, H, hE4, (wrap_in _ _), hA.sub ⟨rfl, rfl, rfl, rfl, trivial⟩, (hI.sl [1] rfl)⟩
    · obtain ⟨hc1, H⟩ := dF H hc1
      refine w_exit rfl ?_
      have H : some s1 = some z1 := H
      obtain rfl := sI H
      have H := Hk2
      cases sJ H
      exact ⟨vvs1, ccs1, ws1, hA.sub ⟨rfl, rfl, trivial⟩, hI⟩
  · rintro a w ⟨vvc1, ccc1, wc1, hA, hI⟩
    have H := Hk1
    refine w_seq fun _ hN7 => w_reg <| stm hA rfl rfl fun a hA => 
      sta hA rfl rfl fun a hA => ?_
    refine o_nil <| hN7 _ _ <| w_ret ?_
    obtain rfl := sJ H
    exact ret1 hA Tryd.results74 rfl ⟨_, rfl, vvc1, ccc1, rfl, wc1, (hI.less (Store.le.refl _) hI.le)⟩
set_option maxRecDepth 20000 in
theorem sargassoref_SameHash.c (μ : Store) (w0 : World) (hμ : Agr μ w0) (x0 : List Int) (hx0 : Arr .u8 32 x0) (x1 : List Int) (hx1 : Arr .u8 32 x1) (r : Bool) (H : sargassoref_SameHash.f x0 x1 = some r) :
    Calls Tryd.prog 23 [.agg [av .u8 32 x0].flatten.toArray, .agg [av .u8 32 x1].flatten.toArray].toArray w0 (fun e w' => ∃ v, e = .returned v ∧ v = .bool r ∧ True ∧ Iv w0 [] μ μ [] w') := by
  refine enter Tryd.func23 rfl Tryd.ntmps23 rfl fun a hA => ?_
  have hI := Iv.start hμ
  have H := bI H
  refine w_seq fun _ hN1 => w_reg <| o_box [av .u8 32 x0] hI hA rfl rfl rfl fun g1 a w hA hI hg1 => 
    o_box [av .u8 32 x1] hI hA rfl rfl rfl fun g2 a w hA hI hg2 => 
    sta hA rfl rfl fun a hA => ?_
  refine o_nil <| hN1 _ _ <| w_seq fun _ hN2 => w_seq fun _ hN3 => w_reg <| sta hA rfl rfl fun a hA => ?_
  refine o_nil <| hN3 _ _ <| w_block ?_
  obtain ⟨z1, hz1, Hk1⟩ := bind_some H
  obtain ⟨n1, hn1⟩ := loopO_some hz1
  refine w_loop (fun n a w => ∃ (s1 : Int), loopN (sargassoref_SameHash.s0 x0 x1) n s1 = some z1 ∧ InR .i64 s1 ∧ Fr a 17 [(2, .pointer (some ⟨g1, 0, none⟩)), (3, .pointer (some ⟨g2, 0, none⟩)), (4, .bool false), (5, .int .i64 s1)] ∧ Iv w0 [] μ μ [cel g2 [av .u8 32 x1] 26, cel g1 [av .u8 32 x0] 26] w) n1 ⟨0, hn1, (in_lit .i64 0 rfl), hA.sub ⟨rfl, rfl, rfl, rfl, trivial⟩, hI⟩ ?_
  clear hA hI
  rintro n a w ⟨s1, hn1, ws1, hA, hI⟩
  obtain ⟨m1, rfl, H⟩ := loopN_bind hn1
  clear hn1
  refine w_seq fun _ hN4 => w_seq fun _ hN5 => w_reg <| stm hA rfl rfl fun a hA => 
    stp hA (r_lss hA rfl rfl) rfl fun a hA => ?_
  refine o_nil <| hN5 _ _ <| w_cond hA rfl (fun hc1 => ?_) (fun hc1 => ?_)
  · obtain ⟨hc1, H⟩ := dT H hc1
    refine w_skip <| hN4 _ _ <| w_seq fun _ hN6 => w_block <| w_seq fun _ hN7 => ?_
    refine w_draw mo (by kernel_rfl) hI ?_
    refine qtp hA (fun _ hI => r_mv hA rfl) rfl fun a hA => ?_
    obtain ⟨hb1, H⟩ := bG H
    refine qtp hA (fun _ hI => r_ixar1 Tryd.underlying26 sz5 hA rfl rfl hb1.1 hb1.2) rfl fun a hA => 
      qtp hA (fun _ hI => r_ldE (j := 1) [] [] Tryd.underlying5 rfl hI rfl hA rfl rfl (by omega)) rfl fun a hA => 
      qtp hA (fun _ hI => r_mv hA rfl) rfl fun a hA => 
      qtp hA (fun _ hI => r_ixar1 Tryd.underlying26 sz5 hA rfl rfl hb1.1 hb1.2) rfl fun a hA => 
      qtp hA (fun _ hI => r_ldE (j := 0) [] [] Tryd.underlying5 rfl hI rfl hA rfl rfl (by omega)) rfl fun a hA => 
      qtp hA (fun _ hI => r_neq hA rfl rfl) rfl fun a hA => ?_
    refine q_nil fun w hI => ?_
    refine hN7 _ _ <| w_cond hA rfl (fun hc2 => ?_) (fun hc2 => ?_)
    · obtain ⟨hc2, H⟩ := dT H hc2
      refine w_seq fun _ hN8 => w_reg <| sta hA rfl rfl fun a hA => ?_
      refine o_nil <| hN8 _ _ <| w_ret ?_
      have H : some false = some z1 := H
      obtain rfl := sI H
      have H := Hk1
      obtain rfl := sJ H
      exact ret1 hA Tryd.results23 rfl ⟨_, rfl, rfl, trivial, hI.forget0⟩
    · obtain ⟨hc2, H⟩ := dF H hc2
      refine w_skip <| hN6 _ _ <| w_reg <| stm hA rfl rfl fun a hA => 
        stp hA (r_add hA rfl rfl) rfl fun a hA => 
        sta hA rfl rfl fun a hA => ?_
      refine o_nil <| ⟨m1, Nat.lt_succ_self _, IntKind.i64.wrap (s1 + 1), H, (wrap_in _ _), hA.sub ⟨rfl, rfl, rfl, rfl, trivial⟩, hI⟩
  · obtain ⟨hc1, H⟩ := dF H hc1
    refine w_exit rfl <| hN2 _ _ <| w_seq fun _ hN9 => w_reg <| sta hA rfl rfl fun a hA => ?_
    refine o_nil <| hN9 _ _ <| w_ret ?_
    have H : some true = some z1 := H
    obtain rfl := sI H
    have H := Hk1
    obtain rfl := sJ H
    exact ret1 hA Tryd.results23 rfl ⟨_, rfl, rfl, trivial, hI.forget0⟩
set_option maxRecDepth 20000 in
theorem sargassoref_HasHash.c (μ : Store) (w0 : World) (hμ : Agr μ w0) (x0 : List (List Int)) (u0 : Value) (hx0 : Slc (RA .u8 32) 32 μ u0 x0) (x1 : List Int) (hx1 : Arr .u8 32 x1) (r : Bool) (H : sargassoref_HasHash.f x0 x1 = some r) :
    Calls Tryd.prog 32 [u0, .agg [av .u8 32 x1].flatten.toArray].toArray w0 (fun e w' => ∃ v, e = .returned v ∧ v = .bool r ∧ True ∧ Iv w0 [] μ μ [] w') := by
  refine enter Tryd.func32 rfl Tryd.ntmps32 rfl fun a hA => ?_
  have hI := Iv.start hμ
  have H := bI H
  refine w_seq fun _ hN1 => w_reg <| o_box [av .u8 32 x1] hI hA rfl rfl rfl fun g1 a w hA hI hg1 => 
    sta hA rfl rfl fun a hA => ?_
  refine o_nil <| hN1 _ _ <| w_seq fun _ hN2 => w_seq fun _ hN3 => w_reg <| sta hA rfl rfl fun a hA => ?_
  refine o_nil <| hN3 _ _ <| w_block ?_
  obtain ⟨z1, hz1, Hk1⟩ := bind_some H
  obtain ⟨n1, hn1⟩ := loopO_some hz1
  refine w_loop (fun n a w => ∃ (s1 : Int), loopN (sargassoref_HasHash.s0 x0 x1) n s1 = some z1 ∧ InR .i64 s1 ∧ Fr a 18 [(0, u0), (3, .pointer (some ⟨g1, 0, none⟩)), (4, .bool false), (5, .int .i64 s1)] ∧ Iv w0 [] μ μ [cel g1 [av .u8 32 x1] 26] w) n1 ⟨0, hn1, (in_lit .i64 0 rfl), hA.sub ⟨rfl, rfl, rfl, rfl, trivial⟩, hI⟩ ?_
  clear hA hI
  rintro n a w ⟨s1, hn1, ws1, hA, hI⟩
  obtain ⟨m1, rfl, H⟩ := loopN_bind hn1
  clear hn1
  refine w_seq fun _ hN4 => w_seq fun _ hN5 => w_reg <| stm hA rfl rfl fun a hA => 
    stm hA rfl rfl fun a hA => ?_
  obtain ⟨_, hsl1⟩ := Slc.sv hx0
  refine stp hA (r_slen Tryd.underlying62 hsl1 hA rfl) rfl fun a hA => 
    stp hA (r_lss hA rfl rfl) rfl fun a hA => ?_
  refine o_nil <| hN5 _ _ <| w_cond hA rfl (fun hc1 => ?_) (fun hc1 => ?_)
  · obtain ⟨hc1, H⟩ := dT H hc1
    refine w_skip <| hN4 _ _ <| w_seq fun _ hN6 => w_block <| w_seq fun _ hN7 => ?_
    refine w_draw mo (by kernel_rfl) hI ?_
    refine qtp hA (fun _ hI => r_mv hA rfl) rfl fun a hA => 
      qtp hA (fun _ hI => r_mv hA rfl) rfl fun a hA => ?_
    obtain ⟨hb1, H⟩ := bG H
    obtain ⟨_, he1, _, hat1⟩ := Slc.elem hx0 (getD_some [] hb1.1 hb1.2)
    obtain ⟨rfl, hw1⟩ := he1
    obtain ⟨_, hsl2⟩ := Slc.sv hx0
    refine qtp hA (fun _ hI => r_six Tryd.underlying62 sz26 hsl2 hA rfl rfl hb1.1 hb1.2) rfl fun a hA => 
      qtp hA (fun _ hI => r_ldmA [] [av .u8 32 (x0.getD s1.toNat [])] [] Tryd.underlying26 rfl sz26 rfl hI.agr hat1 hA rfl rfl) rfl fun a hA => 
      qtp hA (fun _ hI => r_ldA (j := 0) [] [av .u8 32 x1] [] Tryd.underlying26 rfl sz26 rfl hI rfl hA rfl rfl) rfl fun a hA => ?_
    obtain ⟨r1, hr1, H⟩ := bB H
    refine qcall (v := .bool r1) cf23 hA rfl (fun _ hI => plq (sargassoref_SameHash.c μ _ hI.agr (x0.getD s1.toNat []) hw1 x1 hx1 r1 hr1) hI) rfl fun a hA => ?_
    refine q_nil fun w hI => ?_
    refine hN7 _ _ <| w_cond hA rfl (fun hc2 => ?_) (fun hc2 => ?_)
    · have H := bT H hc2
      refine w_seq fun _ hN8 => w_reg <| sta hA rfl rfl fun a hA => ?_
      refine o_nil <| hN8 _ _ <| w_ret ?_
      have H : some true = some z1 := H
      obtain rfl := sI H
      have H := Hk1
      obtain rfl := sJ H
      exact ret1 hA Tryd.results32 rfl ⟨_, rfl, rfl, trivial, hI.forget0⟩
    · have hc2 := ft hc2; have H := bF H hc2
      refine w_skip <| hN6 _ _ <| w_reg <| stm hA rfl rfl fun a hA => 
        stp hA (r_add hA rfl rfl) rfl fun a hA => 
        sta hA rfl rfl fun a hA => ?_
      refine o_nil <| ⟨m1, Nat.lt_succ_self _, IntKind.i64.wrap (s1 + 1), H, (wrap_in _ _), hA.sub ⟨rfl, rfl, rfl, rfl, trivial⟩, hI⟩
  · obtain ⟨hc1, H⟩ := dF H hc1
    refine w_exit rfl <| hN2 _ _ <| w_seq fun _ hN9 => w_reg <| sta hA rfl rfl fun a hA => ?_
    refine o_nil <| hN9 _ _ <| w_ret ?_
    have H : some false = some z1 := H
    obtain rfl := sI H
    have H := Hk1
    obtain rfl := sJ H
    exact ret1 hA Tryd.results32 rfl ⟨_, rfl, rfl, trivial, hI.forget0⟩
end Go.Proofs.YtdngkgkkblfcjaaDoor.T
namespace Go.Proofs.YtdngkgkkblfcjaaDoor.T
open Go Go.Proofs Go.Proofs.YtdngkgkkblfcjaaDoor.K
set_option linter.unusedVariables false
set_option linter.unusedSimpArgs false
def bytes_Clone.f (x0 : List Int) : Option (List Int) := if x0.length ≤ 140737488355328 then some x0 else none
noncomputable def compact_number.s0 (x2 : Int) : ((List Int) × Int × Int) → Option (((List Int) × Int × Int) ⊕ ((List Int) × Int)) := fun (s1, s2, s3) => (if s3 < x2 then (if s1.length + 1 ≤ 140737488355328 then some (.inl (s1 ++ ([IntKind.u8.wrap s2] : List Int), sR .u64 s2 8, IntKind.i64.wrap (s3 + 1))) else none) else some (.inr (s1, s2)))
noncomputable def compact_number.f (x0 : List Int) (x1 : Int) (x2 : Int) : Option (List Int) := ((loopO (compact_number.s0 x2) (x0, x1, 0)).bind fun (c1, c2) => some c1)
noncomputable def compact_Four.f (x0 : List Int) (x1 : Int) : Option (List Int) := ((bytes_Clone.f x0).bind fun r1 => ((compact_number.f r1 (IntKind.u64.wrap x1) 4).bind fun r2 => some r2))
noncomputable def compact_Len.f (x0 : Int) : Option Int := (if x0 < 253 then some 1 else (if x0 < 65536 then some 3 else (if x0 < 4294967296 then some 5 else some 9)))
noncomputable def sargassoref1_little.s0 (x1 : Int) (x2 : Int) : ((List Int) × Int) → Option (((List Int) × Int) ⊕ (List Int)) := fun (s1, s2) => (if s2 < x2 then (if 0 ≤ (IntKind.u64.wrap (IntKind.i64.wrap (8 * s2))) then (if s1.length + 1 ≤ 140737488355328 then some (.inl (s1 ++ ([IntKind.u8.wrap (sR .u64 x1 (IntKind.u64.wrap (IntKind.i64.wrap (8 * s2))))] : List Int), IntKind.i64.wrap (s2 + 1))) else none) else none) else some (.inr s1))
noncomputable def sargassoref1_little.f (x0 : List Int) (x1 : Int) (x2 : Int) : Option (List Int) := ((loopO (sargassoref1_little.s0 x1 x2) (x0, 0)).bind fun c1 => some c1)
noncomputable def sargassoref1_Four.f (x0 : List Int) (x1 : Int) : Option (List Int) := ((sargassoref1_little.f x0 (IntKind.u64.wrap x1) 4).bind fun r1 => some r1)
noncomputable def sargassoref1_Len.f (x0 : Int) : Option Int := (if x0 < 253 then some 1 else (if x0 < 65536 then some 3 else (if x0 < 4294967296 then some 5 else some 9)))
noncomputable def sargassoref1_Put.f (x0 : List Int) (x1 : Int) : Option (List Int) := ((sargassoref1_Len.f x1).bind fun r1 => (if r1 = 1 then (if x0.length + 1 ≤ 140737488355328 then some (x0 ++ ([IntKind.u8.wrap x1] : List Int)) else none) else (if r1 = 3 then (if x0.length + 1 ≤ 140737488355328 then ((sargassoref1_little.f (x0 ++ ([253] : List Int)) x1 2).bind fun r2 => some r2) else none) else (if r1 = 5 then (if x0.length + 1 ≤ 140737488355328 then ((sargassoref1_little.f (x0 ++ ([254] : List Int)) x1 4).bind fun r3 => some r3) else none) else (if x0.length + 1 ≤ 140737488355328 then ((sargassoref1_little.f (x0 ++ ([255] : List Int)) x1 8).bind fun r4 => some r4) else none)))))
noncomputable def sargassoref1_Eight.f (x0 : List Int) (x1 : Int) : Option (List Int) := ((sargassoref1_little.f x0 x1 8).bind fun r1 => some r1)
end Go.Proofs.YtdngkgkkblfcjaaDoor.T
namespace Go.Proofs.YtdngkgkkblfcjaaDoor.T
open Go Go.Proofs Go.Proofs.YtdngkgkkblfcjaaDoor.K
set_option linter.unusedVariables false
set_option linter.unusedSimpArgs false
set_option maxRecDepth 20000 in
theorem bytes_Clone.c (μ : Store) (w0 : World) (hμ : Agr μ w0) (x0 : List Int) (u0 : Value) (hx0 : Slc (RI .u8) 1 μ u0 x0) (r : List Int) (H : bytes_Clone.f x0 = some r) :
    Calls Tryd.prog 107 [u0].toArray w0 (fun e w' => ∃ v, e = .returned v ∧ ∃ (v0 : Value) (c0 : List Value), v = v0 ∧ Els (RI .u8) 1 r c0 ∧ Iv w0 [] μ μ [row 5 1 v0 r.length c0] w') := by
  obtain ⟨hb, H⟩ := guard_some H
  obtain rfl := sI H
  obtain ⟨cs, hE, A, cp, rfl, h2, h3, h4, h5⟩ := hx0
  refine enter Tryd.func107 rfl Tryd.ntmps107 rfl fun a hA => ?_
  have hI := Iv.start hμ
  refine w_seq fun _ hN1 => w_reg (stp hA (r_as hA rfl) rfl fun a hA => o_nil (hN1 _ _ ?_))
  refine w_seq fun _ hN2 => w_seq fun _ hN3 => w_reg (stp hA (r_mv hA rfl) rfl fun a hA => stp hA (r_eqnil Tryd.underlying40 hA rfl rfl) rfl fun a hA => o_nil (hN3 _ _ ?_))
  refine w_cond hA rfl (fun hc => ?_) (fun hc => ?_)
  · have hx : x0 = [] := List.eq_nil_of_length_eq_zero (by
      rcases Nat.eq_zero_or_pos x0.length with h | h
      · exact h
      · rw [h4 (by omega)] at hc; cases hc)
    subst hx
    cases hE
    refine w_seq fun _ hN4 => w_reg (stp hA (r_as hA rfl) rfl fun a hA => o_nil (hN4 _ _ ?_))
    refine w_ret ?_
    have hI := hI.nilRow 5 1
    exact ret1 hA Tryd.results107 rfl ⟨_, rfl, .slice none 0 0, [], rfl, .nil, hI⟩
  · refine w_skip (hN2 _ _ ?_)
    refine w_seq fun _ hN5 => w_reg ?_
    refine o_bsl [] te5 zr5 Tryd.underlying40 hI hA rfl rfl rfl rfl (by kernel_rfl) rfl fun g a w hA hI => ?_
    refine stp hA (r_mv hA rfl) rfl fun a hA => ?_
    refine o_appL (xs := ([] : List Int)) (ys := x0) (j := 0) te5 Tryd.underlying40 hI rfl hA rfl rfl (src_sl hI.agr ⟨A, cp, rfl, h2, h3, h4, h5⟩ hE.len) hE.len (hE.ones (one_RI _)) (by simp only [List.length_nil, maxLen]; omega) (by simp only [List.length_nil]; omega) rfl fun v a w hA hI => ?_
    refine stp hA (r_as hA rfl) rfl fun a hA => o_nil (hN5 _ _ (w_ret ?_))
    exact ret1 hA Tryd.results107 rfl ⟨_, rfl, v, cs, rfl, hE, hI⟩
set_option maxRecDepth 20000 in
theorem compact_number.c (μ : Store) (w0 : World) (hμ : Agr μ w0) (x0 : List Int) (u0 : Value) (k0 : List Value) (hx0 : Els (RI .u8) 1 x0 k0) (ho0 : RowOK μ w0 5 1 u0 x0.length k0) (x1 : Int) (hx1 : InR .u64 x1) (x2 : Int) (hx2 : InR .i64 x2) (r : List Int) (H : compact_number.f x0 x1 x2 = some r) :
    Calls Tryd.prog 106 [u0, .int .u64 x1, .int .i64 x2].toArray w0 (fun e w' => ∃ v, e = .returned v ∧ ∃ (v0 : Value) (c0 : List Value), v = v0 ∧ Els (RI .u8) 1 r c0 ∧ Iv w0 (row 5 1 u0 x0.length k0).foot μ μ [row 5 1 v0 r.length c0] w') := by
  refine enter Tryd.func106 rfl Tryd.ntmps106 rfl fun a hA => ?_
  have hI := ho0.start hμ
  have H := bI H
  refine w_seq fun _ hN1 => w_reg <| sta hA rfl rfl fun a hA => ?_
  refine o_nil <| hN1 _ _ ?_
  obtain ⟨⟨c1, c2⟩, hz1, Hk1⟩ := bB H
  refine w_cut (fun a w => ∃ (vvc1 : Value) (ccc1 : List Value), Els (RI .u8) 1 c1 ccc1 ∧ InR .u64 c2 ∧ Fr a 19 [(0, vvc1), (1, .int .u64 c2), (6, (.slice none 0 0))] ∧ Iv w0 (row 5 1 u0 x0.length k0).foot μ μ [row 5 1 vvc1 c1.length ccc1] w) ?_ ?_
  · have H := bI hz1
    refine w_seq fun _ hN2 => w_reg <| stm hA rfl rfl fun a hA => 
      stm hA rfl rfl fun a hA => ?_
    refine o_nil <| hN2 _ _ <| w_block ?_
    obtain ⟨z1, hz2, Hk2⟩ := bind_some H
    obtain ⟨n1, hn1⟩ := loopO_some hz2
    refine w_loop (fun n a w => ∃ (s1 : List Int) (s2 : Int) (s3 : Int) (vvs1 : Value) (ccs1 : List Value), loopN (compact_number.s0 x2) n (s1, s2, s3) = some z1 ∧ Els (RI .u8) 1 s1 ccs1 ∧ InR .u64 s2 ∧ InR .i64 s3 ∧ Fr a 19 [(0, vvs1), (1, .int .u64 s2), (6, (.slice none 0 0)), (7, .int .i64 x2), (8, .int .i64 s3)] ∧ Iv w0 (row 5 1 u0 x0.length k0).foot μ μ [row 5 1 vvs1 s1.length ccs1] w) n1 ⟨x0, x1, 0, u0, k0, hn1, hx0, hx1, (in_lit .i64 0 rfl), hA.sub ⟨rfl, rfl, rfl, rfl, rfl, trivial⟩, hI⟩ ?_
    clear hA hI
    rintro n a w ⟨s1, s2, s3, vvs1, ccs1, hn1, ws1, ws2, ws3, hA, hI⟩
    obtain ⟨m1, rfl, H⟩ := loopN_bind hn1
    clear hn1
    refine w_seq fun _ hN3 => w_reg <| stp hA (r_lss hA rfl rfl) rfl fun a hA => ?_
    refine o_nil <| hN3 _ _ <| w_seq fun _ hN4 => w_cond hA rfl (fun hc1 => ?_) (fun hc1 => ?_)
    · obtain ⟨hc1, H⟩ := dT H hc1
      refine w_skip <| hN4 _ _ <| w_seq fun _ hN5 => w_block <| w_seq fun _ hN6 => w_reg <| stm hA rfl rfl fun a hA => 
        stm hA rfl rfl fun a hA => 
        stp hA (r_conv Tryd.underlying34 Tryd.underlying5 hA rfl) rfl fun a hA => ?_
      have hE1 : Els (RI .u8) 1 ([IntKind.u8.wrap s2] : List Int) _ := (Els.cons (c := [[.int .u8 (IntKind.u8.wrap s2)]].flatten) ⟨rfl, (wrap_in _ _)⟩ rfl Els.nil)
      refine o_bsl ([[.int .u8 (IntKind.u8.wrap s2)]].flatten ++ ([])) te5 zr5 Tryd.underlying40 hI hA rfl rfl rfl rfl (by kernel_rfl) rfl fun g1 a w hA hI => ?_
      generalize hcs : ([[.int .u8 (IntKind.u8.wrap s2)]].flatten ++ ([]) : List Value) = cs1 at hE1 hI
      clear hcs
      obtain ⟨hb1, H⟩ := bG H
      have hE3 := ws1.app hE1
      refine o_appG (xs := (s1 : List Int)) (ys := (([IntKind.u8.wrap s2] : List Int) : List Int)) (M := 140737488355328) 1 te5 Tryd.underlying40 hI rfl hA rfl rfl (src_row hI (j := 0) rfl) hE1.len (hE1.ones (one_RI _)) hb1 rfl fun v1 a w hA hI => 
        sta hA rfl rfl fun a hA => ?_
      refine o_nil <| hN6 _ _ <| w_reg <| stm hA rfl rfl fun a hA => 
        stp hA (r_shr hA rfl rfl (by decide)) rfl fun a hA => 
        sta hA rfl rfl fun a hA => ?_
      refine o_nil <| hN5 _ _ <| w_reg <| stp hA (r_add hA rfl rfl) rfl fun a hA => 
        stm hA rfl rfl fun a hA => ?_
      refine o_nil <| ⟨m1, Nat.lt_succ_self _, s1 ++ ([IntKind.u8.wrap s2] : List Int), sR .u64 s2 8, IntKind.i64.wrap (s3 + 1), v1, ccs1 ++ cs1, H, hE3, (sR_in rfl ws2 _), (wrap_in _ _), hA.sub ⟨rfl, rfl, rfl, rfl, rfl, trivial⟩, (hI.sl [1] rfl)⟩
    · obtain ⟨hc1, H⟩ := dF H hc1
      refine w_exit rfl ?_
      have H : some (s1, s2) = some z1 := H
      obtain rfl := sI H
      have H := Hk2
      cases sJ H
      exact ⟨vvs1, ccs1, ws1, ws2, hA.sub ⟨rfl, rfl, rfl, trivial⟩, hI⟩
  · rintro a w ⟨vvc1, ccc1, wc1, wc2, hA, hI⟩
    have H := Hk1
    refine w_seq fun _ hN7 => w_reg <| stm hA rfl rfl fun a hA => 
      sta hA rfl rfl fun a hA => ?_
    refine o_nil <| hN7 _ _ <| w_ret ?_
    obtain rfl := sJ H
    exact ret1 hA Tryd.results106 rfl ⟨_, rfl, vvc1, ccc1, rfl, wc1, (hI.less (Store.le.refl _) hI.le)⟩
set_option maxRecDepth 20000 in
theorem compact_Four.c (μ : Store) (w0 : World) (hμ : Agr μ w0) (x0 : List Int) (u0 : Value) (hx0 : Slc (RI .u8) 1 μ u0 x0) (x1 : Int) (hx1 : InR .u32 x1) (r : List Int) (H : compact_Four.f x0 x1 = some r) :
    Calls Tryd.prog 83 [u0, .int .u32 x1].toArray w0 (fun e w' => ∃ v, e = .returned v ∧ ∃ (v0 : Value) (c0 : List Value), v = v0 ∧ Els (RI .u8) 1 r c0 ∧ Iv w0 [] μ μ [row 5 1 v0 r.length c0] w') := by
  refine enter Tryd.func83 rfl Tryd.ntmps83 rfl fun a hA => ?_
  have hI := Iv.start hμ
  have H := bI H
  refine w_seq fun _ hN1 => w_reg <| sta hA rfl rfl fun a hA => ?_
  refine o_nil <| hN1 _ _ <| w_seq fun _ hN2 => w_reg <| stm hA rfl rfl fun a hA => ?_
  obtain ⟨r1, hr1, H⟩ := bB H
  refine o_call _ cf107 hA rfl (bytes_Clone.c μ _ hI.agr x0 u0 hx0 r1 hr1) rfl fun v1 a w hz1 hA => ?_
  obtain ⟨_, cs1, rfl, hE1, hi1⟩ := hz1
  have hI := hI.call hi1
  refine stm hA rfl rfl fun a hA => 
    stp hA (r_conv Tryd.underlying24 Tryd.underlying34 hA rfl) rfl fun a hA => ?_
  obtain ⟨r2, hr2, H⟩ := bB H
  refine o_call _ cf106 hA rfl (compact_number.c μ _ hI.agr r1 v1 cs1 hE1 (hI.item (j := 0) rfl) (IntKind.u64.wrap x1) (wrap_in _ _) 4 (in_lit .i64 4 rfl) r2 hr2) rfl fun v2 a w hz2 hA => ?_
  obtain ⟨_, cs2, rfl, hE2, hi2⟩ := hz2
  have hI := hI.call1 0 rfl hi2
  refine sta hA rfl rfl fun a hA => ?_
  refine o_nil <| hN2 _ _ <| w_ret ?_
  obtain rfl := sJ H
  exact ret1 hA Tryd.results83 rfl ⟨_, rfl, v2, cs2, rfl, hE2, (hI.less (Store.le.refl _) hI.le)⟩
set_option maxRecDepth 20000 in
theorem sargassoref1_little.c (μ : Store) (w0 : World) (hμ : Agr μ w0) (x0 : List Int) (u0 : Value) (k0 : List Value) (hx0 : Els (RI .u8) 1 x0 k0) (ho0 : RowOK μ w0 5 1 u0 x0.length k0) (x1 : Int) (hx1 : InR .u64 x1) (x2 : Int) (hx2 : InR .i64 x2) (r : List Int) (H : sargassoref1_little.f x0 x1 x2 = some r) :
    Calls Tryd.prog 63 [u0, .int .u64 x1, .int .i64 x2].toArray w0 (fun e w' => ∃ v, e = .returned v ∧ ∃ (v0 : Value) (c0 : List Value), v = v0 ∧ Els (RI .u8) 1 r c0 ∧ Iv w0 (row 5 1 u0 x0.length k0).foot μ μ [row 5 1 v0 r.length c0] w') := by
  refine enter Tryd.func63 rfl Tryd.ntmps63 rfl fun a hA => ?_
  have hI := ho0.start hμ
  have H := bI H
  refine w_seq fun _ hN1 => w_reg <| sta hA rfl rfl fun a hA => ?_
  refine o_nil <| hN1 _ _ ?_
  obtain ⟨c1, hz1, Hk1⟩ := bB H
  refine w_cut (fun a w => ∃ (vvc1 : Value) (ccc1 : List Value), Els (RI .u8) 1 c1 ccc1 ∧ Fr a 23 [(0, vvc1), (6, (.slice none 0 0))] ∧ Iv w0 (row 5 1 u0 x0.length k0).foot μ μ [row 5 1 vvc1 c1.length ccc1] w) ?_ ?_
  · have H := bI hz1
    refine w_seq fun _ hN2 => w_reg <| sta hA rfl rfl fun a hA => ?_
    refine o_nil <| hN2 _ _ <| w_block ?_
    obtain ⟨z1, hz2, Hk2⟩ := bind_some H
    obtain ⟨n1, hn1⟩ := loopO_some hz2
    refine w_loop (fun n a w => ∃ (s1 : List Int) (s2 : Int) (vvs1 : Value) (ccs1 : List Value), loopN (sargassoref1_little.s0 x1 x2) n (s1, s2) = some z1 ∧ Els (RI .u8) 1 s1 ccs1 ∧ InR .i64 s2 ∧ Fr a 23 [(0, vvs1), (1, .int .u64 x1), (2, .int .i64 x2), (6, (.slice none 0 0)), (7, .int .i64 s2)] ∧ Iv w0 (row 5 1 u0 x0.length k0).foot μ μ [row 5 1 vvs1 s1.length ccs1] w) n1 ⟨x0, 0, u0, k0, hn1, hx0, (in_lit .i64 0 rfl), hA.sub ⟨rfl, rfl, rfl, rfl, rfl, trivial⟩, hI⟩ ?_
    clear hA hI
    rintro n a w ⟨s1, s2, vvs1, ccs1, hn1, ws1, ws2, hA, hI⟩
    obtain ⟨m1, rfl, H⟩ := loopN_bind hn1
    clear hn1
    refine w_seq fun _ hN3 => w_seq fun _ hN4 => w_reg <| stm hA rfl rfl fun a hA => 
      stm hA rfl rfl fun a hA => 
      stp hA (r_lss hA rfl rfl) rfl fun a hA => ?_
    refine o_nil <| hN4 _ _ <| w_cond hA rfl (fun hc1 => ?_) (fun hc1 => ?_)
    · obtain ⟨hc1, H⟩ := dT H hc1
      refine w_skip <| hN3 _ _ <| w_seq fun _ hN5 => w_block <| w_reg <| stm hA rfl rfl fun a hA => 
        stm hA rfl rfl fun a hA => 
        stm hA rfl rfl fun a hA => 
        stp hA (r_mul hA rfl rfl) rfl fun a hA => 
        stp hA (r_conv Tryd.underlying3 Tryd.underlying133 hA rfl) rfl fun a hA => ?_
      obtain ⟨hb1, H⟩ := bG H
      refine stp hA (r_shr hA rfl rfl hb1) rfl fun a hA => 
        stp hA (r_conv Tryd.underlying34 Tryd.underlying5 hA rfl) rfl fun a hA => ?_
      have hE1 : Els (RI .u8) 1 ([IntKind.u8.wrap (sR .u64 x1 (IntKind.u64.wrap (IntKind.i64.wrap (8 * s2))))] : List Int) _ := (Els.cons (c := [[.int .u8 (IntKind.u8.wrap (sR .u64 x1 (IntKind.u64.wrap (IntKind.i64.wrap (8 * s2)))))]].flatten) ⟨rfl, (wrap_in _ _)⟩ rfl Els.nil)
      refine o_bsl ([[.int .u8 (IntKind.u8.wrap (sR .u64 x1 (IntKind.u64.wrap (IntKind.i64.wrap (8 * s2)))))]].flatten ++ ([])) te5 zr5 Tryd.underlying40 hI hA rfl rfl rfl rfl (by kernel_rfl) rfl fun g1 a w hA hI => ?_
      generalize hcs : ([[.int .u8 (IntKind.u8.wrap (sR .u64 x1 (IntKind.u64.wrap (IntKind.i64.wrap (8 * s2)))))]].flatten ++ ([]) : List Value) = cs1 at hE1 hI
      clear hcs
      obtain ⟨hb2, H⟩ := bG H
      have hE3 := ws1.app hE1
      refine o_appG (xs := (s1 : List Int)) (ys := (([IntKind.u8.wrap (sR .u64 x1 (IntKind.u64.wrap (IntKind.i64.wrap (8 * s2))))] : List Int) : List Int)) (M := 140737488355328) 1 te5 Tryd.underlying40 hI rfl hA rfl rfl (src_row hI (j := 0) rfl) hE1.len (hE1.ones (one_RI _)) hb2 rfl fun v1 a w hA hI => 
        sta hA rfl rfl fun a hA => ?_
      refine o_nil <| hN5 _ _ <| w_reg <| stm hA rfl rfl fun a hA => 
        stp hA (r_add hA rfl rfl) rfl fun a hA => 
        sta hA rfl rfl fun a hA => ?_
      refine o_nil <| ⟨m1, Nat.lt_succ_self _, s1 ++ ([IntKind.u8.wrap (sR .u64 x1 (IntKind.u64.wrap (IntKind.i64.wrap (8 * s2))))] : List Int), IntKind.i64.wrap (s2 + 1), v1, ccs1 ++ cs1, H, hE3, (wrap_in _ _), hA.sub ⟨rfl, rfl, rfl, rfl, rfl, trivial⟩, (hI.sl [1] rfl)⟩
    · obtain ⟨hc1, H⟩ := dF H hc1
      refine w_exit rfl ?_
      have H : some s1 = some z1 := H
      obtain rfl := sI H
      have H := Hk2
      cases sJ H
      exact ⟨vvs1, ccs1, ws1, hA.sub ⟨rfl, rfl, trivial⟩, hI⟩
  · rintro a w ⟨vvc1, ccc1, wc1, hA, hI⟩
    have H := Hk1
    refine w_seq fun _ hN6 => w_reg <| stm hA rfl rfl fun a hA => 
      sta hA rfl rfl fun a hA => ?_
    refine o_nil <| hN6 _ _ <| w_ret ?_
    obtain rfl := sJ H
    exact ret1 hA Tryd.results63 rfl ⟨_, rfl, vvc1, ccc1, rfl, wc1, (hI.less (Store.le.refl _) hI.le)⟩
set_option maxRecDepth 20000 in
theorem sargassoref1_Four.c (μ : Store) (w0 : World) (hμ : Agr μ w0) (x0 : List Int) (u0 : Value) (k0 : List Value) (hx0 : Els (RI .u8) 1 x0 k0) (ho0 : RowOK μ w0 5 1 u0 x0.length k0) (x1 : Int) (hx1 : InR .u32 x1) (r : List Int) (H : sargassoref1_Four.f x0 x1 = some r) :
    Calls Tryd.prog 36 [u0, .int .u32 x1].toArray w0 (fun e w' => ∃ v, e = .returned v ∧ ∃ (v0 : Value) (c0 : List Value), v = v0 ∧ Els (RI .u8) 1 r c0 ∧ Iv w0 (row 5 1 u0 x0.length k0).foot μ μ [row 5 1 v0 r.length c0] w') := by
  refine enter Tryd.func36 rfl Tryd.ntmps36 rfl fun a hA => ?_
  have hI := ho0.start hμ
  have H := bI H
  refine w_seq fun _ hN1 => w_reg <| sta hA rfl rfl fun a hA => ?_
  refine o_nil <| hN1 _ _ <| w_seq fun _ hN2 => w_reg <| stm hA rfl rfl fun a hA => 
    stm hA rfl rfl fun a hA => 
    stp hA (r_conv Tryd.underlying24 Tryd.underlying34 hA rfl) rfl fun a hA => ?_
  obtain ⟨r1, hr1, H⟩ := bB H
  refine o_call _ cf63 hA rfl (sargassoref1_little.c μ _ hI.agr x0 u0 k0 hx0 (hI.item (j := 0) rfl) (IntKind.u64.wrap x1) (wrap_in _ _) 4 (in_lit .i64 4 rfl) r1 hr1) rfl fun v1 a w hz1 hA => ?_
  obtain ⟨_, cs1, rfl, hE1, hi1⟩ := hz1
  have hI := hI.call1 0 rfl hi1
  refine sta hA rfl rfl fun a hA => ?_
  refine o_nil <| hN2 _ _ <| w_ret ?_
  obtain rfl := sJ H
  exact ret1 hA Tryd.results36 rfl ⟨_, rfl, v1, cs1, rfl, hE1, (hI.less (Store.le.refl _) hI.le)⟩
set_option maxRecDepth 20000 in
theorem sargassoref1_Len.c (μ : Store) (w0 : World) (hμ : Agr μ w0) (x0 : Int) (hx0 : InR .u64 x0) (r : Int) (H : sargassoref1_Len.f x0 = some r) :
    Calls Tryd.prog 140 [.int .u64 x0].toArray w0 (fun e w' => ∃ v, e = .returned v ∧ v = .int .i64 r ∧ InR .i64 r ∧ Iv w0 [] μ μ [] w') := by
  refine enter Tryd.func140 rfl Tryd.ntmps140 rfl fun a hA => ?_
  have hI := Iv.start hμ
  have H := bI H
  refine w_seq fun _ hN1 => w_reg <| sta hA rfl rfl fun a hA => ?_
  refine o_nil <| hN1 _ _ <| w_seq fun _ hN2 => w_block <| w_seq fun _ hN3 => w_reg <| stm hA rfl rfl fun a hA => 
    stp hA (r_lss hA rfl rfl) rfl fun a hA => 
    sta hA rfl rfl fun a hA => ?_
  refine o_nil <| hN3 _ _ <| w_cond hA rfl (fun hc1 => ?_) (fun hc1 => ?_)
  · obtain ⟨hc1, H⟩ := dT H hc1
    refine w_seq fun _ hN4 => w_reg <| sta hA rfl rfl fun a hA => ?_
    refine o_nil <| hN4 _ _ <| w_ret ?_
    obtain rfl := sJ H
    exact ret1 hA Tryd.results140 rfl ⟨_, rfl, rfl, (in_lit .i64 1 rfl), hI.forget0⟩
  · obtain ⟨hc1, H⟩ := dF H hc1
    refine w_seq fun _ hN5 => w_reg <| stm hA rfl rfl fun a hA => 
      stp hA (r_lss hA rfl rfl) rfl fun a hA => 
      sta hA rfl rfl fun a hA => ?_
    refine o_nil <| hN5 _ _ <| w_cond hA rfl (fun hc2 => ?_) (fun hc2 => ?_)
    · obtain ⟨hc2, H⟩ := dT H hc2
      refine w_seq fun _ hN6 => w_reg <| sta hA rfl rfl fun a hA => ?_
      refine o_nil <| hN6 _ _ <| w_ret ?_
      obtain rfl := sJ H
      exact ret1 hA Tryd.results140 rfl ⟨_, rfl, rfl, (in_lit .i64 3 rfl), hI.forget0⟩
    · obtain ⟨hc2, H⟩ := dF H hc2
      refine w_seq fun _ hN7 => w_reg <| stm hA rfl rfl fun a hA => 
        stp hA (r_lss hA rfl rfl) rfl fun a hA => 
        sta hA rfl rfl fun a hA => ?_
      refine o_nil <| hN7 _ _ <| w_cond hA rfl (fun hc3 => ?_) (fun hc3 => ?_)
      · obtain ⟨hc3, H⟩ := dT H hc3
        refine w_seq fun _ hN8 => w_reg <| sta hA rfl rfl fun a hA => ?_
        refine o_nil <| hN8 _ _ <| w_ret ?_
        obtain rfl := sJ H
        exact ret1 hA Tryd.results140 rfl ⟨_, rfl, rfl, (in_lit .i64 5 rfl), hI.forget0⟩
      · obtain ⟨hc3, H⟩ := dF H hc3
        refine w_skip <| hN2 _ _ <| w_seq fun _ hN9 => w_reg <| sta hA rfl rfl fun a hA => ?_
        refine o_nil <| hN9 _ _ <| w_ret ?_
        obtain rfl := sJ H
        exact ret1 hA Tryd.results140 rfl ⟨_, rfl, rfl, (in_lit .i64 9 rfl), hI.forget0⟩
set_option maxRecDepth 20000 in
theorem sargassoref1_Put.c (μ : Store) (w0 : World) (hμ : Agr μ w0) (x0 : List Int) (u0 : Value) (k0 : List Value) (hx0 : Els (RI .u8) 1 x0 k0) (ho0 : RowOK μ w0 5 1 u0 x0.length k0) (x1 : Int) (hx1 : InR .u64 x1) (r : List Int) (H : sargassoref1_Put.f x0 x1 = some r) :
    Calls Tryd.prog 124 [u0, .int .u64 x1].toArray w0 (fun e w' => ∃ v, e = .returned v ∧ ∃ (v0 : Value) (c0 : List Value), v = v0 ∧ Els (RI .u8) 1 r c0 ∧ Iv w0 (row 5 1 u0 x0.length k0).foot μ μ [row 5 1 v0 r.length c0] w') := by
  refine enter Tryd.func124 rfl Tryd.ntmps124 rfl fun a hA => ?_
  have hI := ho0.start hμ
  have H := bI H
  refine w_seq fun _ hN1 => w_reg <| sta hA rfl rfl fun a hA => ?_
  refine o_nil <| hN1 _ _ <| w_seq fun _ hN2 => w_seq fun _ hN3 => w_reg <| stm hA rfl rfl fun a hA => ?_
  obtain ⟨r1, hr1, H⟩ := bB H
  refine o_callp (u := .int .i64 r1) cf140 hA rfl hI (sargassoref1_Len.c μ _ hI.agr x1 hx1 r1 hr1) rfl fun a w hz1 hI hA => ?_
  refine o_nil <| hN3 _ _ <| w_block <| w_seq fun _ hN4 => w_reg <| stp hA (r_eql hA rfl rfl) rfl fun a hA => 
    sta hA rfl rfl fun a hA => ?_
  refine o_nil <| hN4 _ _ <| w_cond hA rfl (fun hc1 => ?_) (fun hc1 => ?_)
  · obtain ⟨hc1, H⟩ := dT H hc1
    refine w_seq fun _ hN5 => w_reg <| stm hA rfl rfl fun a hA => 
      stm hA rfl rfl fun a hA => 
      stp hA (r_conv Tryd.underlying34 Tryd.underlying5 hA rfl) rfl fun a hA => ?_
    have hE1 : Els (RI .u8) 1 ([IntKind.u8.wrap x1] : List Int) _ := (Els.cons (c := [[.int .u8 (IntKind.u8.wrap x1)]].flatten) ⟨rfl, (wrap_in _ _)⟩ rfl Els.nil)
    refine o_bsl ([[.int .u8 (IntKind.u8.wrap x1)]].flatten ++ ([])) te5 zr5 Tryd.underlying40 hI hA rfl rfl rfl rfl (by kernel_rfl) rfl fun g1 a w hA hI => ?_
    generalize hcs : ([[.int .u8 (IntKind.u8.wrap x1)]].flatten ++ ([]) : List Value) = cs1 at hE1 hI
    clear hcs
    obtain ⟨hb1, H⟩ := bG H
    have hE3 := hx0.app hE1
    refine o_appG (xs := (x0 : List Int)) (ys := (([IntKind.u8.wrap x1] : List Int) : List Int)) (M := 140737488355328) 1 te5 Tryd.underlying40 hI rfl hA rfl rfl (src_row hI (j := 0) rfl) hE1.len (hE1.ones (one_RI _)) hb1 rfl fun v1 a w hA hI => 
      sta hA rfl rfl fun a hA => ?_
    refine o_nil <| hN5 _ _ <| w_ret ?_
    obtain rfl := sJ H
    exact ret1 hA Tryd.results124 rfl ⟨_, rfl, v1, k0 ++ cs1, rfl, hE3, ((hI.sl [1] rfl).less (Store.le.refl _) hI.le)⟩
  · obtain ⟨hc1, H⟩ := dF H hc1
    refine w_seq fun _ hN6 => w_reg <| stp hA (r_eql hA rfl rfl) rfl fun a hA => 
      sta hA rfl rfl fun a hA => ?_
    refine o_nil <| hN6 _ _ <| w_cond hA rfl (fun hc2 => ?_) (fun hc2 => ?_)
    · obtain ⟨hc2, H⟩ := dT H hc2
      refine w_seq fun _ hN7 => w_reg <| stm hA rfl rfl fun a hA => ?_
      have hE4 : Els (RI .u8) 1 ([253] : List Int) _ := (Els.cons (c := [[.int .u8 253]].flatten) ⟨rfl, (in_lit .u8 253 rfl)⟩ rfl Els.nil)
      refine o_bsl ([[.int .u8 253]].flatten ++ ([])) te5 zr5 Tryd.underlying40 hI hA rfl rfl rfl rfl (by kernel_rfl) rfl fun g2 a w hA hI => ?_
      generalize hcs : ([[.int .u8 253]].flatten ++ ([]) : List Value) = cs4 at hE4 hI
      clear hcs
      obtain ⟨hb2, H⟩ := bG H
      have hE6 := hx0.app hE4
      refine o_appG (xs := (x0 : List Int)) (ys := (([253] : List Int) : List Int)) (M := 140737488355328) 1 te5 Tryd.underlying40 hI rfl hA rfl rfl (src_row hI (j := 0) rfl) hE4.len (hE4.ones (one_RI _)) hb2 rfl fun v2 a w hA hI => 
        stm hA rfl rfl fun a hA => ?_
      obtain ⟨r2, hr2, H⟩ := bB H
      refine o_call _ cf63 hA rfl (sargassoref1_little.c μ _ hI.agr (x0 ++ ([253] : List Int)) v2 (k0 ++ cs4) hE6 (hI.item (j := 1) rfl) x1 hx1 2 (in_lit .i64 2 rfl) r2 hr2) rfl fun v3 a w hz2 hA => ?_
      obtain ⟨_, cs7, rfl, hE7, hi1⟩ := hz2
      have hI := hI.call1 1 rfl hi1
      refine sta hA rfl rfl fun a hA => ?_
      refine o_nil <| hN7 _ _ <| w_ret ?_
      obtain rfl := sJ H
      exact ret1 hA Tryd.results124 rfl ⟨_, rfl, v3, cs7, rfl, hE7, ((hI.sl [0] rfl).less (Store.le.refl _) hI.le)⟩
    · obtain ⟨hc2, H⟩ := dF H hc2
      refine w_seq fun _ hN8 => w_reg <| stp hA (r_eql hA rfl rfl) rfl fun a hA => 
        sta hA rfl rfl fun a hA => ?_
      refine o_nil <| hN8 _ _ <| w_cond hA rfl (fun hc3 => ?_) (fun hc3 => ?_)
      · obtain ⟨hc3, H⟩ := dT H hc3
        refine w_seq fun _ hN9 => w_reg <| stm hA rfl rfl fun a hA => ?_
        have hE8 : Els (RI .u8) 1 ([254] : List Int) _ := (Els.cons (c := [[.int .u8 254]].flatten) ⟨rfl, (in_lit .u8 254 rfl)⟩ rfl Els.nil)
        refine o_bsl ([[.int .u8 254]].flatten ++ ([])) te5 zr5 Tryd.underlying40 hI hA rfl rfl rfl rfl (by kernel_rfl) rfl fun g3 a w hA hI => ?_
        generalize hcs : ([[.int .u8 254]].flatten ++ ([]) : List Value) = cs8 at hE8 hI
        clear hcs
        obtain ⟨hb3, H⟩ := bG H
        have hE10 := hx0.app hE8
        refine o_appG (xs := (x0 : List Int)) (ys := (([254] : List Int) : List Int)) (M := 140737488355328) 1 te5 Tryd.underlying40 hI rfl hA rfl rfl (src_row hI (j := 0) rfl) hE8.len (hE8.ones (one_RI _)) hb3 rfl fun v4 a w hA hI => 
          stm hA rfl rfl fun a hA => ?_
        obtain ⟨r3, hr3, H⟩ := bB H
        refine o_call _ cf63 hA rfl (sargassoref1_little.c μ _ hI.agr (x0 ++ ([254] : List Int)) v4 (k0 ++ cs8) hE10 (hI.item (j := 1) rfl) x1 hx1 4 (in_lit .i64 4 rfl) r3 hr3) rfl fun v5 a w hz3 hA => ?_
        obtain ⟨_, cs11, rfl, hE11, hi2⟩ := hz3
        have hI := hI.call1 1 rfl hi2
        refine sta hA rfl rfl fun a hA => ?_
        refine o_nil <| hN9 _ _ <| w_ret ?_
        obtain rfl := sJ H
        exact ret1 hA Tryd.results124 rfl ⟨_, rfl, v5, cs11, rfl, hE11, ((hI.sl [0] rfl).less (Store.le.refl _) hI.le)⟩
      · obtain ⟨hc3, H⟩ := dF H hc3
        refine w_skip <| hN2 _ _ <| w_seq fun _ hN10 => w_reg <| stm hA rfl rfl fun a hA => ?_
        have hE12 : Els (RI .u8) 1 ([255] : List Int) _ := (Els.cons (c := [[.int .u8 255]].flatten) ⟨rfl, (in_lit .u8 255 rfl)⟩ rfl Els.nil)
        refine o_bsl ([[.int .u8 255]].flatten ++ ([])) te5 zr5 Tryd.underlying40 hI hA rfl rfl rfl rfl (by kernel_rfl) rfl fun g4 a w hA hI => ?_
        generalize hcs : ([[.int .u8 255]].flatten ++ ([]) : List Value) = cs12 at hE12 hI
        clear hcs
        obtain ⟨hb4, H⟩ := bG H
        have hE14 := hx0.app hE12
        refine o_appG (xs := (x0 : List Int)) (ys := (([255] : List Int) : List Int)) (M := 140737488355328) 1 te5 Tryd.underlying40 hI rfl hA rfl rfl (src_row hI (j := 0) rfl) hE12.len (hE12.ones (one_RI _)) hb4 rfl fun v6 a w hA hI => 
          stm hA rfl rfl fun a hA => ?_
        obtain ⟨r4, hr4, H⟩ := bB H
        refine o_call _ cf63 hA rfl (sargassoref1_little.c μ _ hI.agr (x0 ++ ([255] : List Int)) v6 (k0 ++ cs12) hE14 (hI.item (j := 1) rfl) x1 hx1 8 (in_lit .i64 8 rfl) r4 hr4) rfl fun v7 a w hz4 hA => ?_
        obtain ⟨_, cs15, rfl, hE15, hi3⟩ := hz4
        have hI := hI.call1 1 rfl hi3
        refine sta hA rfl rfl fun a hA => ?_
        refine o_nil <| hN10 _ _ <| w_ret ?_
        obtain rfl := sJ H
        exact ret1 hA Tryd.results124 rfl ⟨_, rfl, v7, cs15, rfl, hE15, ((hI.sl [0] rfl).less (Store.le.refl _) hI.le)⟩
set_option maxRecDepth 20000 in
theorem sargassoref1_Eight.c (μ : Store) (w0 : World) (hμ : Agr μ w0) (x0 : List Int) (u0 : Value) (k0 : List Value) (hx0 : Els (RI .u8) 1 x0 k0) (ho0 : RowOK μ w0 5 1 u0 x0.length k0) (x1 : Int) (hx1 : InR .u64 x1) (r : List Int) (H : sargassoref1_Eight.f x0 x1 = some r) :
    Calls Tryd.prog 125 [u0, .int .u64 x1].toArray w0 (fun e w' => ∃ v, e = .returned v ∧ ∃ (v0 : Value) (c0 : List Value), v = v0 ∧ Els (RI .u8) 1 r c0 ∧ Iv w0 (row 5 1 u0 x0.length k0).foot μ μ [row 5 1 v0 r.length c0] w') := by
  refine enter Tryd.func125 rfl Tryd.ntmps125 rfl fun a hA => ?_
  have hI := ho0.start hμ
  have H := bI H
  refine w_seq fun _ hN1 => w_reg <| sta hA rfl rfl fun a hA => ?_
  refine o_nil <| hN1 _ _ <| w_seq fun _ hN2 => w_reg <| stm hA rfl rfl fun a hA => 
    stm hA rfl rfl fun a hA => ?_
  obtain ⟨r1, hr1, H⟩ := bB H
  refine o_call _ cf63 hA rfl (sargassoref1_little.c μ _ hI.agr x0 u0 k0 hx0 (hI.item (j := 0) rfl) x1 hx1 8 (in_lit .i64 8 rfl) r1 hr1) rfl fun v1 a w hz1 hA => ?_
  obtain ⟨_, cs1, rfl, hE1, hi1⟩ := hz1
  have hI := hI.call1 0 rfl hi1
  refine sta hA rfl rfl fun a hA => ?_
  refine o_nil <| hN2 _ _ <| w_ret ?_
  obtain rfl := sJ H
  exact ret1 hA Tryd.results125 rfl ⟨_, rfl, v1, cs1, rfl, hE1, (hI.less (Store.le.refl _) hI.le)⟩
end Go.Proofs.YtdngkgkkblfcjaaDoor.T
namespace Go.Proofs.YtdngkgkkblfcjaaDoor.T
open Go Go.Proofs Go.Proofs.YtdngkgkkblfcjaaDoor.K
set_option linter.unusedVariables false
set_option linter.unusedSimpArgs false
noncomputable def digest_begin.f : Option (List Int) := some ([1779033703, 3144134277, 1013904242, 2773480762, 1359893119, 2600822924, 528734635, 1541459225])
noncomputable def digest_Writer_state.f (x0 : digestWriter) : Option (List Int) := (if x0.n < 64 then ((digest_begin.f).bind fun r1 => some r1) else some x0.s)
noncomputable def digest_turn.f (x0 : Int) (x1 : Int) : Option Int := ((math_bits_RotateLeft32.f x0 (IntKind.i64.wrap (0 - x1))).bind fun r1 => some r1)
noncomputable def digest_spread.s0 (x0 : List Int) : (Int × (List Int)) → Option ((Int × (List Int)) ⊕ (List Int)) := fun (s1, s2) => (if s1 < 64 then (((if s1 < 16 then (if 0 ≤ (IntKind.i64.wrap (4 * s1)) ∧ (IntKind.i64.wrap (4 * s1)) ≤ (x0.length : Int) then (if 0 < (((x0.take ((x0.length : Int)).toNat).drop (IntKind.i64.wrap (4 * s1)).toNat).length : Int) then (if 1 < (((x0.take ((x0.length : Int)).toNat).drop (IntKind.i64.wrap (4 * s1)).toNat).length : Int) then (if 2 < (((x0.take ((x0.length : Int)).toNat).drop (IntKind.i64.wrap (4 * s1)).toNat).length : Int) then (if 3 < (((x0.take ((x0.length : Int)).toNat).drop (IntKind.i64.wrap (4 * s1)).toNat).length : Int) then (if 0 ≤ s1 ∧ s1 < 64 then some (s2.set s1.toNat (bOr .u32 (bOr .u32 (bOr .u32 (sL .u32 (IntKind.u32.wrap (((x0.take ((x0.length : Int)).toNat).drop (IntKind.i64.wrap (4 * s1)).toNat).getD (0 : Int).toNat 0)) 24) (sL .u32 (IntKind.u32.wrap (((x0.take ((x0.length : Int)).toNat).drop (IntKind.i64.wrap (4 * s1)).toNat).getD (1 : Int).toNat 0)) 16)) (sL .u32 (IntKind.u32.wrap (((x0.take ((x0.length : Int)).toNat).drop (IntKind.i64.wrap (4 * s1)).toNat).getD (2 : Int).toNat 0)) 8)) (IntKind.u32.wrap (((x0.take ((x0.length : Int)).toNat).drop (IntKind.i64.wrap (4 * s1)).toNat).getD (3 : Int).toNat 0)))) else none) else none) else none) else none) else none) else none) else (if 0 ≤ IntKind.i64.wrap (s1 - 2) ∧ IntKind.i64.wrap (s1 - 2) < 64 then (if 0 ≤ IntKind.i64.wrap (s1 - 15) ∧ IntKind.i64.wrap (s1 - 15) < 64 then (if 0 ≤ IntKind.i64.wrap (s1 - 7) ∧ IntKind.i64.wrap (s1 - 7) < 64 then (if 0 ≤ IntKind.i64.wrap (s1 - 16) ∧ IntKind.i64.wrap (s1 - 16) < 64 then ((digest_turn.f (s2.getD (IntKind.i64.wrap (s1 - 2)).toNat 0) 17).bind fun r1 => ((digest_turn.f (s2.getD (IntKind.i64.wrap (s1 - 2)).toNat 0) 19).bind fun r2 => ((digest_turn.f (s2.getD (IntKind.i64.wrap (s1 - 15)).toNat 0) 7).bind fun r3 => ((digest_turn.f (s2.getD (IntKind.i64.wrap (s1 - 15)).toNat 0) 18).bind fun r4 => (if 0 ≤ s1 ∧ s1 < 64 then some (s2.set s1.toNat (IntKind.u32.wrap ((IntKind.u32.wrap ((IntKind.u32.wrap ((bXor .u32 (bXor .u32 r1 r2) (sR .u32 (s2.getD (IntKind.i64.wrap (s1 - 2)).toNat 0) 10)) + (s2.getD (IntKind.i64.wrap (s1 - 7)).toNat 0))) + (bXor .u32 (bXor .u32 r3 r4) (sR .u32 (s2.getD (IntKind.i64.wrap (s1 - 15)).toNat 0) 3)))) + (s2.getD (IntKind.i64.wrap (s1 - 16)).toNat 0)))) else none))))) else none) else none) else none) else none))).bind fun c2 => some (.inl (IntKind.i64.wrap (s1 + 1), c2))) else some (.inr s2))
noncomputable def digest_spread.f (x0 : List Int) : Option (List Int) := ((loopO (digest_spread.s0 x0) (0, (List.replicate 64 0))).bind fun c1 => some c1)
def digest_keys.lit0 : List Int := [1116352408, 1899447441, 3049323471, 3921009573, 961987163, 1508970993, 2453635748, 2870763221, 3624381080, 310598401, 607225278, 1426881987, 1925078388, 2162078206, 2614888103, 3248222580, 3835390401, 4022224774, 264347078, 604807628, 770255983, 1249150122, 1555081692, 1996064986, 2554220882, 2821834349, 2952996808, 3210313671, 3336571891, 3584528711, 113926993, 338241895, 666307205, 773529912, 1294757372, 1396182291, 1695183700, 1986661051, 2177026350, 2456956037, 2730485921, 2820302411, 3259730800, 3345764771, 3516065817, 3600352804, 4094571909, 275423344, 430227734, 506948616, 659060556, 883997877, 958139571, 1322822218, 1537002063, 1747873779, 1955562222, 2024104815, 2227730452, 2361852424, 2428436474, 2756734187, 3204031479, 3329325298]
theorem digest_keys.lit0_in : ∀ x ∈ digest_keys.lit0, InR .u32 x := all_in (by kernel_rfl)
noncomputable def digest_keys.f : Option (List Int) := some digest_keys.lit0
noncomputable def digest_mix.s1 (c1 : List Int) : (Int × (List Int)) → Option ((Int × (List Int)) ⊕ (List Int)) := fun (s3, s4) => (if s3 < 8 then (if 0 ≤ s3 ∧ s3 < 8 then some (.inl (IntKind.i64.wrap (s3 + 1), s4.set s3.toNat (IntKind.u32.wrap ((s4.getD s3.toNat 0) + (c1.getD s3.toNat 0))))) else none) else some (.inr s4))
noncomputable def digest_mix.s0 (r1 : List Int) (r2 : List Int) : (Int × (List Int)) → Option ((Int × (List Int)) ⊕ (List Int)) := fun (s1, s2) => (if s1 < 64 then ((digest_turn.f (s2.getD (4 : Int).toNat 0) 6).bind fun r3 => ((digest_turn.f (s2.getD (4 : Int).toNat 0) 11).bind fun r4 => ((digest_turn.f (s2.getD (4 : Int).toNat 0) 25).bind fun r5 => (if 0 ≤ s1 ∧ s1 < 64 then ((digest_turn.f (s2.getD (0 : Int).toNat 0) 2).bind fun r6 => ((digest_turn.f (s2.getD (0 : Int).toNat 0) 13).bind fun r7 => ((digest_turn.f (s2.getD (0 : Int).toNat 0) 22).bind fun r8 => some (.inl (IntKind.i64.wrap (s1 + 1), ([IntKind.u32.wrap ((IntKind.u32.wrap ((IntKind.u32.wrap ((IntKind.u32.wrap ((IntKind.u32.wrap ((s2.getD (7 : Int).toNat 0) + (bXor .u32 (bXor .u32 r3 r4) r5))) + (bXor .u32 (bAnd .u32 (s2.getD (4 : Int).toNat 0) (s2.getD (5 : Int).toNat 0)) (bAnd .u32 (bNot .u32 (s2.getD (4 : Int).toNat 0)) (s2.getD (6 : Int).toNat 0))))) + (r2.getD s1.toNat 0))) + (r1.getD s1.toNat 0))) + (IntKind.u32.wrap ((bXor .u32 (bXor .u32 r6 r7) r8) + (bXor .u32 (bXor .u32 (bAnd .u32 (s2.getD (0 : Int).toNat 0) (s2.getD (1 : Int).toNat 0)) (bAnd .u32 (s2.getD (0 : Int).toNat 0) (s2.getD (2 : Int).toNat 0))) (bAnd .u32 (s2.getD (1 : Int).toNat 0) (s2.getD (2 : Int).toNat 0)))))), s2.getD (0 : Int).toNat 0, s2.getD (1 : Int).toNat 0, s2.getD (2 : Int).toNat 0, IntKind.u32.wrap ((s2.getD (3 : Int).toNat 0) + (IntKind.u32.wrap ((IntKind.u32.wrap ((IntKind.u32.wrap ((IntKind.u32.wrap ((s2.getD (7 : Int).toNat 0) + (bXor .u32 (bXor .u32 r3 r4) r5))) + (bXor .u32 (bAnd .u32 (s2.getD (4 : Int).toNat 0) (s2.getD (5 : Int).toNat 0)) (bAnd .u32 (bNot .u32 (s2.getD (4 : Int).toNat 0)) (s2.getD (6 : Int).toNat 0))))) + (r2.getD s1.toNat 0))) + (r1.getD s1.toNat 0)))), s2.getD (4 : Int).toNat 0, s2.getD (5 : Int).toNat 0, s2.getD (6 : Int).toNat 0] : List Int)))))) else none)))) else some (.inr s2))
noncomputable def digest_mix.f (x0 : List Int) (x1 : List Int) : Option (List Int) := ((digest_spread.f x1).bind fun r1 => ((digest_keys.f).bind fun r2 => ((loopO (digest_mix.s0 r1 r2) (0, x0)).bind fun c1 => ((loopO (digest_mix.s1 c1) (0, x0)).bind fun c2 => some c2))))
noncomputable def digest_Writer_Write.s0 : (Int × (List Int) × (List Int)) → Option ((Int × (List Int) × (List Int)) ⊕ (Int × (List Int) × (List Int))) := fun (s1, s2, s3) => (if (IntKind.i64.wrap (s1 + 64)) ≤ (s3.length : Int) then (if 0 ≤ s1 ∧ s1 ≤ (IntKind.i64.wrap (s1 + 64)) ∧ (IntKind.i64.wrap (s1 + 64)) ≤ (s3.length : Int) then ((digest_mix.f s2 ((s3.take (IntKind.i64.wrap (s1 + 64)).toNat).drop (s1).toNat)).bind fun r2 => some (.inl (IntKind.i64.wrap (s1 + 64), r2, s3))) else none) else some (.inr (s1, s2, s3)))
noncomputable def digest_Writer_Write.f (x0 : digestWriter) (x1 : List Int) : Option digestWriter := ((digest_Writer_state.f (⟨x0.s, x0.rest, x0.n⟩ : digestWriter)).bind fun r1 => (if x0.rest.length + x1.length ≤ 140737488355328 then ((loopO (digest_Writer_Write.s0) (0, r1, x0.rest ++ x1)).bind fun (c1, c2, c3) => (if 0 ≤ c1 ∧ c1 ≤ (c3.length : Int) then ((bytes_Clone.f ((c3.take ((c3.length : Int)).toNat).drop (c1).toNat)).bind fun r3 => some (⟨c2, r3, IntKind.i64.wrap (x0.n + (x1.length : Int))⟩ : digestWriter)) else none)) else none))
noncomputable def digest_Writer_Sum.s4 (c4 : List Int) (s7 : Int) : (Int × (List Int)) → Option ((Int × (List Int)) ⊕ (List Int)) := fun (s9, s10) => (if s9 < 4 then (if 0 ≤ (IntKind.i64.wrap (24 - (IntKind.i64.wrap (8 * s9)))) then (if 0 ≤ IntKind.i64.wrap ((IntKind.i64.wrap (4 * s7)) + s9) ∧ IntKind.i64.wrap ((IntKind.i64.wrap (4 * s7)) + s9) < 32 then some (.inl (IntKind.i64.wrap (s9 + 1), s10.set (IntKind.i64.wrap ((IntKind.i64.wrap (4 * s7)) + s9)).toNat (IntKind.u8.wrap (sR .u32 (c4.getD s7.toNat 0) (IntKind.i64.wrap (24 - (IntKind.i64.wrap (8 * s9)))))))) else none) else none) else some (.inr s10))
noncomputable def digest_Writer_Sum.s3 (c4 : List Int) : (Int × (List Int)) → Option ((Int × (List Int)) ⊕ (List Int)) := fun (s7, s8) => (if s7 < 8 then (((if 0 ≤ s7 ∧ s7 < 8 then loopO (digest_Writer_Sum.s4 c4 s7) (0, s8) else none)).bind fun c6 => some (.inl (IntKind.i64.wrap (s7 + 1), c6))) else some (.inr s8))
noncomputable def digest_Writer_Sum.s2 : ((List Int) × Int × (List Int)) → Option (((List Int) × Int × (List Int)) ⊕ ((List Int) × (List Int))) := fun (s4, s5, s6) => (if s5 < (s4.length : Int) then (if 0 ≤ s5 ∧ s5 ≤ (IntKind.i64.wrap (s5 + 64)) ∧ (IntKind.i64.wrap (s5 + 64)) ≤ (s4.length : Int) then ((digest_mix.f s6 ((s4.take (IntKind.i64.wrap (s5 + 64)).toNat).drop (s5).toNat)).bind fun r3 => some (.inl (s4, IntKind.i64.wrap (s5 + 64), r3))) else none) else some (.inr (s4, s6)))
noncomputable def digest_Writer_Sum.s1 (x0 : digestWriter) : ((List Int) × Int) → Option (((List Int) × Int) ⊕ (List Int)) := fun (s2, s3) => (if 0 ≤ s3 then (if 0 ≤ (IntKind.i64.wrap (8 * s3)) then (if s2.length + 1 ≤ 140737488355328 then some (.inl (s2 ++ ([IntKind.u8.wrap (sR .u64 (sL .u64 (IntKind.u64.wrap x0.n) 3) (IntKind.i64.wrap (8 * s3)))] : List Int), IntKind.i64.wrap (s3 - 1))) else none) else none) else some (.inr s2))
noncomputable def digest_Writer_Sum.s0 : (List Int) → Option ((List Int) ⊕ (List Int)) := fun s1 => (if (Int.tmod (s1.length : Int) 64) ≠ 56 then (if s1.length + 1 ≤ 140737488355328 then some (.inl (s1 ++ ([0] : List Int))) else none) else some (.inr s1))
noncomputable def digest_Writer_Sum.f (x0 : digestWriter) : Option (List Int) := ((bytes_Clone.f x0.rest).bind fun r1 => (if r1.length + 1 ≤ 140737488355328 then ((loopO (digest_Writer_Sum.s0) (r1 ++ ([128] : List Int))).bind fun c1 => ((loopO (digest_Writer_Sum.s1 x0) (c1, 7)).bind fun c2 => ((digest_Writer_state.f (⟨x0.s, x0.rest, x0.n⟩ : digestWriter)).bind fun r2 => ((loopO (digest_Writer_Sum.s2) (c2, 0, r2)).bind fun (c3, c4) => ((loopO (digest_Writer_Sum.s3 c4) (0, (List.replicate 32 0))).bind fun c5 => some c5))))) else none))
noncomputable def digest_Sha.f (x0 : List Int) : Option (List Int) := ((digest_Writer_Write.f (⟨(List.replicate 8 0), ([] : List Int), 0⟩ : digestWriter) x0).bind fun r1 => ((digest_Writer_Sum.f (⟨r1.s, r1.rest, r1.n⟩ : digestWriter)).bind fun r2 => some r2))
noncomputable def digest_Twice.f (x0 : List Int) : Option (List Int) := ((digest_Sha.f x0).bind fun r1 => ((digest_Sha.f r1).bind fun r2 => some r2))
def sargassoref1_k.lit0 : List Int := [1116352408, 1899447441, 3049323471, 3921009573, 961987163, 1508970993, 2453635748, 2870763221, 3624381080, 310598401, 607225278, 1426881987, 1925078388, 2162078206, 2614888103, 3248222580, 3835390401, 4022224774, 264347078, 604807628, 770255983, 1249150122, 1555081692, 1996064986, 2554220882, 2821834349, 2952996808, 3210313671, 3336571891, 3584528711, 113926993, 338241895, 666307205, 773529912, 1294757372, 1396182291, 1695183700, 1986661051, 2177026350, 2456956037, 2730485921, 2820302411, 3259730800, 3345764771, 3516065817, 3600352804, 4094571909, 275423344, 430227734, 506948616, 659060556, 883997877, 958139571, 1322822218, 1537002063, 1747873779, 1955562222, 2024104815, 2227730452, 2361852424, 2428436474, 2756734187, 3204031479, 3329325298]
theorem sargassoref1_k.lit0_in : ∀ x ∈ sargassoref1_k.lit0, InR .u32 x := all_in (by kernel_rfl)
noncomputable def sargassoref1_k.f : Option (List Int) := some sargassoref1_k.lit0
noncomputable def sargassoref1_right.f (x0 : Int) (x1 : Int) : Option Int := (if 0 ≤ x1 then (if 0 ≤ (IntKind.u64.wrap (32 - x1)) then some (bOr .u32 (sR .u32 x0 x1) (sL .u32 x0 (IntKind.u64.wrap (32 - x1)))) else none) else none)
noncomputable def sargassoref1_Sha.s6 (c3 : List Int) : (Int × (List Int)) → Option ((Int × (List Int)) ⊕ (List Int)) := fun (s12, s13) => (if s12 < 32 then (if 0 ≤ IntKind.i64.wrap (Int.tdiv s12 4) ∧ IntKind.i64.wrap (Int.tdiv s12 4) < (c3.length : Int) then (if 0 ≤ (IntKind.u64.wrap (IntKind.i64.wrap (24 - (IntKind.i64.wrap (8 * (Int.tmod s12 4)))))) then (if 0 ≤ s12 ∧ s12 < 32 then some (.inl (IntKind.i64.wrap (s12 + 1), s13.set s12.toNat (IntKind.u8.wrap (sR .u32 (c3.getD (IntKind.i64.wrap (Int.tdiv s12 4)).toNat 0) (IntKind.u64.wrap (IntKind.i64.wrap (24 - (IntKind.i64.wrap (8 * (Int.tmod s12 4)))))))))) else none) else none) else none) else some (.inr s13))
noncomputable def sargassoref1_Sha.s5 (c7 : List Int) : (Int × (List Int)) → Option ((Int × (List Int)) ⊕ (List Int)) := fun (s10, s11) => (if s10 < 8 then (if 0 ≤ s10 ∧ s10 < (s11.length : Int) then (if 0 ≤ s10 ∧ s10 < (c7.length : Int) then some (.inl (IntKind.i64.wrap (s10 + 1), s11.set s10.toNat (IntKind.u32.wrap ((s11.getD s10.toNat 0) + (c7.getD s10.toNat 0))))) else none) else none) else some (.inr s11))
noncomputable def sargassoref1_Sha.s4 (r2 : List Int) (c5 : List Int) : ((List Int) × Int) → Option (((List Int) × Int) ⊕ (List Int)) := fun (s8, s9) => (if s9 < 64 then (if 4 < (s8.length : Int) then (if 0 < (s8.length : Int) then (if 7 < (s8.length : Int) then ((sargassoref1_right.f (s8.getD (4 : Int).toNat 0) 6).bind fun r7 => ((sargassoref1_right.f (s8.getD (4 : Int).toNat 0) 11).bind fun r8 => ((sargassoref1_right.f (s8.getD (4 : Int).toNat 0) 25).bind fun r9 => (if 5 < (s8.length : Int) then (if 6 < (s8.length : Int) then (if 0 ≤ s9 ∧ s9 < (r2.length : Int) then (if 0 ≤ s9 ∧ s9 < (c5.length : Int) then ((sargassoref1_right.f (s8.getD (0 : Int).toNat 0) 2).bind fun r10 => ((sargassoref1_right.f (s8.getD (0 : Int).toNat 0) 13).bind fun r11 => ((sargassoref1_right.f (s8.getD (0 : Int).toNat 0) 22).bind fun r12 => (if 1 < (s8.length : Int) then (if 2 < (s8.length : Int) then (if 3 < (s8.length : Int) then some (.inl (([IntKind.u32.wrap ((IntKind.u32.wrap ((IntKind.u32.wrap ((IntKind.u32.wrap ((IntKind.u32.wrap ((s8.getD (7 : Int).toNat 0) + (bXor .u32 (bXor .u32 r7 r8) r9))) + (bXor .u32 (bAnd .u32 (s8.getD (4 : Int).toNat 0) (s8.getD (5 : Int).toNat 0)) (bAnd .u32 (bNot .u32 (s8.getD (4 : Int).toNat 0)) (s8.getD (6 : Int).toNat 0))))) + (r2.getD s9.toNat 0))) + (c5.getD s9.toNat 0))) + (IntKind.u32.wrap ((bXor .u32 (bXor .u32 r10 r11) r12) + (bXor .u32 (bXor .u32 (bAnd .u32 (s8.getD (0 : Int).toNat 0) (s8.getD (1 : Int).toNat 0)) (bAnd .u32 (s8.getD (0 : Int).toNat 0) (s8.getD (2 : Int).toNat 0))) (bAnd .u32 (s8.getD (1 : Int).toNat 0) (s8.getD (2 : Int).toNat 0)))))), s8.getD (0 : Int).toNat 0, s8.getD (1 : Int).toNat 0, s8.getD (2 : Int).toNat 0, IntKind.u32.wrap ((s8.getD (3 : Int).toNat 0) + (IntKind.u32.wrap ((IntKind.u32.wrap ((IntKind.u32.wrap ((IntKind.u32.wrap ((s8.getD (7 : Int).toNat 0) + (bXor .u32 (bXor .u32 r7 r8) r9))) + (bXor .u32 (bAnd .u32 (s8.getD (4 : Int).toNat 0) (s8.getD (5 : Int).toNat 0)) (bAnd .u32 (bNot .u32 (s8.getD (4 : Int).toNat 0)) (s8.getD (6 : Int).toNat 0))))) + (r2.getD s9.toNat 0))) + (c5.getD s9.toNat 0)))), s8.getD (4 : Int).toNat 0, s8.getD (5 : Int).toNat 0, s8.getD (6 : Int).toNat 0] : List Int), IntKind.i64.wrap (s9 + 1))) else none) else none) else none)))) else none) else none) else none) else none)))) else none) else none) else none) else some (.inr s8))
noncomputable def sargassoref1_Sha.s3 (c2 : List Int) (s4 : Int) : (Int × (List Int)) → Option ((Int × (List Int)) ⊕ (List Int)) := fun (s6, s7) => (if s6 < 64 then (((if s6 < 16 then (if 0 ≤ IntKind.i64.wrap (s4 + (IntKind.i64.wrap (4 * s6))) ∧ IntKind.i64.wrap (s4 + (IntKind.i64.wrap (4 * s6))) < (c2.length : Int) then (if 0 ≤ IntKind.i64.wrap ((IntKind.i64.wrap (s4 + (IntKind.i64.wrap (4 * s6)))) + 1) ∧ IntKind.i64.wrap ((IntKind.i64.wrap (s4 + (IntKind.i64.wrap (4 * s6)))) + 1) < (c2.length : Int) then (if 0 ≤ IntKind.i64.wrap ((IntKind.i64.wrap (s4 + (IntKind.i64.wrap (4 * s6)))) + 2) ∧ IntKind.i64.wrap ((IntKind.i64.wrap (s4 + (IntKind.i64.wrap (4 * s6)))) + 2) < (c2.length : Int) then (if 0 ≤ IntKind.i64.wrap ((IntKind.i64.wrap (s4 + (IntKind.i64.wrap (4 * s6)))) + 3) ∧ IntKind.i64.wrap ((IntKind.i64.wrap (s4 + (IntKind.i64.wrap (4 * s6)))) + 3) < (c2.length : Int) then (if 0 ≤ s6 ∧ s6 < (s7.length : Int) then some (s7.set s6.toNat (bOr .u32 (bOr .u32 (bOr .u32 (sL .u32 (IntKind.u32.wrap (c2.getD (IntKind.i64.wrap (s4 + (IntKind.i64.wrap (4 * s6)))).toNat 0)) 24) (sL .u32 (IntKind.u32.wrap (c2.getD (IntKind.i64.wrap ((IntKind.i64.wrap (s4 + (IntKind.i64.wrap (4 * s6)))) + 1)).toNat 0)) 16)) (sL .u32 (IntKind.u32.wrap (c2.getD (IntKind.i64.wrap ((IntKind.i64.wrap (s4 + (IntKind.i64.wrap (4 * s6)))) + 2)).toNat 0)) 8)) (IntKind.u32.wrap (c2.getD (IntKind.i64.wrap ((IntKind.i64.wrap (s4 + (IntKind.i64.wrap (4 * s6)))) + 3)).toNat 0)))) else none) else none) else none) else none) else none) else (if 0 ≤ IntKind.i64.wrap (s6 - 15) ∧ IntKind.i64.wrap (s6 - 15) < (s7.length : Int) then (if 0 ≤ IntKind.i64.wrap (s6 - 2) ∧ IntKind.i64.wrap (s6 - 2) < (s7.length : Int) then (if 0 ≤ IntKind.i64.wrap (s6 - 16) ∧ IntKind.i64.wrap (s6 - 16) < (s7.length : Int) then (if 0 ≤ IntKind.i64.wrap (s6 - 7) ∧ IntKind.i64.wrap (s6 - 7) < (s7.length : Int) then ((sargassoref1_right.f (s7.getD (IntKind.i64.wrap (s6 - 15)).toNat 0) 7).bind fun r3 => ((sargassoref1_right.f (s7.getD (IntKind.i64.wrap (s6 - 15)).toNat 0) 18).bind fun r4 => ((sargassoref1_right.f (s7.getD (IntKind.i64.wrap (s6 - 2)).toNat 0) 17).bind fun r5 => ((sargassoref1_right.f (s7.getD (IntKind.i64.wrap (s6 - 2)).toNat 0) 19).bind fun r6 => (if 0 ≤ s6 ∧ s6 < (s7.length : Int) then some (s7.set s6.toNat (IntKind.u32.wrap ((IntKind.u32.wrap ((IntKind.u32.wrap ((s7.getD (IntKind.i64.wrap (s6 - 16)).toNat 0) + (bXor .u32 (bXor .u32 r3 r4) (sR .u32 (s7.getD (IntKind.i64.wrap (s6 - 15)).toNat 0) 3)))) + (s7.getD (IntKind.i64.wrap (s6 - 7)).toNat 0))) + (bXor .u32 (bXor .u32 r5 r6) (sR .u32 (s7.getD (IntKind.i64.wrap (s6 - 2)).toNat 0) 10))))) else none))))) else none) else none) else none) else none))).bind fun c6 => some (.inl (IntKind.i64.wrap (s6 + 1), c6))) else some (.inr s7))
noncomputable def sargassoref1_Sha.s2 (c2 : List Int) (r2 : List Int) : (Int × (List Int)) → Option ((Int × (List Int)) ⊕ (List Int)) := fun (s4, s5) => (if s4 < (c2.length : Int) then (((if 0 ≤ (64 : Int) ∧ (64 : Int) ≤ 64 ∧ 64 ≤ 35184372088832 then ((loopO (sargassoref1_Sha.s3 c2 s4) (0, (List.replicate ((64 : Int).toNat) 0 : List Int))).bind fun c5 => (if 0 + s5.length ≤ 35184372088832 then ((loopO (sargassoref1_Sha.s4 r2 c5) (([] : List Int) ++ s5, 0)).bind fun c7 => loopO (sargassoref1_Sha.s5 c7) (0, s5)) else none)) else none)).bind fun c4 => some (.inl (IntKind.i64.wrap (s4 + 64), c4))) else some (.inr s5))
noncomputable def sargassoref1_Sha.s1 (x0 : List Int) : ((List Int) × Int) → Option (((List Int) × Int) ⊕ (List Int)) := fun (s2, s3) => (if 0 ≤ s3 then (if 0 ≤ (IntKind.u64.wrap (IntKind.i64.wrap (8 * s3))) then (if s2.length + 1 ≤ 140737488355328 then some (.inl (s2 ++ ([IntKind.u8.wrap (sR .u64 (IntKind.u64.wrap (8 * (IntKind.u64.wrap (x0.length : Int)))) (IntKind.u64.wrap (IntKind.i64.wrap (8 * s3))))] : List Int), IntKind.i64.wrap (s3 - 1))) else none) else none) else some (.inr s2))
noncomputable def sargassoref1_Sha.s0 : (List Int) → Option ((List Int) ⊕ (List Int)) := fun s1 => (if (Int.tmod (s1.length : Int) 64) ≠ 56 then (if s1.length + 1 ≤ 140737488355328 then some (.inl (s1 ++ ([0] : List Int))) else none) else some (.inr s1))
noncomputable def sargassoref1_Sha.f (x0 : List Int) : Option (List Int) := ((sargassoref_Bytes.f x0).bind fun r1 => (if r1.length + 1 ≤ 140737488355328 then ((loopO (sargassoref1_Sha.s0) (r1 ++ ([128] : List Int))).bind fun c1 => ((loopO (sargassoref1_Sha.s1 x0) (c1, 7)).bind fun c2 => ((sargassoref1_k.f).bind fun r2 => ((loopO (sargassoref1_Sha.s2 c2 r2) (0, ([1779033703, 3144134277, 1013904242, 2773480762, 1359893119, 2600822924, 528734635, 1541459225] : List Int))).bind fun c3 => ((loopO (sargassoref1_Sha.s6 c3) (0, (List.replicate 32 0))).bind fun c8 => some c8))))) else none))
noncomputable def sargassoref1_Twice.f (x0 : List Int) : Option (List Int) := ((sargassoref1_Sha.f x0).bind fun r1 => ((sargassoref1_Sha.f r1).bind fun r2 => some r2))
noncomputable def bytes_Compare.f (x0 : List Int) (x1 : List Int) : Option Int := some (cmpI x0 x1)
noncomputable def digest_Compare.f (x0 : List Int) (x1 : List Int) : Option Int := ((bytes_Compare.f x0 x1).bind fun r1 => some r1)
noncomputable def digest_Less.f (x0 : List Int) (x1 : List Int) : Option Bool := ((digest_Compare.f x0 x1).bind fun r1 => some (decide (r1 < 0)))
end Go.Proofs.YtdngkgkkblfcjaaDoor.T
