/- A helper of this seat's claims. It proves no statement by itself. -/
/- Calls of function values; freezing that can be taken back; pointers against nil. -/
import Derived.Test.YtnbnnphlffhgiaaK9
namespace Go.Proofs.Ytnbnnphlffhgiaa.K
open Go
set_option linter.unusedVariables false
section
variable {P : Program} {W0 : World} {md : List Nat} {μ0 μ ν : Store} {its : List It} {w : World} {a : Act} {n : Nat} {L : List (Nat × Value)} {dst : Option Nat} {ty t T e : TypeId} {pos : String} {aft : Array Edge} {gd : Option (Nat × Bool)} {x y : Operand} {v : Value} {g o sz m : Nat} {cs : List Value}
theorem exec_cv {c : Operand} {f : FuncId} {xs : Array Operand} {ats : Array TypeId} (hA : Fr a n L) (hc : ov L c = some (.func (.func f) #[] #[])) :
    execOp a.eval ⟨dst, .call { callee := .value c, args := xs, argTypes := ats }, ty, pos, aft, gd⟩ = execOp a.eval ⟨dst, .call { callee := .value (.func f), args := xs, argTypes := ats }, ty, pos, aft, gd⟩ := by
  have h1 := hA.ev hc
  have h2 : a.eval (.func f) = .func (.func f) #[] #[] := rfl
  simp only [execOp, resolve, h1, h2]
theorem o_callc {Q : Exit → AW} {ops : Array Oper} {rest : List Oper} {c : Operand} {d : Nat} {f : FuncId} {xs : List Operand} {vs : List Value} {ats : Array TypeId} (Z : Value → World → Prop) (hf : CalleeF P f) (hA : Fr a n L) (hc : ov L c = some (.func (.func f) #[] #[])) (hv : ovs L xs = some vs) (hcl : Calls P f vs.toArray w fun e w' => ∃ v, e = .returned v ∧ Z v w')
    (hd : Nat.ble (d + 1) n = true) (k : ∀ v a w', Z v w' → Fr a n ((d, v) :: L) → wpList P ops Q rest a w') :
    wpList P ops Q (⟨some d, .call { callee := .value c, args := xs.toArray, argTypes := ats }, ty, pos, aft, none⟩ :: rest) a w :=
  wpList_plain rfl fun K hK => by
    unfold Oper.wp
    rw [exec_cv hA hc, run_call hf hA hv]
    exact hcl.mono fun e w' ⟨v, he, hz⟩ => by subst he; exact hK _ _ (k v _ _ hz (hA.put hd v))
theorem o_callpc {Q : Exit → AW} {ops : Array Oper} {rest : List Oper} {c : Operand} {d : Nat} {u : Value} {f : FuncId} {xs : List Operand} {vs : List Value} {ats : Array TypeId} {Z : Prop} (hf : CalleeF P f) (hA : Fr a n L) (hc : ov L c = some (.func (.func f) #[] #[])) (hv : ovs L xs = some vs) (hI : Iv W0 md μ0 μ its w) (hcl : Calls P f vs.toArray w fun e w' => ∃ v, e = .returned v ∧ v = u ∧ Z ∧ Iv w [] μ μ [] w')
    (hd : Nat.ble (d + 1) n = true) (k : ∀ a w', Z → Iv W0 md μ0 μ its w' → Fr a n ((d, u) :: L) → wpList P ops Q rest a w') :
    wpList P ops Q (⟨some d, .call { callee := .value c, args := xs.toArray, argTypes := ats }, ty, pos, aft, none⟩ :: rest) a w :=
  o_callc (fun v w' => v = u ∧ Z ∧ Iv w [] μ μ [] w') hf hA hc hv hcl hd fun v a w' ⟨e, hz, h'⟩ hA => by subst e; exact k a w' hz (hI.call h') hA
theorem eqIn_ptrnil (d : Nat) {p : Addr} (hu : P.underlying t = some (.pointer e)) : (Op.equalIn (d + 1) t (.pointer (some p)) (.pointer none)).run P w = .ok false w := by
  simp [Op.equalIn, run_underlying hu]
theorem r_ptrnil_eql {p : Addr} {t' : TypeId} (hu : P.underlying t = some (.pointer e)) (hA : Fr a n L) (hx : ov L x = some (.pointer (some p))) (hy : ov L y = some (.pointer none)) :
    (execOp a.eval ⟨dst, .binOp .eql t x y t', ty, pos, aft, gd⟩).run P w = .ok (.value (.bool false)) w := by
  have h := eqIn_ptrnil (P := P) (w := w) 9999 (p := p) hu
  have hb : (binOp .eql t (.pointer (some p)) (.pointer none)).run P w = .ok (.bool false) w := by
    simp only [binOp, Op.equal, Op.maxDepth]
    rw [Sem.run_bind, h]
    rfl
  simp [execOp, hA.ev hx, hA.ev hy, eqGuard, hb]
theorem r_ptrnil_neq {p : Addr} {t' : TypeId} (hu : P.underlying t = some (.pointer e)) (hA : Fr a n L) (hx : ov L x = some (.pointer (some p))) (hy : ov L y = some (.pointer none)) :
    (execOp a.eval ⟨dst, .binOp .neq t x y t', ty, pos, aft, gd⟩).run P w = .ok (.value (.bool true)) w := by
  have h := eqIn_ptrnil (P := P) (w := w) 9999 (p := p) hu
  have hb : (binOp .neq t (.pointer (some p)) (.pointer none)).run P w = .ok (.bool true) w := by
    simp only [binOp, Op.equal, Op.maxDepth]
    rw [Sem.run_bind, h]
    rfl
  simp [execOp, hA.ev hx, hA.ev hy, eqGuard, hb]
/-- Frozen, and what was holds again. -/
theorem Iv.thaw {μ' : Store} {i : It} (h : Iv W0 md μ0 μ its w) (hi : i ∈ its) (hle : μ.le μ') (hs : ∀ g ∈ i.foot, ∃ o, w.heap[g]? = some o ∧ μ' g = some o) (hn : i.foot.Nodup) : ∀ (its' : List It) (w' : World), Iv W0 md μ0 μ' its' w' → Iv W0 md μ0 μ (i :: its') w' := by
  intro its' w' h'
  have h2 := h'.less h.le hle
  obtain ⟨hok, hfoot⟩ := h.own i hi
  have hsame : ∀ g ∈ i.foot, w'.heap[g]? = w.heap[g]? := fun g hg => by
    obtain ⟨o, h3, h4⟩ := hs g hg
    rw [h3]; exact h'.agr g o h4
  refine ⟨h2.os, h2.tape, h2.out, h2.size, h2.frame, h2.le, h2.agr, h2.fresh, ?_, fun k hk => ?_⟩
  · simp only [List.flatMap_cons, List.nodup_append]
    refine ⟨hn, h2.nodup, fun g hg g' hg' e => ?_⟩
    subst e
    obtain ⟨k, hk, hgk⟩ := List.mem_flatMap.1 hg'
    obtain ⟨o, _, h4⟩ := hs g hg
    have := ((h'.own k hk).2 g hgk).2.1
    rw [h4] at this
    cases this
  · rcases List.mem_cons.1 hk with rfl | hk
    · refine ⟨k.loc w w' hsame hok, fun g hg => ?_⟩
      obtain ⟨_, b, c⟩ := hfoot g hg
      obtain ⟨o, h3, h4⟩ := hs g hg
      exact ⟨(Array.getElem?_eq_some_iff.1 (h'.agr g o h4)).1, b, c⟩
    · exact h2.own k hk
theorem Iv.freezeRowT (hI : Iv W0 md μ0 μ its w) (j : Nat) (hj : its[j]? = some (row e sz v m cs)) : ∃ μ', μ.le μ' ∧ SlV μ' v m cs ∧ Iv W0 md μ0 μ' (its.eraseIdx j) w ∧ (∀ (its' : List It) (w' : World), Iv W0 md μ0 μ' its' w' → Iv W0 md μ0 μ (row e sz v m cs :: its') w') := by
  have hown := hI.row_ok hj
  have hmem := List.mem_of_getElem? hj
  rcases hown.2 with ⟨rfl, rfl⟩ | ⟨g, cap, cur, rfl, hbg, hg, hnc, hcm, hcs, htake⟩
  · exact ⟨μ, Store.le.refl _, ⟨none, 0, rfl, Nat.le_refl _, by simp [maxLen], fun h => absurd rfl h, fun h => absurd rfl h⟩, hI.drop (List.eraseIdx_sublist its j), hI.thaw hmem (Store.le.refl _) (by simp [row, Value.ownBlock]) (by simp [row, Value.ownBlock])⟩
  · obtain ⟨μ', h1, h2, h3⟩ := hI.freeze j hj (g := g) (by simp [row, Value.ownBlock]) hg
    refine ⟨μ', h1, ⟨_, _, rfl, hnc, hcm, fun _ => rfl, fun _ i u hu => ?_⟩, h3, hI.thaw hmem h1 (fun g' hg' => ?_) (by simp [row, Value.ownBlock])⟩
    · simp only [sb, so, Nat.zero_add, Store.cell, h2]
      rw [← htake, List.getElem?_take] at hu
      split at hu
      · simpa using hu
      · cases hu
    · have : g' = g := by simpa [row, Value.ownBlock] using hg'
      subst this
      exact ⟨_, hg, h2⟩
theorem Iv.freezeCelT (hI : Iv W0 md μ0 μ its w) (j : Nat) {chs : List (List Value)} (hj : its[j]? = some (cel g chs T)) : ∃ μ', μ.le μ' ∧ At μ' g 0 chs.flatten ∧ Iv W0 md μ0 μ' (its.eraseIdx j) w ∧ (∀ (its' : List It) (w' : World), Iv W0 md μ0 μ' its' w' → Iv W0 md μ0 μ (cel g chs T :: its') w') := by
  have hmem := List.mem_of_getElem? hj
  obtain ⟨μ', h1, h2, h3⟩ := hI.freeze j hj (g := g) rfl (hI.cel_ok hj)
  refine ⟨μ', h1, fun i u hu => ?_, h3, hI.thaw hmem h1 (fun g' hg' => ?_) (by simp [cel])⟩
  · simp only [Nat.zero_add, Store.cell, h2]
    simpa using hu
  · have : g' = g := by simpa [cel] using hg'
    subst this
    exact ⟨_, hI.cel_ok hj, h2⟩
end
end Go.Proofs.Ytnbnnphlffhgiaa.K
