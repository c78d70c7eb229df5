/- A helper of this seat's claims. It proves no statement by itself. -/
/- Elements of rows: read and written in part. -/
import Derived.Test.YtnbnnphlffhgiaaK12
namespace Go.Proofs.Ytnbnnphlffhgiaa.K
open Go
set_option linter.unusedVariables false
section
variable {α : Type} {RE : α → List Value → Prop} {sz : Nat}
theorem Els.setAt {xs : List α} {cs A c B : List Value} (h : Els RE sz xs cs) (e : cs = A ++ (c ++ B)) {i : Nat} (hi : i < xs.length) (hA : A.length = i * sz) (hc : c.length = sz) {y : α} {d : List Value} (hy : RE y d) (hd : d.length = sz) : Els RE sz (xs.set i y) (A ++ (d ++ B)) := by
  have h1 := h.take i
  have h2 := h.drop (i + 1)
  have e1 : cs.take (i * sz) = A := by rw [e, ← hA]; exact List.take_left
  have e2 : cs.drop ((i + 1) * sz) = B := by
    have : (i + 1) * sz = (A ++ c).length := by rw [List.length_append, hA, hc, Nat.add_mul, Nat.one_mul]
    rw [e, ← List.append_assoc, this]
    exact List.drop_left
  rw [e1] at h1
  rw [e2] at h2
  rw [List.set_eq_take_append_cons_drop, if_pos hi]
  exact h1.app (.cons hy hd h2)
theorem idx_lt {i : Int} {n : Nat} (h0 : 0 ≤ i) (h1 : i < (n : Int)) : i.toNat < n := by omega
end
section
variable {P : Program} {Q : Exit → AW} {ops : Array Oper} {rest : List Oper} {W0 : World} {md : List Nat} {μ0 μ : Store} {its : List It} {w : World} {a : Act} {n : Nat} {L : List (Nat × Value)} {dst : Option Nat} {d : Nat} {ty t T e : TypeId} {pos : String} {aft : Array Edge} {gd : Option (Nat × Bool)} {x y : Operand} {v u : Value} {g o sz m q off mm : Nat} {cs : List Value} {k0 : TypeDesc}
theorem o_rstP {j : Nat} (A B : List Value) (P1 B1 B1' P3 : List (List Value)) (hcs : cs = A ++ ((P1 ++ (B1 ++ P3)).flatten ++ B)) (hl : A.length = q) (hp : P1.flatten.length = off) (hs0 : (P.info? t).map (·.size) = some mm) (hs1 : B1'.flatten.length = mm) (hB : B1'.flatten.length = B1.flatten.length) (h1 : ∀ c ∈ B1'.flatten, c.oneCell' = true)
    (hI : Iv W0 md μ0 μ its w) (hj : its[j]? = some (row T sz v m cs)) (hA : Fr a n L) (hx : ov L x = some (.pointer (some ⟨sb v, so v + q + off, none⟩))) (hy : ov L y = some u) (hc : u.cells = B1'.flatten.toArray) (hm : 0 < m)
    (k : ∀ w, Iv W0 md μ0 μ (its.set j (row T sz v m (A ++ ((P1 ++ (B1' ++ P3)).flatten ++ B)))) w → wpList P ops Q rest a w) : wpList P ops Q (⟨none, .store t x y, ty, pos, aft, none⟩ :: rest) a w := by
  subst hl
  subst hp
  refine o_rstA (A ++ P1.flatten) B1.flatten B1'.flatten (P3.flatten ++ B) (by rw [hcs]; simp) hs0 hs1 hB h1 hI hj hA hx hy hc (by rw [List.length_append, Nat.add_assoc]) hm fun w hI => k w ?_
  have e : A ++ P1.flatten ++ (B1'.flatten ++ (P3.flatten ++ B)) = A ++ ((P1 ++ (B1' ++ P3)).flatten ++ B) := by simp
  rw [e] at hI
  exact hI
theorem o_rstE {j i nn : Nat} {k : IntKind} {z : Int} (A B : List Value) (P1 P3 : List (List Value)) (xs : List Int) (hcs : cs = A ++ ((P1 ++ (av k nn xs :: P3)).flatten ++ B)) (hl : A.length = q) (hp : P1.flatten.length = off) (hs0 : (P.info? t).map (·.size) = some 1) (hn : xs.length = nn) (hi : i < nn)
    (hI : Iv W0 md μ0 μ its w) (hj : its[j]? = some (row T sz v m cs)) (hA : Fr a n L) (hx : ov L x = some (.pointer (some ⟨sb v, so v + q + off + i, none⟩))) (hy : ov L y = some (.int k z)) (hm : 0 < m)
    (kk : ∀ w, Iv W0 md μ0 μ (its.set j (row T sz v m (A ++ ((P1 ++ (av k nn (xs.set i z) :: P3)).flatten ++ B)))) w → wpList P ops Q rest a w) : wpList P ops Q (⟨none, .store t x y, ty, pos, aft, none⟩ :: rest) a w := by
  subst hl
  subst hp
  have e1 : av k nn xs = (av k nn xs).take i ++ ([.int k (xs.getD i 0)] ++ (av k nn xs).drop (i + 1)) := by
    have h2 : (av k nn xs)[i]? = some (.int k (xs.getD i 0)) := av_get k nn xs hi
    have h3 := List.take_append_drop i (av k nn xs)
    have h4 : (av k nn xs).drop i = .int k (xs.getD i 0) :: (av k nn xs).drop (i + 1) := by
      rw [List.drop_eq_getElem_cons (by rw [av_len]; exact hi)]
      congr 1
      have := List.getElem?_eq_getElem (l := av k nn xs) (i := i) (by rw [av_len]; exact hi)
      rw [h2] at this
      exact (Option.some.inj this).symm
    rw [h4] at h3
    exact h3.symm
  have e2 : av k nn (xs.set i z) = (av k nn xs).take i ++ ([.int k z] ++ (av k nn xs).drop (i + 1)) := by
    rw [← av_set k nn xs i z hn, List.set_eq_take_append_cons_drop, if_pos (by rw [av_len]; exact hi)]
    rfl
  have hti : ((av k nn xs).take i).length = i := by rw [List.length_take, av_len, Nat.min_eq_left (Nat.le_of_lt hi)]
  refine o_rstA (A ++ P1.flatten ++ (av k nn xs).take i) [.int k (xs.getD i 0)] [.int k z] ((av k nn xs).drop (i + 1) ++ (P3.flatten ++ B)) ?_ hs0 rfl rfl (by simp [Value.oneCell']) hI hj hA hx hy rfl (by rw [List.length_append, List.length_append, hti, Nat.add_assoc, Nat.add_assoc, Nat.add_assoc]) hm fun w hI => kk w ?_
  · rw [hcs]
    conv => lhs; rw [e1]
    simp
  · rw [e2]
    have e : A ++ P1.flatten ++ (av k nn xs).take i ++ ([Value.int k z] ++ ((av k nn xs).drop (i + 1) ++ (P3.flatten ++ B))) = A ++ ((P1 ++ (((av k nn xs).take i ++ ([Value.int k z] ++ (av k nn xs).drop (i + 1))) :: P3)).flatten ++ B) := by simp
    rw [e] at hI
    exact hI
theorem r_rldP {j : Nat} (A B : List Value) (P1 B1 P3 : List (List Value)) (hcs : cs = A ++ ((P1 ++ (B1 ++ P3)).flatten ++ B)) (hl : A.length = q) (hp : P1.flatten.length = off) (hu : P.underlying t = some k0) (hd : isAggD k0 = true) (hs0 : (P.info? t).map (·.size) = some mm) (hs1 : B1.flatten.length = mm)
    (hI : Iv W0 md μ0 μ its w) (hj : its[j]? = some (row T sz v m cs)) (hA : Fr a n L) (hx : ov L x = some (.pointer (some ⟨sb v, so v + q + off, none⟩))) :
    (execOp a.eval ⟨dst, .load t x, ty, pos, aft, gd⟩).run P w = .ok (.value (.agg B1.flatten.toArray)) w := by
  subst hl
  subst hp
  exact r_rldA (A := A ++ P1.flatten) (B := B1.flatten) (C := P3.flatten ++ B) hu hd hs0 hs1 hI hj (by rw [hcs]; simp) (q := A.length + P1.flatten.length) (by rw [List.length_append]) hA hx (by rw [Nat.add_assoc])
theorem r_rldQ {j : Nat} (A B : List Value) (P1 P3 : List (List Value)) (hcs : cs = A ++ ((P1 ++ ([u] :: P3)).flatten ++ B)) (hl : A.length = q) (hp : P1.flatten.length = off) (hu : P.underlying t = some k0) (hd : isAggD k0 = false)
    (hI : Iv W0 md μ0 μ its w) (hj : its[j]? = some (row T sz v m cs)) (hA : Fr a n L) (hx : ov L x = some (.pointer (some ⟨sb v, so v + q + off, none⟩))) :
    (execOp a.eval ⟨dst, .load t x, ty, pos, aft, gd⟩).run P w = .ok (.value u) w := by
  subst hl
  subst hp
  exact r_rldm1 (A ++ P1.flatten) (P3.flatten ++ B) (by rw [hcs]; simp) hu hd hI hj hA hx (by rw [List.length_append, Nat.add_assoc])
theorem r_rldE {j i nn : Nat} {k : IntKind} {xs : List Int} (A B : List Value) (P1 P3 : List (List Value)) (hcs : cs = A ++ ((P1 ++ (av k nn xs :: P3)).flatten ++ B)) (hl : A.length = q) (hp : P1.flatten.length = off) (hu : P.underlying t = some k0) (hd : isAggD k0 = false) (hi : i < nn)
    (hI : Iv W0 md μ0 μ its w) (hj : its[j]? = some (row T sz v m cs)) (hA : Fr a n L) (hx : ov L x = some (.pointer (some ⟨sb v, so v + q + off + i, none⟩))) :
    (execOp a.eval ⟨dst, .load t x, ty, pos, aft, gd⟩).run P w = .ok (.value (.int k (xs.getD i 0))) w := by
  subst hl
  subst hp
  refine r_rld1 (q := A.length + P1.flatten.length + i) hu hd hI hj ?_ hA hx (by rw [Nat.add_assoc, Nat.add_assoc, Nat.add_assoc])
  rw [hcs]
  have h2 := av_get k nn xs hi
  have e : A ++ ((P1 ++ (av k nn xs :: P3)).flatten ++ B) = (A ++ P1.flatten) ++ (av k nn xs ++ (P3.flatten ++ B)) := by simp
  rw [e, ← List.length_append, List.getElem?_append_right (by omega), Nat.add_sub_cancel_left, List.getElem?_append_left (by rw [av_len]; exact hi)]
  exact h2
end
end Go.Proofs.Ytnbnnphlffhgiaa.K
