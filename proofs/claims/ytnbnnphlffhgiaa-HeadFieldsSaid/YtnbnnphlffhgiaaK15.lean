/- A helper of this seat's claims. It proves no statement by itself. -/
/- Literals whose elements are slices. -/
import Derived.Test.YtnbnnphlffhgiaaK14
namespace Go.Proofs.Ytnbnnphlffhgiaa.K
open Go
theorem fill_one {place : Nat → Option (Nat × Nat)} {cells : Array Value} {i off : Nat} {v : Value} {rest : List (Nat × Value)} (hv : v.cells = #[v]) (hp : place i = some (off, 1)) (ho : Nat.ble (off + 1) cells.size = true) :
    Instr.fill place cells ((i, v) :: rest) = Instr.fill place (cells.setIfInBounds off v) rest := by
  have h := Nat.le_of_ble_eq_true ho
  rw [Instr.fill, hp]
  simp only [hv]
  rw [if_neg (by simp; omega)]
  rfl
theorem cells1 {α : Type} {RE : α → List Value → Prop} {sz : Nat} {μ : Store} {v : Value} {xs : List α} (h : Slc RE sz μ v xs) : v.cells = #[v] := by
  obtain ⟨_, hs⟩ := Slc.sv h
  exact cells_sl hs
section
variable {P : Program} {Q : Exit → AW} {ops : Array Oper} {rest : List Oper} {W0 : World} {md : List Nat} {μ0 μ : Store} {its : List It} {w : World} {a : Act} {n : Nat} {L : List (Nat × Value)} {dst : Option Nat} {d : Nat} {ty t T e : TypeId} {pos : String} {aft : Array Edge} {gd : Option (Nat × Bool)} {x y : Operand} {v u : Value} {g o sz m q off mm : Nat} {cs : List Value} {k0 : TypeDesc}
theorem o_rstPL {m' : Nat} {j : Nat} (A B : List Value) (P1 B1 B1' P3 : List (List Value)) (hcs : cs = A ++ ((P1 ++ (B1 ++ P3)).flatten ++ B)) (hl : A.length = q) (hp : P1.flatten.length = off) (hs0 : (P.info? t).map (·.size) = some mm) (hs1 : B1'.flatten.length = mm) (hB : B1'.flatten.length = B1.flatten.length) (h1 : ∀ c ∈ B1'.flatten, c.oneCell' = true)
    (hI : Iv W0 md μ0 μ its w) (hj : its[j]? = some (row T sz v m cs)) (hA : Fr a n L) (hx : ov L x = some (.pointer (some ⟨sb v, so v + q + off, none⟩))) (hy : ov L y = some u) (hc : u.cells = B1'.flatten.toArray) (hm : 0 < m)
    (hm' : m = m') (k : ∀ w, Iv W0 md μ0 μ (its.set j (row T sz v m' (A ++ ((P1 ++ (B1' ++ P3)).flatten ++ B)))) w → wpList P ops Q rest a w) : wpList P ops Q (⟨none, .store t x y, ty, pos, aft, none⟩ :: rest) a w := by
  subst hm'
  exact o_rstP A B P1 B1 B1' P3 hcs hl hp hs0 hs1 hB h1 hI hj hA hx hy hc hm k
theorem o_rstEL {m' : Nat} {j i nn : Nat} {k : IntKind} {z : Int} (A B : List Value) (P1 P3 : List (List Value)) (xs : List Int) (hcs : cs = A ++ ((P1 ++ (av k nn xs :: P3)).flatten ++ B)) (hl : A.length = q) (hp : P1.flatten.length = off) (hs0 : (P.info? t).map (·.size) = some 1) (hn : xs.length = nn) (hi : i < nn)
    (hI : Iv W0 md μ0 μ its w) (hj : its[j]? = some (row T sz v m cs)) (hA : Fr a n L) (hx : ov L x = some (.pointer (some ⟨sb v, so v + q + off + i, none⟩))) (hy : ov L y = some (.int k z)) (hm : 0 < m)
    (hm' : m = m') (kk : ∀ w, Iv W0 md μ0 μ (its.set j (row T sz v m' (A ++ ((P1 ++ (av k nn (xs.set i z) :: P3)).flatten ++ B)))) w → wpList P ops Q rest a w) : wpList P ops Q (⟨none, .store t x y, ty, pos, aft, none⟩ :: rest) a w := by
  subst hm'
  exact o_rstE A B P1 P3 xs hcs hl hp hs0 hn hi hI hj hA hx hy hm kk
end
end Go.Proofs.Ytnbnnphlffhgiaa.K
