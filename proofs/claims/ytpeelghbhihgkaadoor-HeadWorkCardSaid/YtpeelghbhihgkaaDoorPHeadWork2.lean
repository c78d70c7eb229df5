/- Proved: the statement HeadWork, as given (its conditions are those of the given row, and card where there is one; no others): the call ends, with true, and the input reads as it did. This file is one of its parts. -/
import Derived.Test.YtpeelghbhihgkaaDoorPHeadWork1
import Derived.Test.YtpeelghbhihgkaaDoorRows
import Derived.Test.YtpeelghbhihgkaaDoorProg
import Derived.JoinedOf
import Derived.ProofKit
import Derived.WalkKit
import Derived.OpenShut
import Derived.ShutString
import Derived.ChangeOld
import Derived.Below
import Derived.Carry
import Derived.SizedLaws
import Derived.LaidLaws
import Derived.LaidHandle
import Derived.ChangeVars
import Derived.Handed
import Derived.SevenTiedAt
import Derived.Test.YtpeelghbhihgkaaDoorCards
import Derived.Test.YtpeelghbhihgkaaDoorTie
namespace Go.Proofs.YtpeelghbhihgkaaDoor.T
open Go Go.Proofs Go.Proofs.YtpeelghbhihgkaaDoor.K
set_option linter.unusedVariables false
set_option linter.unusedSimpArgs false
set_option maxRecDepth 100000
theorem own : ownKnob Tryd.prog.godebug = none := by kernel_rfl
noncomputable def low : Nat := (World.holding Tryd.prog default ⟨#[], #[], []⟩).heap.size
abbrev es0 : ByteArray := { data := #[110, 111, 116, 32, 97, 115, 32, 105, 116, 32, 104, 97, 115, 32, 116, 111, 32, 98, 101] }
abbrev es1 : ByteArray := { data := #[116, 111, 111, 32, 109, 97, 110, 121, 44, 32, 111, 114, 32, 116, 111, 111, 32, 102, 101, 119] }
abbrev es2 : ByteArray := { data := #[116, 111, 111, 32, 108, 111, 110, 103] }
abbrev es3 : ByteArray := { data := #[97, 32, 107, 101, 121, 32, 116, 104, 97, 116, 32, 100, 111, 101, 115, 32, 110, 111, 116, 32, 102, 105, 116] }
abbrev es4 : ByteArray := { data := #[97, 110, 32, 97, 109, 111, 117, 110, 116, 32, 116, 104, 97, 116, 32, 99, 97, 110, 39, 116, 32, 98, 101] }
abbrev es5 : ByteArray := { data := #[111, 110, 101, 32, 116, 104, 105, 110, 103, 32, 116, 119, 105, 99, 101] }
abbrev es6 : ByteArray := { data := #[97, 32, 110, 117, 109, 98, 101, 114, 32, 111, 117, 116, 32, 111, 102, 32, 105, 116, 115, 32, 114, 97, 110, 103, 101] }
abbrev es7 : ByteArray := { data := #[108, 101, 115, 115, 32, 99, 111, 109, 101, 115, 32, 105, 110, 32, 116, 104, 97, 110, 32, 103, 111, 101, 115, 32, 111, 117, 116] }
abbrev es8 : ByteArray := { data := #[105, 116, 32, 101, 110, 100, 115, 32, 116, 111, 111, 32, 101, 97, 114, 108, 121] }
abbrev es9 : ByteArray := { data := #[110, 111, 32, 102, 105, 114, 115, 116, 32, 116, 114, 97, 110, 115, 97, 99, 116, 105, 111, 110, 32, 119, 104, 101, 114, 101, 32, 116, 104, 101, 114, 101, 32, 104, 97, 115, 32, 116, 111, 32, 98, 101, 32, 111, 110, 101, 44, 32, 111, 114, 32, 111, 110, 101, 32, 119, 104, 101, 114, 101, 32, 116, 104, 101, 114, 101, 32, 109, 97, 121, 32, 98, 101, 32, 110, 111, 110, 101] }
abbrev es10 : ByteArray := { data := #[97, 32, 114, 111, 111, 116, 32, 116, 104, 97, 116, 32, 100, 111, 101, 115, 32, 110, 111, 116, 32, 102, 105, 116] }
abbrev es11 : ByteArray := { data := #[107, 110, 111, 119, 110, 32, 97, 108, 114, 101, 97, 100, 121] }
abbrev es12 : ByteArray := { data := #[110, 111, 32, 115, 117, 99, 104, 32, 112, 97, 114, 101, 110, 116] }
abbrev es13 : ByteArray := { data := #[98, 101, 104, 105, 110, 100, 32, 119, 104, 97, 116, 32, 105, 115, 32, 110, 111, 116, 32, 118, 97, 108, 105, 100] }
abbrev es14 : ByteArray := { data := #[97, 32, 116, 105, 109, 101, 32, 116, 104, 97, 116, 32, 105, 115, 32, 116, 111, 111, 32, 101, 97, 114, 108, 121] }
abbrev es15 : ByteArray := { data := #[97, 32, 99, 111, 105, 110, 32, 116, 104, 97, 116, 32, 105, 115, 32, 110, 111, 116, 32, 116, 104, 101, 114, 101] }
abbrev es16 : ByteArray := { data := #[97, 32, 99, 111, 105, 110, 32, 116, 104, 97, 116, 32, 105, 115, 32, 116, 111, 111, 32, 121, 111, 117, 110, 103] }
abbrev es17 : ByteArray := { data := #[116, 111, 111, 32, 101, 97, 114, 108, 121, 32, 116, 111, 32, 98, 101, 32, 116, 97, 107, 101, 110] }
abbrev es18 : ByteArray := { data := #[109, 111, 114, 101, 32, 116, 104, 97, 110, 32, 116, 104, 101, 32, 114, 101, 119, 97, 114, 100] }
abbrev es19 : ByteArray := { data := #[97, 32, 99, 111, 105, 110, 32, 116, 104, 97, 116, 32, 105, 115, 32, 115, 112, 101, 110, 116, 32, 105, 110, 32, 116, 104, 101, 32, 112, 111, 111, 108] }
abbrev es20 : ByteArray := { data := #[116, 111, 111, 32, 109, 97, 110, 121, 32, 116, 104, 97, 116, 32, 104, 97, 110, 103, 32, 116, 111, 103, 101, 116, 104, 101, 114] }
abbrev es21 : ByteArray := { data := #[116, 104, 101, 114, 101, 32, 105, 115, 32, 110, 111, 32, 114, 111, 111, 109] }
abbrev es22 : ByteArray := { data := #[116, 104, 101, 114, 101, 32, 105, 115, 32, 110, 111, 110, 101] }
abbrev es23 : ByteArray := { data := #[110, 111, 32, 115, 117, 99, 104, 32, 119, 111, 114, 100] }
abbrev es24 : ByteArray := { data := #[110, 111, 116, 32, 97, 32, 110, 117, 109, 98, 101, 114] }
def setC (v : Value) : Obj → Obj
  | .cells _ t frozen => .cells #[v] t frozen
  | x => x
noncomputable def laidWorld (os : Os) : World :=
  let w0 := World.holding Tryd.prog os ⟨#[.cells #[.string es0] 223, .cells #[.string es1] 223, .cells #[.string es2] 223, .cells #[.string es3] 223, .cells #[.string es4] 223, .cells #[.string es5] 223, .cells #[.string es6] 223, .cells #[.string es7] 223, .cells #[.string es8] 223, .cells #[.string es9] 223, .cells #[.string es10] 223, .cells #[.string es11] 223, .cells #[.string es12] 223, .cells #[.string es13] 223, .cells #[.string es14] 223, .cells #[.string es15] 223, .cells #[.string es16] 223, .cells #[.string es17] 223, .cells #[.string es18] 223, .cells #[.string es19] 223, .cells #[.string es20] 223, .cells #[.string es21] 223, .cells #[.string es22] 223, .cells #[.string es23] 223, .cells #[.string es24] 223], #[], []⟩
  { w0 with heap := (((((((((((((((((((((((((w0.heap.modify 0 (setC (.iface 206 (.pointer (some ⟨low + 0, 0, none⟩))))).modify 1 (setC (.iface 206 (.pointer (some ⟨low + 1, 0, none⟩))))).modify 2 (setC (.iface 206 (.pointer (some ⟨low + 2, 0, none⟩))))).modify 3 (setC (.iface 206 (.pointer (some ⟨low + 3, 0, none⟩))))).modify 4 (setC (.iface 206 (.pointer (some ⟨low + 4, 0, none⟩))))).modify 5 (setC (.iface 206 (.pointer (some ⟨low + 5, 0, none⟩))))).modify 6 (setC (.iface 206 (.pointer (some ⟨low + 6, 0, none⟩))))).modify 7 (setC (.iface 206 (.pointer (some ⟨low + 7, 0, none⟩))))).modify 8 (setC (.iface 206 (.pointer (some ⟨low + 8, 0, none⟩))))).modify 9 (setC (.iface 206 (.pointer (some ⟨low + 9, 0, none⟩))))).modify 10 (setC (.iface 206 (.pointer (some ⟨low + 10, 0, none⟩))))).modify 11 (setC (.iface 206 (.pointer (some ⟨low + 11, 0, none⟩))))).modify 12 (setC (.iface 206 (.pointer (some ⟨low + 12, 0, none⟩))))).modify 13 (setC (.iface 206 (.pointer (some ⟨low + 13, 0, none⟩))))).modify 14 (setC (.iface 206 (.pointer (some ⟨low + 14, 0, none⟩))))).modify 15 (setC (.iface 206 (.pointer (some ⟨low + 15, 0, none⟩))))).modify 16 (setC (.iface 206 (.pointer (some ⟨low + 16, 0, none⟩))))).modify 17 (setC (.iface 206 (.pointer (some ⟨low + 17, 0, none⟩))))).modify 18 (setC (.iface 206 (.pointer (some ⟨low + 18, 0, none⟩))))).modify 19 (setC (.iface 206 (.pointer (some ⟨low + 19, 0, none⟩))))).modify 20 (setC (.iface 206 (.pointer (some ⟨low + 20, 0, none⟩))))).modify 21 (setC (.iface 206 (.pointer (some ⟨low + 21, 0, none⟩))))).modify 22 (setC (.iface 206 (.pointer (some ⟨low + 22, 0, none⟩))))).modify 23 (setC (.iface 206 (.pointer (some ⟨low + 23, 0, none⟩))))).modify 24 (setC (.iface 206 (.pointer (some ⟨low + 24, 0, none⟩))))) }
theorem starE : "*" ++ "errors.errorString" = "*errors.errorString" := by decide
theorem rowE (u : TypeId) (h : Tryd.prog.typeName? 3 u = some "*errors.errorString") : u = 206 :=
  typeName_ptr_named (nm := "errors.errorString") (by rw [starE]; kernel_rfl) (by kernel_rfl) (by decide) u (by rw [starE]; exact h)
theorem ceE : Tryd.prog.cellsOf 223 = 1 := by kernel_rfl
theorem csE : Tryd.prog.cellsOf 9 = 1 := by kernel_rfl
theorem sent6 {W : World} {l : List (String × DataW Unit)} (h : laidMet Tryd.prog l W) (hm : ("sargasso/api.ErrRange", .iface "*errors.errorString" (.ptr (.agg [.lit (.string [97, 32, 110, 117, 109, 98, 101, 114, 32, 111, 117, 116, 32, 111, 102, 32, 105, 116, 115, 32, 114, 97, 110, 103, 101])]))) ∈ l) : ∃ v, ErS (mem W) v (Er.b 7) :=
  sent_of_laid h hm (by kernel_rfl) (by kernel_rfl) Tryd.underlying34 rowE Tryd.underlying206 Tryd.underlying223 rfl rfl Tryd.underlying9 ceE csE (fun s hs => by unfold errCode; rw [hs]; kernel_rfl)
end Go.Proofs.YtpeelghbhihgkaaDoor.T
namespace Go.Proofs.YtpeelghbhihgkaaDoor.T
open Go Go.Proofs Go.Proofs.YtpeelghbhihgkaaDoor.K
set_option linter.unusedVariables false
set_option linter.unusedSimpArgs false
theorem laid : laidOutB Tryd.prog = true := by kernel_rfl
theorem cl5 : Tryd.prog.cellsOf 5 = 1 := by kernel_rfl
theorem cl39 : Tryd.prog.cellsOf 39 = 1 := by kernel_rfl
theorem rr39 : Tryd.prog.readableRec 39 = true := by kernel_rfl
theorem tr39 : 39 < Tryd.prog.types.size := of_decide_eq_true (by kernel_rfl)
theorem cl55 : Tryd.prog.cellsOf 55 = 32 := by kernel_rfl
theorem cl87 : Tryd.prog.cellsOf 87 = 68 := by kernel_rfl
theorem rr87 : Tryd.prog.readableRec 87 = true := by kernel_rfl
theorem tr87 : 87 < Tryd.prog.types.size := of_decide_eq_true (by kernel_rfl)
section
variable {H : Type} {enc : TypeId × Value → H} {w : World} {base : Nat} {spare : Nat → Bool} {held : Bool}
theorem rd39 : Rd enc Tryd.prog w base spare held 39 (fun c => ∃ n, RI .u32 n c) := rd_int Tryd.underlying39
theorem rd55 : Rd enc Tryd.prog w base spare held 55 (fun c => ∃ xs, RA .u8 32 xs c) := rd_array Tryd.underlying55 Tryd.underlying5 cl5 cl55
theorem rd87 : Rd enc Tryd.prog w base spare held 87 (fun c => ∃ x, RHead (mem w) x c) := by
  intro fuel cs x h
  obtain ⟨hl, hf⟩ := rd_struct Tryd.underlying87 h
  rw [cl87] at hl
  obtain ⟨n0, y0, h0⟩ := hf 0 _ rfl
  obtain ⟨x0, e0, w0⟩ := rd39 _ _ _ h0
  have e0 : (cs.drop 0).take (Tryd.prog.cellsOf 39) = _ := e0
  rw [cl39] at e0
  have c0 := chop cs 0 1 1 rfl
  rw [e0] at c0
  obtain ⟨n1, y1, h1⟩ := hf 1 _ rfl
  obtain ⟨x1, e1, w1⟩ := rd55 _ _ _ h1
  have e1 : (cs.drop 1).take (Tryd.prog.cellsOf 55) = _ := e1
  rw [cl55] at e1
  have c1 := chop cs 1 32 33 rfl
  rw [e1] at c1
  obtain ⟨n2, y2, h2⟩ := hf 2 _ rfl
  obtain ⟨x2, e2, w2⟩ := rd55 _ _ _ h2
  have e2 : (cs.drop 33).take (Tryd.prog.cellsOf 55) = _ := e2
  rw [cl55] at e2
  have c2 := chop cs 33 32 65 rfl
  rw [e2] at c2
  obtain ⟨n3, y3, h3⟩ := hf 3 _ rfl
  obtain ⟨x3, e3, w3⟩ := rd39 _ _ _ h3
  have e3 : (cs.drop 65).take (Tryd.prog.cellsOf 39) = _ := e3
  rw [cl39] at e3
  have c3 := chop cs 65 1 66 rfl
  rw [e3] at c3
  obtain ⟨n4, y4, h4⟩ := hf 4 _ rfl
  obtain ⟨x4, e4, w4⟩ := rd39 _ _ _ h4
  have e4 : (cs.drop 66).take (Tryd.prog.cellsOf 39) = _ := e4
  rw [cl39] at e4
  have c4 := chop cs 66 1 67 rfl
  rw [e4] at c4
  obtain ⟨n5, y5, h5⟩ := hf 5 _ rfl
  obtain ⟨x5, e5, w5⟩ := rd39 _ _ _ h5
  have e5 : (cs.drop 67).take (Tryd.prog.cellsOf 39) = _ := e5
  rw [cl39] at e5
  have c5 := chop cs 67 1 68 rfl
  rw [e5] at c5
  rw [List.drop_eq_nil_of_le (i := 68) (by omega)] at c5
  rw [c5] at c4
  rw [c4] at c3
  rw [c3] at c2
  rw [c2] at c1
  rw [c1] at c0
  rw [List.drop_zero] at c0
  exact ⟨⟨x0, x1, x2, x3, x4, x5⟩,  by rw [c0]; simp [HeadC], ⟨w0, w1, w2, w3, w4, w5⟩⟩
end
end Go.Proofs.YtpeelghbhihgkaaDoor.T
namespace Go.Proofs.YtpeelghbhihgkaaDoor.J
open Go Go.Proofs
theorem words_cons : ∀ (w r : List Char), w.all (· != ' ') = true → wordsSigns (w ++ ' ' :: r) = w :: wordsSigns r
  | [], r, _ => rfl
  | c :: w, r, h => by
    simp only [List.all_cons, Bool.and_eq_true, bne_iff_ne, ne_eq] at h
    have ih := words_cons w r h.2
    rw [List.cons_append, wordsSigns, ih]
    exact fun e => h.1 e
set_option maxRecDepth 100000
def w0 : List Char := ['h', 'a', 'r', 'n', 'e', 's', 's']
def w1 : List Char := ['4', '4', 'c', '8', '7', '2', '5', '3', 'b', '6', 'd', '1', 'd', '6', '4', '9', 'e', 'a', '9', 'f', '3', '2', '0', '8', '1', 'a', '4', 'd', 'd', '5', 'f', 'b', 'f', 'f', '2', '1', '7', 'a', 'e', 'd', '9', 'a', 'b', '5', 'f', '6', '6', 'e', '5', 'b', '0', '9', '9', '1', 'c', '7', '7', 'e', 'b', '1', '8', 'b', '9', '7']
def w2 : List Char := ['c', 'u', 't']
def w3 : List Char := ['a', 't', ' ', 's', 'a', 'r', 'g', 'a', 's', 's', 'o', '/', 's', 'a', 'r', 'g', 'a', 's', 's', 'o', 'l', 'a', 'w', '2', '.', 'C', 'o', 'm', 'p', 'a', 'c', 't', 'B', 'a', 'c', 'k', ' ', 's', 'a', 'r', 'g', 'a', 's', 's', 'o', '/', 's', 'a', 'r', 'g', 'a', 's', 's', 'o', 'l', 'a', 'w', '2', '.', 'C', 'o', 'm', 'p', 'a', 'c', 't', 'F', 'e', 'w', 'e', 's', 't', ' ', 's', 'a', 'r', 'g', 'a', 's', 's', 'o', '/', 's', 'a', 'r', 'g', 'a', 's', 's', 'o', 'l', 'a', 'w', '2', '.', 'C', 'o', 'm', 'p', 'a', 'c', 't', 'R', 'o', 'w', 's', ' ', 's', 'a', 'r', 'g', 'a', 's', 's', 'o', '/', 's', 'a', 'r', 'g', 'a', 's', 's', 'o', 'l', 'a', 'w', '2', '.', 'C', 'o', 'm', 'p', 'a', 'c', 't', 'R', 'e', 'a', 'd', 's', ' ', 's', 'a', 'r', 'g', 'a', 's', 's', 'o', '/', 's', 'a', 'r', 'g', 'a', 's', 's', 'o', 'l', 'a', 'w', '2', '.', 'C', 'o', 'm', 'p', 'a', 'c', 't', 'S', 't', 'o', 'p', 's', ' ', 's', 'a', 'r', 'g', 'a', 's', 's', 'o', '/', 's', 'a', 'r', 'g', 'a', 's', 's', 'o', 'l', 'a', 'w', '4', '.', 'T', 'x', 'B', 'o', 'u', 'n', 'd', 's', ' ', 's', 'a', 'r', 'g', 'a', 's', 's', 'o', '/', 's', 'a', 'r', 'g', 'a', 's', 's', 'o', 'l', 'a', 'w', '4', '.', 'T', 'x', 'B', 'a', 's', 'e', 's', ' ', 's', 'a', 'r', 'g', 'a', 's', 's', 'o', '/', 's', 'a', 'r', 'g', 'a', 's', 's', 'o', 'l', 'a', 'w', '4', '.', 'T', 'x', 'B', 'a', 'c', 'k', ' ', 's', 'a', 'r', 'g', 'a', 's', 's', 'o', '/', 's', 'a', 'r', 'g', 'a', 's', 's', 'o', 'l', 'a', 'w', '4', '.', 'T', 'x', 'S', 'i', 'z', 'e', 's', ' ', 's', 'a', 'r', 'g', 'a', 's', 's', 'o', '/', 's', 'a', 'r', 'g', 'a', 's', 's', 'o', 'l', 'a', 'w', '4', '.', 'T', 'x', 'T', 'u', 'r', 'n', 'e', 'd', ' ', 's', 'a', 'r', 'g', 'a', 's', 's', 'o', '/', 's', 'a', 'r', 'g', 'a', 's', 's', 'o', 'l', 'a', 'w', '4', '.', 'T', 'x', 'S', 'a', 'y', 's', ' ', 's', 'a', 'r', 'g', 'a', 's', 's', 'o', '/', 's', 'a', 'r', 'g', 'a', 's', 's', 'o', 'l', 'a', 'w', '5', '.', 'H', 'e', 'a', 'd', 'W', 'o', 'r', 'k', ' ', 's', 'a', 'r', 'g', 'a', 's', 's', 'o', '/', 's', 'a', 'r', 'g', 'a', 's', 's', 'o', 'l', 'a', 'w', '5', '.', 'H', 'e', 'a', 'd', 'B', 'a', 'c', 'k', ' ', 's', 'a', 'r', 'g', 'a', 's', 's', 'o', '/', 's', 'a', 'r', 'g', 'a', 's', 's', 'o', 'l', 'a', 'w', '1', '5', '.', 'V', 'a', 'l', 'u', 'e', 'R', 'u', 'l', 'e', 's', ' ', 's', 'a', 'r', 'g', 'a', 's', 's', 'o', '/', 's', 'a', 'r', 'g', 'a', 's', 's', 'o', 'l', 'a', 'w', '1', '5', '.', 'V', 'a', 'l', 'u', 'e', 'K', 'e', 'e', 'p', 's', ' ', 's', 'a', 'r', 'g', 'a', 's', 's', 'o', '/', 's', 'a', 'r', 'g', 'a', 's', 's', 'o', 'l', 'a', 'w', '1', '5', '.', 'V', 'a', 'l', 'u', 'e', 'S', 'a', 'y', 's', ' ', 's', 'a', 'r', 'g', 'a', 's', 's', 'o', '/', 's', 'a', 'r', 'g', 'a', 's', 's', 'o', 'l', 'a', 'w', '2', '0', '.', 'N', 'o', 't', 'e', 's', 'C', 'a', 'p', ' ', 's', 'a', 'r', 'g', 'a', 's', 's', 'o', '/', 's', 'a', 'r', 'g', 'a', 's', 's', 'o', 'l', 'a', 'w', '2', '0', '.', 'N', 'o', 't', 'e', 's', 'P', 'l', 'a', 'y', ' ', 's', 'a', 'r', 'g', 'a', 's', 's', 'o', '/', 's', 'a', 'r', 'g', 'a', 's', 's', 'o', 'l', 'a', 'w', '2', '0', '.', 'N', 'o', 't', 'e', 's', 'O', 'p', 's']
theorem io0 : Tryd.prog.initOrder = String.ofList (w0 ++ ' ' :: (w1 ++ ' ' :: (w2 ++ ' ' :: w3))) := by kernel_rfl
theorem io : Tryd.prog.initOrder.toList = w0 ++ ' ' :: (w1 ++ ' ' :: (w2 ++ ' ' :: w3)) := (congrArg String.toList io0).trans String.toList_ofList
theorem ws : wordsSigns Tryd.prog.initOrder.toList = w0 :: w1 :: w2 :: wordsSigns w3 := by
  rw [io, words_cons _ _ (by kernel_rfl), words_cons _ _ (by kernel_rfl), words_cons _ _ (by kernel_rfl)]
theorem bm (R : List (List Char)) : behindMainWord (w0 :: w1 :: w2 :: R) = w2 :: R := by kernel_rfl
theorem main_of {P : Program} {R : List (List Char)} (h : wordsSigns P.initOrder.toList = w0 :: w1 :: R) : P.mainIs = some (true, w1) := by
  unfold Program.mainIs
  rw [h]
  kernel_rfl
theorem mainIs : Tryd.prog.mainIs = some (true, w1) := main_of ws
theorem bw : behindMainWord (wordsSigns Tryd.prog.initOrder.toList) = w2 :: wordsSigns w3 := by rw [ws, bm]
theorem st (R : List (List Char)) : stripLifts liftWords (w2 :: R) = ([], w2 :: R) := by kernel_rfl
theorem make_of {P : Program} {R : List (List Char)} (h : behindMainWord (wordsSigns P.initOrder.toList) = w2 :: R) : P.make = some .cut := by
  unfold Program.make
  rw [h]
  kernel_rfl
theorem head_of {P : Program} {R : List (List Char)} (h : behindMainWord (wordsSigns P.initOrder.toList) = w2 :: R) : P.headLifts = [] := by
  unfold Program.headLifts
  rw [h, st]
  kernel_rfl
theorem lifts_of {P : Program} {R : List (List Char)} (h : behindMainWord (wordsSigns P.initOrder.toList) = w2 :: R) : P.liftsFinal = false := by
  unfold Program.liftsFinal
  rw [h, head_of h]
  kernel_rfl
theorem may_of {P : Program} {R : List (List Char)} (h : behindMainWord (wordsSigns P.initOrder.toList) = w2 :: R) (h1 : P.laysLater = false) (h2 : P.bearsReflect = false) (h3 : P.doorFits [] = true) : P.mayEnter = true := by
  unfold Program.mayEnter
  rw [h]
  simp only [st, h1, h2, h3]
  kernel_rfl
theorem later : Tryd.prog.laysLater = false := by kernel_rfl
theorem reflect : Tryd.prog.bearsReflect = false := by kernel_rfl
theorem door : Tryd.prog.doorFits [] = true := by kernel_rfl
theorem make : Tryd.prog.make = some .cut := make_of bw
theorem lifts : Tryd.prog.liftsFinal = false := lifts_of bw
theorem may : Tryd.prog.mayEnter = true := may_of bw later reflect door
end Go.Proofs.YtpeelghbhihgkaaDoor.J
namespace Go.Proofs.YtpeelghbhihgkaaDoor.zHeadWork
open Go Go.Proofs Go.Proofs.YtpeelghbhihgkaaDoor.K Go.Proofs.YtpeelghbhihgkaaDoor.T
open Go.ChangeShapes Go.WideShapes Go.ChangeAt Go.RowKit
set_option linter.unusedVariables false
theorem met (os : Os) (args : Array Value) : laidMetH Tryd.prog Rows.headWorkRow.laid ((laidWorld os).forCall (fun _ _ => 0) ⟨#[], args, []⟩).memory :=
  laidMetH_of_parts (laidMet_of_run' 8 (by kernel_rfl) (by kernel_rfl)) (by kernel_rfl)
set_option maxRecDepth 100000 in
theorem lifted (os : Os) (started : os.Started) (H : Type) (enc : TypeId × Value → H) :
    ReturnsInHanded {} Tryd.checked os 14 .any (fun w args => (Rows.headWorkSpec.pre enc Tryd.prog Tryd.f14 [] false w args ∧ laidMetH Tryd.prog Rows.headWorkRow.laid w) ∧ sizedMet enc Tryd.prog Tryd.f14 (OpenSpec.ofChange Rows.headWorkSpec) false w args) (Rows.headWorkSpec.post enc Tryd.prog Tryd.f14 false true false false) := by
  refine returnsInHanded_of_change_and (C := Tryd.checked) (X := fun w _ => laidMetH Tryd.prog Rows.headWorkRow.laid w) (fun _ _ _ hh h => h.of_heap hh) own started (by kernel_rfl) Tryd.func14
    (ChangeSpec.witness_at (enc := enc) (C := Tryd.checked) (os := os) (X := fun w _ => laidMetH Tryd.prog Rows.headWorkRow.laid w) false (laidWorld os) #[.agg #[.int .u32 0, .int .u8 0, .int .u8 0, .int .u8 0, .int .u8 0, .int .u8 0, .int .u8 0, .int .u8 0, .int .u8 0, .int .u8 0, .int .u8 0, .int .u8 0, .int .u8 0, .int .u8 0, .int .u8 0, .int .u8 0, .int .u8 0, .int .u8 0, .int .u8 0, .int .u8 0, .int .u8 0, .int .u8 0, .int .u8 0, .int .u8 0, .int .u8 0, .int .u8 0, .int .u8 0, .int .u8 0, .int .u8 0, .int .u8 0, .int .u8 0, .int .u8 0, .int .u8 0, .int .u8 0, .int .u8 0, .int .u8 0, .int .u8 0, .int .u8 0, .int .u8 0, .int .u8 0, .int .u8 0, .int .u8 0, .int .u8 0, .int .u8 0, .int .u8 0, .int .u8 0, .int .u8 0, .int .u8 0, .int .u8 0, .int .u8 0, .int .u8 0, .int .u8 0, .int .u8 0, .int .u8 0, .int .u8 0, .int .u8 0, .int .u8 0, .int .u8 0, .int .u8 0, .int .u8 0, .int .u8 0, .int .u8 0, .int .u8 0, .int .u8 0, .int .u8 0, .int .u32 0, .int .u32 0, .int .u32 0], .int .u32 0] 8 rfl (by kernel_rfl) (by kernel_rfl) (by kernel_rfl) (by kernel_rfl) (by kernel_rfl) (met os _)) ?_
  intro W base args ds gs before hval0 hW hcnd hsz0 hL _
  have hL : laidMet Tryd.prog Rows.headWorkRow.laid W := hL
  obtain ⟨e6, he6⟩ := sent6 hL (List.mem_of_getElem? (i := 0) rfl)
  have hW' := hW
  obtain ⟨p, q, hA0, hV, rfl, hfz, hnd⟩ := hW
  have hA : DataW.TrodAll enc Tryd.prog W 0 (fun _ => true) true Tryd.f14.params.toList args.toList ds p := hA0
  have hval : ∀ (j : Nat) t v, Tryd.f14.params[j]? = some t → args[j]? = some v → Value.okWide Tryd.prog W .any base t v := hval0
  rw [Tryd.params14] at hA hval
  obtain ⟨v0, vs0, d0, ds0, p0, q0, hargs, rfl, rfl, h0, r0⟩ := trodAll_cons hA
  obtain ⟨v1, vs1, d1, ds1, p1, q1, rfl, rfl, rfl, h1, r1⟩ := trodAll_cons r0
  obtain ⟨rfl, rfl, rfl⟩ := trodAll_nil r1
  obtain rfl : args = #[v0, v1] := by cases args; simp_all
  obtain ⟨rfl, rfl⟩ := trodVars_none hV
  obtain ⟨c0, rfl, x0, rfl, w0⟩ := at_agg (agg_struct Tryd.underlying87 (hval 0 87 v0 rfl rfl)) rd87 h0
  obtain ⟨x1, rfl, _, _, w1⟩ := open_int Tryd.underlying39 (hval 1 39 v1 rfl rfl) h1
  have hμ : Agr (mem W) W := agr_mem W
  have hm := sargassolaw5_HeadWork.m (mem W) x0 w0 x1 (wf_in w1)
  refine (sargassolaw5_HeadWork.c (mem W) W hμ x0 w0 x1 (wf_in w1) e6 he6 true hm).mono fun e W' ⟨v, he, hv, _, hI⟩ => ?_
  subst hv
  subst he
  have bel : Below W.heap.size W W' := hI.below
  exact ⟨_, rfl, _, _, _, [], _, [], hW', trodAll_mk1 (shut_bool Tryd.underlying4 _), (trodAll_cons_mk (again laid rr87 tr87 h0 bel) (trodAll_cons_mk (again laid rr39 tr39 h1 bel) trodAll_mk0)), rfl, bel.frame _, fun h => by cases h⟩
theorem closed : joinedFacts Tryd.prog 14 Tryd.f14 Rows.headWorkSpec Rows.headWorkRow = true := by
  unfold joinedFacts
  rw [J.may, J.lifts, J.make]
  kernel_rfl
theorem over : Rows.headWorkRow.holds Tryd.pinned (OpenSpec.ofChange Rows.headWorkSpec) :=
  OpenClaim.holds_of_wide 14 Tryd.f14 rfl rfl rfl rfl rfl rfl rfl ⟨rfl, rfl, rfl, rfl, rfl⟩ rfl rfl rfl rfl rfl (by kernel_rfl) Tryd.func14 closed
    (of_decide_eq_true (by kernel_rfl)) (by unfold Func.isWrapper; first | (rw [if_pos (by decide +kernel)]; kernel_rfl) | (rw [if_neg (by decide +kernel)]; exact ⟨rfl, rfl⟩))
    (fun os started H enc _ => lifted os started H enc)
theorem card : Rows.HeadWorkCardSaid :=
  Claim7.holds_tied_plain_at .later [] [.sentinel] true (true, "44c87253b6d1d649ea9f32081a4dd5fbff217aed9ab5f66e5b0991c77eb18b97") true
    over (fun _ h => by cases h) (by kernel_rfl) (fun _ h => by cases h) headWork_row_tie rfl ⟨rfl, rfl⟩ (J.mainIs.trans (congrArg (fun s => some (true, s)) (by kernel_rfl))) rfl
    (fun f fn hf hfn => by
      obtain rfl : f = 14 := Option.some.inj ((show Tryd.prog.funcNamed "sargasso/sargassolaw5.HeadWork" = some 14 by kernel_rfl).symm.trans hf) |>.symm
      obtain rfl : fn = Tryd.f14 := (Option.some.inj (Tryd.func14.symm.trans hfn)).symm
      exact ⟨by kernel_rfl, fun j t ht => by
        rw [Tryd.params14] at ht
        rcases j with _ | _ | j
        · obtain rfl : (87 : TypeId) = t := by simpa using ht
          exact (show Tryd.prog.wantsStandIn 87 = false by kernel_rfl)
        · obtain rfl : (39 : TypeId) = t := by simpa using ht
          exact (show Tryd.prog.wantsStandIn 39 = false by kernel_rfl)
        · simp at ht⟩)
    (by kernel_rfl)
end Go.Proofs.YtpeelghbhihgkaaDoor.zHeadWork
namespace Go.Proofs.YtpeelghbhihgkaaDoor
theorem headWork_holds : Rows.HeadWorkCardSaid := zHeadWork.card
#print axioms headWork_holds
end Go.Proofs.YtpeelghbhihgkaaDoor
