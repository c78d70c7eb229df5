/- A helper of this seat's claims: printed by gen.py. It proves no statement by itself. -/
import Derived.Test.YtnbnnphlffhgiaaK6
import Derived.Test.YtnbnnphlffhgiaaN
import Derived.Test.YtnbnnphlffhgiaaProg
namespace Go.Proofs.Ytnbnnphlffhgiaa.T
open Go Go.Proofs Go.Proofs.Ytnbnnphlffhgiaa.K
set_option linter.unusedVariables false
set_option linter.unusedSimpArgs false
theorem laid : laidOutB Try.prog = true := by kernel_rfl
theorem cl3 : Try.prog.cellsOf 3 = 1 := by kernel_rfl
theorem rr3 : Try.prog.readableRec 3 = true := by kernel_rfl
theorem tr3 : 3 < Try.prog.types.size := of_decide_eq_true (by kernel_rfl)
theorem cl4 : Try.prog.cellsOf 4 = 1 := by kernel_rfl
theorem rr4 : Try.prog.readableRec 4 = true := by kernel_rfl
theorem tr4 : 4 < Try.prog.types.size := of_decide_eq_true (by kernel_rfl)
theorem cl5 : Try.prog.cellsOf 5 = 1 := by kernel_rfl
theorem rr5 : Try.prog.readableRec 5 = true := by kernel_rfl
theorem tr5 : 5 < Try.prog.types.size := of_decide_eq_true (by kernel_rfl)
theorem cl22 : Try.prog.cellsOf 22 = 1 := by kernel_rfl
theorem rr22 : Try.prog.readableRec 22 = true := by kernel_rfl
theorem tr22 : 22 < Try.prog.types.size := of_decide_eq_true (by kernel_rfl)
theorem cl23 : Try.prog.cellsOf 23 = 1 := by kernel_rfl
theorem rr23 : Try.prog.readableRec 23 = true := by kernel_rfl
theorem tr23 : 23 < Try.prog.types.size := of_decide_eq_true (by kernel_rfl)
theorem cl25 : Try.prog.cellsOf 25 = 1 := by kernel_rfl
theorem rr25 : Try.prog.readableRec 25 = true := by kernel_rfl
theorem tr25 : 25 < Try.prog.types.size := of_decide_eq_true (by kernel_rfl)
theorem cl33 : Try.prog.cellsOf 33 = 32 := by kernel_rfl
theorem rr33 : Try.prog.readableRec 33 = true := by kernel_rfl
theorem tr33 : 33 < Try.prog.types.size := of_decide_eq_true (by kernel_rfl)
theorem cl45 : Try.prog.cellsOf 45 = 1 := by kernel_rfl
theorem rr45 : Try.prog.readableRec 45 = true := by kernel_rfl
theorem tr45 : 45 < Try.prog.types.size := of_decide_eq_true (by kernel_rfl)
theorem cl49 : Try.prog.cellsOf 49 = 1 := by kernel_rfl
theorem rr49 : Try.prog.readableRec 49 = true := by kernel_rfl
theorem tr49 : 49 < Try.prog.types.size := of_decide_eq_true (by kernel_rfl)
theorem cl57 : Try.prog.cellsOf 57 = 33 := by kernel_rfl
theorem rr57 : Try.prog.readableRec 57 = true := by kernel_rfl
theorem tr57 : 57 < Try.prog.types.size := of_decide_eq_true (by kernel_rfl)
theorem cl71 : Try.prog.cellsOf 71 = 35 := by kernel_rfl
theorem rr71 : Try.prog.readableRec 71 = true := by kernel_rfl
theorem tr71 : 71 < Try.prog.types.size := of_decide_eq_true (by kernel_rfl)
theorem cl64 : Try.prog.cellsOf 64 = 1 := by kernel_rfl
theorem rr64 : Try.prog.readableRec 64 = true := by kernel_rfl
theorem tr64 : 64 < Try.prog.types.size := of_decide_eq_true (by kernel_rfl)
theorem cl73 : Try.prog.cellsOf 73 = 33 := by kernel_rfl
theorem rr73 : Try.prog.readableRec 73 = true := by kernel_rfl
theorem tr73 : 73 < Try.prog.types.size := of_decide_eq_true (by kernel_rfl)
theorem cl65 : Try.prog.cellsOf 65 = 1 := by kernel_rfl
theorem rr65 : Try.prog.readableRec 65 = true := by kernel_rfl
theorem tr65 : 65 < Try.prog.types.size := of_decide_eq_true (by kernel_rfl)
theorem cl67 : Try.prog.cellsOf 67 = 4 := by kernel_rfl
theorem rr67 : Try.prog.readableRec 67 = true := by kernel_rfl
theorem tr67 : 67 < Try.prog.types.size := of_decide_eq_true (by kernel_rfl)
theorem cl76 : Try.prog.cellsOf 76 = 68 := by kernel_rfl
theorem rr76 : Try.prog.readableRec 76 = true := by kernel_rfl
theorem tr76 : 76 < Try.prog.types.size := of_decide_eq_true (by kernel_rfl)
theorem cl80 : Try.prog.cellsOf 80 = 1 := by kernel_rfl
theorem rr80 : Try.prog.readableRec 80 = true := by kernel_rfl
theorem tr80 : 80 < Try.prog.types.size := of_decide_eq_true (by kernel_rfl)
theorem cl94 : Try.prog.cellsOf 94 = 1 := by kernel_rfl
theorem rr94 : Try.prog.readableRec 94 = true := by kernel_rfl
theorem tr94 : 94 < Try.prog.types.size := of_decide_eq_true (by kernel_rfl)
section
variable {H : Type} {enc : TypeId × Value → H} {w : World} {base : Nat} {spare : Nat → Bool} {held : Bool}
theorem rd3 : Rd enc Try.prog w base spare held 3 (fun c => ∃ n, RI .i64 n c) := rd_int Try.underlying3
theorem rd4 : Rd enc Try.prog w base spare held 4 (fun c => ∃ b, c = [[.bool b]].flatten) := rd_bool Try.underlying4
theorem rd5 : Rd enc Try.prog w base spare held 5 (fun c => ∃ n, RI .u8 n c) := rd_int Try.underlying5
theorem rd22 : Rd enc Try.prog w base spare held 22 (fun c => ∃ v xs, c = [v] ∧ Slc (RI .u8) 1 (mem w) v xs) := rd_slice Try.underlying22 cl5 (by decide) rd5
theorem rd23 : Rd enc Try.prog w base spare held 23 (fun c => ∃ v xs, c = [v] ∧ Slc (RI .i64) 1 (mem w) v xs) := rd_slice Try.underlying23 cl3 (by decide) rd3
theorem rd25 : Rd enc Try.prog w base spare held 25 (fun c => ∃ n, RI .u32 n c) := rd_int Try.underlying25
theorem rd33 : Rd enc Try.prog w base spare held 33 (fun c => ∃ xs, RA .u8 32 xs c) := rd_array Try.underlying33 Try.underlying5 cl5 cl33
theorem rd45 : Rd enc Try.prog w base spare held 45 (fun c => ∃ n, RI .u64 n c) := rd_int Try.underlying45
theorem rd49 : Rd enc Try.prog w base spare held 49 (fun c => ∃ v xs, c = [v] ∧ Slc (RI .u64) 1 (mem w) v xs) := rd_slice Try.underlying49 cl45 (by decide) rd45
theorem rd57 : Rd enc Try.prog w base spare held 57 (fun c => ∃ x, RPoint (mem w) x c) := by
  intro fuel cs x h
  obtain ⟨hl, hf⟩ := rd_struct Try.underlying57 h
  rw [cl57] at hl
  obtain ⟨n0, y0, h0⟩ := hf 0 _ rfl
  obtain ⟨x0, e0, w0⟩ := rd33 _ _ _ h0
  have e0 : (cs.drop 0).take (Try.prog.cellsOf 33) = _ := e0
  rw [cl33] at e0
  have c0 := chop cs 0 32 32 rfl
  rw [e0] at c0
  obtain ⟨n1, y1, h1⟩ := hf 1 _ rfl
  obtain ⟨x1, e1, w1⟩ := rd25 _ _ _ h1
  have e1 : (cs.drop 32).take (Try.prog.cellsOf 25) = _ := e1
  rw [cl25] at e1
  have c1 := chop cs 32 1 33 rfl
  rw [e1] at c1
  rw [List.drop_eq_nil_of_le (i := 33) (by omega)] at c1
  rw [c1] at c0
  rw [List.drop_zero] at c0
  exact ⟨⟨x0, x1⟩,  by rw [c0]; simp [PointC], ⟨w0, w1⟩⟩
theorem rd71 : Rd enc Try.prog w base spare held 71 (fun c => ∃ x, RIn (mem w) x c) := by
  intro fuel cs x h
  obtain ⟨hl, hf⟩ := rd_struct Try.underlying71 h
  rw [cl71] at hl
  obtain ⟨n0, y0, h0⟩ := hf 0 _ rfl
  obtain ⟨x0, e0, w0_0, w0_1⟩ := rd57 _ _ _ h0
  have e0 : (cs.drop 0).take (Try.prog.cellsOf 57) = _ := e0
  rw [cl57] at e0
  have c0 := chop cs 0 33 33 rfl
  rw [e0] at c0
  obtain ⟨n1, y1, h1⟩ := hf 1 _ rfl
  obtain ⟨v1, x1, e1, w1⟩ := rd22 _ _ _ h1
  have e1 : (cs.drop 33).take (Try.prog.cellsOf 22) = _ := e1
  rw [cl22] at e1
  have c1 := chop cs 33 1 34 rfl
  rw [e1] at c1
  obtain ⟨n2, y2, h2⟩ := hf 2 _ rfl
  obtain ⟨x2, e2, w2⟩ := rd25 _ _ _ h2
  have e2 : (cs.drop 34).take (Try.prog.cellsOf 25) = _ := e2
  rw [cl25] at e2
  have c2 := chop cs 34 1 35 rfl
  rw [e2] at c2
  rw [List.drop_eq_nil_of_le (i := 35) (by omega)] at c2
  rw [c2] at c1
  rw [c1] at c0
  rw [List.drop_zero] at c0
  exact ⟨⟨x0, x1, x2⟩, v1,  by rw [c0]; simp [InC, PointC], ⟨w0_0, w0_1, w1, w2⟩⟩
theorem rd64 : Rd enc Try.prog w base spare held 64 (fun c => ∃ v xs, c = [v] ∧ Slc (RIn (mem w)) 35 (mem w) v xs) := rd_slice Try.underlying64 cl71 (by decide) rd71
theorem rd73 : Rd enc Try.prog w base spare held 73 (fun c => ∃ x, ROut (mem w) x c) := by
  intro fuel cs x h
  obtain ⟨hl, hf⟩ := rd_struct Try.underlying73 h
  rw [cl73] at hl
  obtain ⟨n0, y0, h0⟩ := hf 0 _ rfl
  obtain ⟨x0, e0, w0⟩ := rd45 _ _ _ h0
  have e0 : (cs.drop 0).take (Try.prog.cellsOf 45) = _ := e0
  rw [cl45] at e0
  have c0 := chop cs 0 1 1 rfl
  rw [e0] at c0
  obtain ⟨n1, y1, h1⟩ := hf 1 _ rfl
  obtain ⟨x1, e1, w1⟩ := rd33 _ _ _ h1
  have e1 : (cs.drop 1).take (Try.prog.cellsOf 33) = _ := e1
  rw [cl33] at e1
  have c1 := chop cs 1 32 33 rfl
  rw [e1] at c1
  rw [List.drop_eq_nil_of_le (i := 33) (by omega)] at c1
  rw [c1] at c0
  rw [List.drop_zero] at c0
  exact ⟨⟨x0, x1⟩,  by rw [c0]; simp [OutC], ⟨w0, w1⟩⟩
theorem rd65 : Rd enc Try.prog w base spare held 65 (fun c => ∃ v xs, c = [v] ∧ Slc (ROut (mem w)) 33 (mem w) v xs) := rd_slice Try.underlying65 cl73 (by decide) rd73
theorem rd67 : Rd enc Try.prog w base spare held 67 (fun c => ∃ x, RTx (mem w) x c) := by
  intro fuel cs x h
  obtain ⟨hl, hf⟩ := rd_struct Try.underlying67 h
  rw [cl67] at hl
  obtain ⟨n0, y0, h0⟩ := hf 0 _ rfl
  obtain ⟨x0, e0, w0⟩ := rd25 _ _ _ h0
  have e0 : (cs.drop 0).take (Try.prog.cellsOf 25) = _ := e0
  rw [cl25] at e0
  have c0 := chop cs 0 1 1 rfl
  rw [e0] at c0
  obtain ⟨n1, y1, h1⟩ := hf 1 _ rfl
  obtain ⟨v1, x1, e1, w1⟩ := rd64 _ _ _ h1
  have e1 : (cs.drop 1).take (Try.prog.cellsOf 64) = _ := e1
  rw [cl64] at e1
  have c1 := chop cs 1 1 2 rfl
  rw [e1] at c1
  obtain ⟨n2, y2, h2⟩ := hf 2 _ rfl
  obtain ⟨v2, x2, e2, w2⟩ := rd65 _ _ _ h2
  have e2 : (cs.drop 2).take (Try.prog.cellsOf 65) = _ := e2
  rw [cl65] at e2
  have c2 := chop cs 2 1 3 rfl
  rw [e2] at c2
  obtain ⟨n3, y3, h3⟩ := hf 3 _ rfl
  obtain ⟨x3, e3, w3⟩ := rd25 _ _ _ h3
  have e3 : (cs.drop 3).take (Try.prog.cellsOf 25) = _ := e3
  rw [cl25] at e3
  have c3 := chop cs 3 1 4 rfl
  rw [e3] at c3
  rw [List.drop_eq_nil_of_le (i := 4) (by omega)] at c3
  rw [c3] at c2
  rw [c2] at c1
  rw [c1] at c0
  rw [List.drop_zero] at c0
  exact ⟨⟨x0, x1, x2, x3⟩, v1, v2,  by rw [c0]; simp [TxC], ⟨w0, w1, w2, w3⟩⟩
theorem rd76 : Rd enc Try.prog w base spare held 76 (fun c => ∃ x, RHead (mem w) x c) := by
  intro fuel cs x h
  obtain ⟨hl, hf⟩ := rd_struct Try.underlying76 h
  rw [cl76] at hl
  obtain ⟨n0, y0, h0⟩ := hf 0 _ rfl
  obtain ⟨x0, e0, w0⟩ := rd25 _ _ _ h0
  have e0 : (cs.drop 0).take (Try.prog.cellsOf 25) = _ := e0
  rw [cl25] at e0
  have c0 := chop cs 0 1 1 rfl
  rw [e0] at c0
  obtain ⟨n1, y1, h1⟩ := hf 1 _ rfl
  obtain ⟨x1, e1, w1⟩ := rd33 _ _ _ h1
  have e1 : (cs.drop 1).take (Try.prog.cellsOf 33) = _ := e1
  rw [cl33] at e1
  have c1 := chop cs 1 32 33 rfl
  rw [e1] at c1
  obtain ⟨n2, y2, h2⟩ := hf 2 _ rfl
  obtain ⟨x2, e2, w2⟩ := rd33 _ _ _ h2
  have e2 : (cs.drop 33).take (Try.prog.cellsOf 33) = _ := e2
  rw [cl33] at e2
  have c2 := chop cs 33 32 65 rfl
  rw [e2] at c2
  obtain ⟨n3, y3, h3⟩ := hf 3 _ rfl
  obtain ⟨x3, e3, w3⟩ := rd25 _ _ _ h3
  have e3 : (cs.drop 65).take (Try.prog.cellsOf 25) = _ := e3
  rw [cl25] at e3
  have c3 := chop cs 65 1 66 rfl
  rw [e3] at c3
  obtain ⟨n4, y4, h4⟩ := hf 4 _ rfl
  obtain ⟨x4, e4, w4⟩ := rd25 _ _ _ h4
  have e4 : (cs.drop 66).take (Try.prog.cellsOf 25) = _ := e4
  rw [cl25] at e4
  have c4 := chop cs 66 1 67 rfl
  rw [e4] at c4
  obtain ⟨n5, y5, h5⟩ := hf 5 _ rfl
  obtain ⟨x5, e5, w5⟩ := rd25 _ _ _ h5
  have e5 : (cs.drop 67).take (Try.prog.cellsOf 25) = _ := e5
  rw [cl25] at e5
  have c5 := chop cs 67 1 68 rfl
  rw [e5] at c5
  rw [List.drop_eq_nil_of_le (i := 68) (by omega)] at c5
  rw [c5] at c4
  rw [c4] at c3
  rw [c3] at c2
  rw [c2] at c1
  rw [c1] at c0
  rw [List.drop_zero] at c0
  exact ⟨⟨x0, x1, x2, x3, x4, x5⟩,  by rw [c0]; simp [HeadC], ⟨w0, w1, w2, w3, w4, w5⟩⟩
theorem rd80 : Rd enc Try.prog w base spare held 80 (fun c => ∃ v xs, c = [v] ∧ Slc (RA .u8 32) 32 (mem w) v xs) := rd_slice Try.underlying80 cl33 (by decide) rd33
theorem rd94 : Rd enc Try.prog w base spare held 94 (fun c => ∃ v xs, c = [v] ∧ Slc (RI .u32) 1 (mem w) v xs) := rd_slice Try.underlying94 cl25 (by decide) rd25
end
end Go.Proofs.Ytnbnnphlffhgiaa.T
