/- A helper of this seat's claims: printed by gen.py. It proves no statement by itself. -/
import Derived.Test.YtnbnnphlffhgiaaProg
import Derived.Test.YtnbnnphlffhgiaaN
namespace Go.Proofs.Ytnbnnphlffhgiaa.T
open Go Go.Proofs Go.Proofs.Ytnbnnphlffhgiaa.K
set_option linter.unusedVariables false
set_option linter.unusedSimpArgs false
theorem mo : Try.prog.follows .mixedOrders = true := by kernel_rfl
theorem sz3 : (Try.prog.info? 3).map (·.size) = some 1 := by kernel_rfl
theorem sz4 : (Try.prog.info? 4).map (·.size) = some 1 := by kernel_rfl
theorem sz5 : (Try.prog.info? 5).map (·.size) = some 1 := by kernel_rfl
theorem sz22 : (Try.prog.info? 22).map (·.size) = some 1 := by kernel_rfl
theorem sz25 : (Try.prog.info? 25).map (·.size) = some 1 := by kernel_rfl
theorem sz26 : (Try.prog.info? 26).map (·.size) = some 8 := by kernel_rfl
theorem sz33 : (Try.prog.info? 33).map (·.size) = some 32 := by kernel_rfl
theorem sz45 : (Try.prog.info? 45).map (·.size) = some 1 := by kernel_rfl
theorem sz57 : (Try.prog.info? 57).map (·.size) = some 33 := by kernel_rfl
theorem sz64 : (Try.prog.info? 64).map (·.size) = some 1 := by kernel_rfl
theorem sz65 : (Try.prog.info? 65).map (·.size) = some 1 := by kernel_rfl
theorem sz67 : (Try.prog.info? 67).map (·.size) = some 4 := by kernel_rfl
theorem sz71 : (Try.prog.info? 71).map (·.size) = some 35 := by kernel_rfl
theorem sz73 : (Try.prog.info? 73).map (·.size) = some 33 := by kernel_rfl
theorem sz76 : (Try.prog.info? 76).map (·.size) = some 68 := by kernel_rfl
theorem sz103 : (Try.prog.info? 103).map (·.size) = some 35 := by kernel_rfl
theorem cf26 : CalleeF Try.prog 26 := ⟨Try.f26, Try.func26, by decide, rfl⟩
theorem cf28 : CalleeF Try.prog 28 := ⟨Try.f28, Try.func28, by decide, rfl⟩
theorem cf34 : CalleeF Try.prog 34 := ⟨Try.f34, Try.func34, by decide, rfl⟩
theorem cf39 : CalleeF Try.prog 39 := ⟨Try.f39, Try.func39, by decide, rfl⟩
theorem cf41 : CalleeF Try.prog 41 := ⟨Try.f41, Try.func41, by decide, rfl⟩
theorem cf42 : CalleeF Try.prog 42 := ⟨Try.f42, Try.func42, by decide, rfl⟩
theorem cf43 : CalleeF Try.prog 43 := ⟨Try.f43, Try.func43, by decide, rfl⟩
theorem cf44 : CalleeF Try.prog 44 := ⟨Try.f44, Try.func44, by decide, rfl⟩
theorem cf45 : CalleeF Try.prog 45 := ⟨Try.f45, Try.func45, by decide, rfl⟩
theorem cf46 : CalleeF Try.prog 46 := ⟨Try.f46, Try.func46, by decide, rfl⟩
theorem cf47 : CalleeF Try.prog 47 := ⟨Try.f47, Try.func47, by decide, rfl⟩
theorem cf48 : CalleeF Try.prog 48 := ⟨Try.f48, Try.func48, by decide, rfl⟩
theorem cf49 : CalleeF Try.prog 49 := ⟨Try.f49, Try.func49, by decide, rfl⟩
theorem cf50 : CalleeF Try.prog 50 := ⟨Try.f50, Try.func50, by decide, rfl⟩
theorem cf51 : CalleeF Try.prog 51 := ⟨Try.f51, Try.func51, by decide, rfl⟩
theorem cf52 : CalleeF Try.prog 52 := ⟨Try.f52, Try.func52, by decide, rfl⟩
theorem cf58 : CalleeF Try.prog 58 := ⟨Try.f58, Try.func58, by decide, rfl⟩
theorem cf60 : CalleeF Try.prog 60 := ⟨Try.f60, Try.func60, by decide, rfl⟩
theorem cf81 : CalleeF Try.prog 81 := ⟨Try.f81, Try.func81, by decide, rfl⟩
theorem cf83 : CalleeF Try.prog 83 := ⟨Try.f83, Try.func83, by decide, rfl⟩
theorem cf84 : CalleeF Try.prog 84 := ⟨Try.f84, Try.func84, by decide, rfl⟩
theorem cf85 : CalleeF Try.prog 85 := ⟨Try.f85, Try.func85, by decide, rfl⟩
theorem cf88 : CalleeF Try.prog 88 := ⟨Try.f88, Try.func88, by decide, rfl⟩
theorem cf92 : CalleeF Try.prog 92 := ⟨Try.f92, Try.func92, by decide, rfl⟩
theorem cf93 : CalleeF Try.prog 93 := ⟨Try.f93, Try.func93, by decide, rfl⟩
theorem cf97 : CalleeF Try.prog 97 := ⟨Try.f97, Try.func97, by decide, rfl⟩
theorem cf99 : CalleeF Try.prog 99 := ⟨Try.f99, Try.func99, by decide, rfl⟩
theorem cf100 : CalleeF Try.prog 100 := ⟨Try.f100, Try.func100, by decide, rfl⟩
theorem cf103 : CalleeF Try.prog 103 := ⟨Try.f103, Try.func103, by decide, rfl⟩
theorem cf116 : CalleeF Try.prog 116 := ⟨Try.f116, Try.func116, by decide, rfl⟩
theorem zr3 : ∃ z, (Try.prog.info? 3).map (·.zero) = some (some z) ∧ z.cells = ([[.int .i64 0]] : List (List Value)).flatten.toArray := ⟨.int .i64 0, by kernel_rfl, by kernel_rfl⟩
theorem zr5 : ∃ z, (Try.prog.info? 5).map (·.zero) = some (some z) ∧ z.cells = ([[.int .u8 0]] : List (List Value)).flatten.toArray := ⟨.int .u8 0, by kernel_rfl, by kernel_rfl⟩
theorem zr25 : ∃ z, (Try.prog.info? 25).map (·.zero) = some (some z) ∧ z.cells = ([[.int .u32 0]] : List (List Value)).flatten.toArray := ⟨.int .u32 0, by kernel_rfl, by kernel_rfl⟩
theorem zr26 : ∃ z, (Try.prog.info? 26).map (·.zero) = some (some z) ∧ z.cells = ([av .u32 8 (List.replicate 8 0)] : List (List Value)).flatten.toArray := ⟨.agg #[.int .u32 0, .int .u32 0, .int .u32 0, .int .u32 0, .int .u32 0, .int .u32 0, .int .u32 0, .int .u32 0], by kernel_rfl, by kernel_rfl⟩
theorem zr28 : ∃ z, (Try.prog.info? 28).map (·.zero) = some (some z) ∧ z.cells = ([av .u32 8 (List.replicate 8 0), [(.slice none 0 0)], [.int .i64 0]] : List (List Value)).flatten.toArray := ⟨.agg #[.int .u32 0, .int .u32 0, .int .u32 0, .int .u32 0, .int .u32 0, .int .u32 0, .int .u32 0, .int .u32 0, .slice none 0 0, .int .i64 0], by kernel_rfl, by kernel_rfl⟩
theorem zr33 : ∃ z, (Try.prog.info? 33).map (·.zero) = some (some z) ∧ z.cells = ([av .u8 32 (List.replicate 32 0)] : List (List Value)).flatten.toArray := ⟨.agg #[.int .u8 0, .int .u8 0, .int .u8 0, .int .u8 0, .int .u8 0, .int .u8 0, .int .u8 0, .int .u8 0, .int .u8 0, .int .u8 0, .int .u8 0, .int .u8 0, .int .u8 0, .int .u8 0, .int .u8 0, .int .u8 0, .int .u8 0, .int .u8 0, .int .u8 0, .int .u8 0, .int .u8 0, .int .u8 0, .int .u8 0, .int .u8 0, .int .u8 0, .int .u8 0, .int .u8 0, .int .u8 0, .int .u8 0, .int .u8 0, .int .u8 0, .int .u8 0], by kernel_rfl, by kernel_rfl⟩
theorem zr45 : ∃ z, (Try.prog.info? 45).map (·.zero) = some (some z) ∧ z.cells = ([[.int .u64 0]] : List (List Value)).flatten.toArray := ⟨.int .u64 0, by kernel_rfl, by kernel_rfl⟩
theorem zr57 : ∃ z, (Try.prog.info? 57).map (·.zero) = some (some z) ∧ z.cells = ([av .u8 32 (List.replicate 32 0), [.int .u32 0]] : List (List Value)).flatten.toArray := ⟨.agg #[.int .u8 0, .int .u8 0, .int .u8 0, .int .u8 0, .int .u8 0, .int .u8 0, .int .u8 0, .int .u8 0, .int .u8 0, .int .u8 0, .int .u8 0, .int .u8 0, .int .u8 0, .int .u8 0, .int .u8 0, .int .u8 0, .int .u8 0, .int .u8 0, .int .u8 0, .int .u8 0, .int .u8 0, .int .u8 0, .int .u8 0, .int .u8 0, .int .u8 0, .int .u8 0, .int .u8 0, .int .u8 0, .int .u8 0, .int .u8 0, .int .u8 0, .int .u8 0, .int .u32 0], by kernel_rfl, by kernel_rfl⟩
theorem zr67 : ∃ z, (Try.prog.info? 67).map (·.zero) = some (some z) ∧ z.cells = ([[.int .u32 0], [(.slice none 0 0)], [(.slice none 0 0)], [.int .u32 0]] : List (List Value)).flatten.toArray := ⟨.agg #[.int .u32 0, .slice none 0 0, .slice none 0 0, .int .u32 0], by kernel_rfl, by kernel_rfl⟩
theorem zr71 : ∃ z, (Try.prog.info? 71).map (·.zero) = some (some z) ∧ z.cells = ([av .u8 32 (List.replicate 32 0), [.int .u32 0], [(.slice none 0 0)], [.int .u32 0]] : List (List Value)).flatten.toArray := ⟨.agg #[.int .u8 0, .int .u8 0, .int .u8 0, .int .u8 0, .int .u8 0, .int .u8 0, .int .u8 0, .int .u8 0, .int .u8 0, .int .u8 0, .int .u8 0, .int .u8 0, .int .u8 0, .int .u8 0, .int .u8 0, .int .u8 0, .int .u8 0, .int .u8 0, .int .u8 0, .int .u8 0, .int .u8 0, .int .u8 0, .int .u8 0, .int .u8 0, .int .u8 0, .int .u8 0, .int .u8 0, .int .u8 0, .int .u8 0, .int .u8 0, .int .u8 0, .int .u8 0, .int .u32 0, .slice none 0 0, .int .u32 0], by kernel_rfl, by kernel_rfl⟩
theorem zr73 : ∃ z, (Try.prog.info? 73).map (·.zero) = some (some z) ∧ z.cells = ([[.int .u64 0], av .u8 32 (List.replicate 32 0)] : List (List Value)).flatten.toArray := ⟨.agg #[.int .u64 0, .int .u8 0, .int .u8 0, .int .u8 0, .int .u8 0, .int .u8 0, .int .u8 0, .int .u8 0, .int .u8 0, .int .u8 0, .int .u8 0, .int .u8 0, .int .u8 0, .int .u8 0, .int .u8 0, .int .u8 0, .int .u8 0, .int .u8 0, .int .u8 0, .int .u8 0, .int .u8 0, .int .u8 0, .int .u8 0, .int .u8 0, .int .u8 0, .int .u8 0, .int .u8 0, .int .u8 0, .int .u8 0, .int .u8 0, .int .u8 0, .int .u8 0, .int .u8 0], by kernel_rfl, by kernel_rfl⟩
theorem zr76 : ∃ z, (Try.prog.info? 76).map (·.zero) = some (some z) ∧ z.cells = ([[.int .u32 0], av .u8 32 (List.replicate 32 0), av .u8 32 (List.replicate 32 0), [.int .u32 0], [.int .u32 0], [.int .u32 0]] : List (List Value)).flatten.toArray := ⟨.agg #[.int .u32 0, .int .u8 0, .int .u8 0, .int .u8 0, .int .u8 0, .int .u8 0, .int .u8 0, .int .u8 0, .int .u8 0, .int .u8 0, .int .u8 0, .int .u8 0, .int .u8 0, .int .u8 0, .int .u8 0, .int .u8 0, .int .u8 0, .int .u8 0, .int .u8 0, .int .u8 0, .int .u8 0, .int .u8 0, .int .u8 0, .int .u8 0, .int .u8 0, .int .u8 0, .int .u8 0, .int .u8 0, .int .u8 0, .int .u8 0, .int .u8 0, .int .u8 0, .int .u8 0, .int .u8 0, .int .u8 0, .int .u8 0, .int .u8 0, .int .u8 0, .int .u8 0, .int .u8 0, .int .u8 0, .int .u8 0, .int .u8 0, .int .u8 0, .int .u8 0, .int .u8 0, .int .u8 0, .int .u8 0, .int .u8 0, .int .u8 0, .int .u8 0, .int .u8 0, .int .u8 0, .int .u8 0, .int .u8 0, .int .u8 0, .int .u8 0, .int .u8 0, .int .u8 0, .int .u8 0, .int .u8 0, .int .u8 0, .int .u8 0, .int .u8 0, .int .u8 0, .int .u32 0, .int .u32 0, .int .u32 0], by kernel_rfl, by kernel_rfl⟩
theorem zr103 : ∃ z, (Try.prog.info? 103).map (·.zero) = some (some z) ∧ z.cells = ([[.int .u64 0], av .u8 32 (List.replicate 32 0), [.int .i64 0], [.bool false]] : List (List Value)).flatten.toArray := ⟨.agg #[.int .u64 0, .int .u8 0, .int .u8 0, .int .u8 0, .int .u8 0, .int .u8 0, .int .u8 0, .int .u8 0, .int .u8 0, .int .u8 0, .int .u8 0, .int .u8 0, .int .u8 0, .int .u8 0, .int .u8 0, .int .u8 0, .int .u8 0, .int .u8 0, .int .u8 0, .int .u8 0, .int .u8 0, .int .u8 0, .int .u8 0, .int .u8 0, .int .u8 0, .int .u8 0, .int .u8 0, .int .u8 0, .int .u8 0, .int .u8 0, .int .u8 0, .int .u8 0, .int .u8 0, .int .i64 0, .bool false], by kernel_rfl, by kernel_rfl⟩
theorem zr124 : ∃ z, (Try.prog.info? 124).map (·.zero) = some (some z) ∧ z.cells = ([av .u32 64 (List.replicate 64 0)] : List (List Value)).flatten.toArray := ⟨.agg #[.int .u32 0, .int .u32 0, .int .u32 0, .int .u32 0, .int .u32 0, .int .u32 0, .int .u32 0, .int .u32 0, .int .u32 0, .int .u32 0, .int .u32 0, .int .u32 0, .int .u32 0, .int .u32 0, .int .u32 0, .int .u32 0, .int .u32 0, .int .u32 0, .int .u32 0, .int .u32 0, .int .u32 0, .int .u32 0, .int .u32 0, .int .u32 0, .int .u32 0, .int .u32 0, .int .u32 0, .int .u32 0, .int .u32 0, .int .u32 0, .int .u32 0, .int .u32 0, .int .u32 0, .int .u32 0, .int .u32 0, .int .u32 0, .int .u32 0, .int .u32 0, .int .u32 0, .int .u32 0, .int .u32 0, .int .u32 0, .int .u32 0, .int .u32 0, .int .u32 0, .int .u32 0, .int .u32 0, .int .u32 0, .int .u32 0, .int .u32 0, .int .u32 0, .int .u32 0, .int .u32 0, .int .u32 0, .int .u32 0, .int .u32 0, .int .u32 0, .int .u32 0, .int .u32 0, .int .u32 0, .int .u32 0, .int .u32 0, .int .u32 0, .int .u32 0], by kernel_rfl, by kernel_rfl⟩
theorem te3 : TyE Try.prog 3 1 8 := TyE.of (by kernel_rfl) (by kernel_rfl) ⟨.int .i64 0, by kernel_rfl, by kernel_rfl⟩
theorem te5 : TyE Try.prog 5 1 1 := TyE.of (by kernel_rfl) (by kernel_rfl) ⟨.int .u8 0, by kernel_rfl, by kernel_rfl⟩
theorem te25 : TyE Try.prog 25 1 4 := TyE.of (by kernel_rfl) (by kernel_rfl) ⟨.int .u32 0, by kernel_rfl, by kernel_rfl⟩
theorem te33 : TyE Try.prog 33 32 32 := TyE.of (by kernel_rfl) (by kernel_rfl) ⟨.agg #[.int .u8 0, .int .u8 0, .int .u8 0, .int .u8 0, .int .u8 0, .int .u8 0, .int .u8 0, .int .u8 0, .int .u8 0, .int .u8 0, .int .u8 0, .int .u8 0, .int .u8 0, .int .u8 0, .int .u8 0, .int .u8 0, .int .u8 0, .int .u8 0, .int .u8 0, .int .u8 0, .int .u8 0, .int .u8 0, .int .u8 0, .int .u8 0, .int .u8 0, .int .u8 0, .int .u8 0, .int .u8 0, .int .u8 0, .int .u8 0, .int .u8 0, .int .u8 0], by kernel_rfl, by kernel_rfl⟩
theorem te45 : TyE Try.prog 45 1 8 := TyE.of (by kernel_rfl) (by kernel_rfl) ⟨.int .u64 0, by kernel_rfl, by kernel_rfl⟩
theorem te71 : TyE Try.prog 71 35 72 := TyE.of (by kernel_rfl) (by kernel_rfl) ⟨.agg #[.int .u8 0, .int .u8 0, .int .u8 0, .int .u8 0, .int .u8 0, .int .u8 0, .int .u8 0, .int .u8 0, .int .u8 0, .int .u8 0, .int .u8 0, .int .u8 0, .int .u8 0, .int .u8 0, .int .u8 0, .int .u8 0, .int .u8 0, .int .u8 0, .int .u8 0, .int .u8 0, .int .u8 0, .int .u8 0, .int .u8 0, .int .u8 0, .int .u8 0, .int .u8 0, .int .u8 0, .int .u8 0, .int .u8 0, .int .u8 0, .int .u8 0, .int .u8 0, .int .u32 0, .slice none 0 0, .int .u32 0], by kernel_rfl, by kernel_rfl⟩
theorem te73 : TyE Try.prog 73 33 40 := TyE.of (by kernel_rfl) (by kernel_rfl) ⟨.agg #[.int .u64 0, .int .u8 0, .int .u8 0, .int .u8 0, .int .u8 0, .int .u8 0, .int .u8 0, .int .u8 0, .int .u8 0, .int .u8 0, .int .u8 0, .int .u8 0, .int .u8 0, .int .u8 0, .int .u8 0, .int .u8 0, .int .u8 0, .int .u8 0, .int .u8 0, .int .u8 0, .int .u8 0, .int .u8 0, .int .u8 0, .int .u8 0, .int .u8 0, .int .u8 0, .int .u8 0, .int .u8 0, .int .u8 0, .int .u8 0, .int .u8 0, .int .u8 0, .int .u8 0], by kernel_rfl, by kernel_rfl⟩
end Go.Proofs.Ytnbnnphlffhgiaa.T
