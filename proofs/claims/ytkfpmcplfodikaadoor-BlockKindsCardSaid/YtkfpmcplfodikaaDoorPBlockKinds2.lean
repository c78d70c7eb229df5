/- Proved: the statement BlockKinds, as given (its conditions are those of the given row, and card where there is one; no others): the call ends, with true, and the input reads as it did. This file is one of its parts. -/
import Derived.Test.YtkfpmcplfodikaaDoorPBlockKinds1
import Derived.Test.YtkfpmcplfodikaaDoorProg
namespace Go.Proofs.YtkfpmcplfodikaaDoor.T
open Go Go.Proofs Go.Proofs.YtkfpmcplfodikaaDoor.K
set_option linter.unusedVariables false
set_option linter.unusedSimpArgs false
theorem mo : Tryd.prog.follows .mixedOrders = true := by kernel_rfl
theorem erF : ErF Tryd.prog 47 119 74 := ErF.of Tryd.underlying47 Tryd.underlying119 (by kernel_rfl) (by kernel_rfl) (by decide)
theorem zrA : (Tryd.prog.info? 74).map (·.zero) = some (some (.pointer none)) := by kernel_rfl
theorem sz2 : (Tryd.prog.info? 2).map (·.size) = some 1 := by kernel_rfl
theorem sz3 : (Tryd.prog.info? 3).map (·.size) = some 1 := by kernel_rfl
theorem sz4 : (Tryd.prog.info? 4).map (·.size) = some 1 := by kernel_rfl
theorem sz5 : (Tryd.prog.info? 5).map (·.size) = some 1 := by kernel_rfl
theorem sz24 : (Tryd.prog.info? 24).map (·.size) = some 1 := by kernel_rfl
theorem sz26 : (Tryd.prog.info? 26).map (·.size) = some 32 := by kernel_rfl
theorem sz28 : (Tryd.prog.info? 28).map (·.size) = some 68 := by kernel_rfl
theorem sz29 : (Tryd.prog.info? 29).map (·.size) = some 1 := by kernel_rfl
theorem sz30 : (Tryd.prog.info? 30).map (·.size) = some 1 := by kernel_rfl
theorem sz32 : (Tryd.prog.info? 32).map (·.size) = some 4 := by kernel_rfl
theorem sz34 : (Tryd.prog.info? 34).map (·.size) = some 1 := by kernel_rfl
theorem sz35 : (Tryd.prog.info? 35).map (·.size) = some 1 := by kernel_rfl
theorem sz37 : (Tryd.prog.info? 37).map (·.size) = some 69 := by kernel_rfl
theorem sz39 : (Tryd.prog.info? 39).map (·.size) = some 33 := by kernel_rfl
theorem sz40 : (Tryd.prog.info? 40).map (·.size) = some 1 := by kernel_rfl
theorem sz42 : (Tryd.prog.info? 42).map (·.size) = some 35 := by kernel_rfl
theorem sz44 : (Tryd.prog.info? 44).map (·.size) = some 33 := by kernel_rfl
theorem sz47 : (Tryd.prog.info? 47).map (·.size) = some 1 := by kernel_rfl
theorem sz51 : (Tryd.prog.info? 51).map (·.size) = some 5 := by kernel_rfl
theorem sz102 : (Tryd.prog.info? 102).map (·.size) = some 8 := by kernel_rfl
theorem sz115 : (Tryd.prog.info? 115).map (·.size) = some 64 := by kernel_rfl
theorem sh39 : Tryd.prog.stoodInHeld 39 = false := by kernel_rfl
theorem eg26 : Tryd.prog.eqGuardType Tryd.prog.depth 26 = false := by kernel_rfl
theorem eg39 : Tryd.prog.eqGuardType Tryd.prog.depth 39 = false := by kernel_rfl
theorem cf4 : CalleeF Tryd.prog 4 := ⟨Tryd.f4, Tryd.func4, by decide, rfl⟩
theorem cf5 : CalleeF Tryd.prog 5 := ⟨Tryd.f5, Tryd.func5, by decide, rfl⟩
theorem cf6 : CalleeF Tryd.prog 6 := ⟨Tryd.f6, Tryd.func6, by decide, rfl⟩
theorem cf7 : CalleeF Tryd.prog 7 := ⟨Tryd.f7, Tryd.func7, by decide, rfl⟩
theorem cf8 : CalleeF Tryd.prog 8 := ⟨Tryd.f8, Tryd.func8, by decide, rfl⟩
theorem cf9 : CalleeF Tryd.prog 9 := ⟨Tryd.f9, Tryd.func9, by decide, rfl⟩
theorem cf10 : CalleeF Tryd.prog 10 := ⟨Tryd.f10, Tryd.func10, by decide, rfl⟩
theorem cf11 : CalleeF Tryd.prog 11 := ⟨Tryd.f11, Tryd.func11, by decide, rfl⟩
theorem cf12 : CalleeF Tryd.prog 12 := ⟨Tryd.f12, Tryd.func12, by decide, rfl⟩
theorem cf13 : CalleeF Tryd.prog 13 := ⟨Tryd.f13, Tryd.func13, by decide, rfl⟩
theorem cf14 : CalleeF Tryd.prog 14 := ⟨Tryd.f14, Tryd.func14, by decide, rfl⟩
theorem cf15 : CalleeF Tryd.prog 15 := ⟨Tryd.f15, Tryd.func15, by decide, rfl⟩
theorem cf16 : CalleeF Tryd.prog 16 := ⟨Tryd.f16, Tryd.func16, by decide, rfl⟩
theorem cf17 : CalleeF Tryd.prog 17 := ⟨Tryd.f17, Tryd.func17, by decide, rfl⟩
theorem cf18 : CalleeF Tryd.prog 18 := ⟨Tryd.f18, Tryd.func18, by decide, rfl⟩
theorem cf19 : CalleeF Tryd.prog 19 := ⟨Tryd.f19, Tryd.func19, by decide, rfl⟩
theorem cf20 : CalleeF Tryd.prog 20 := ⟨Tryd.f20, Tryd.func20, by decide, rfl⟩
theorem cf21 : CalleeF Tryd.prog 21 := ⟨Tryd.f21, Tryd.func21, by decide, rfl⟩
theorem cf22 : CalleeF Tryd.prog 22 := ⟨Tryd.f22, Tryd.func22, by decide, rfl⟩
theorem cf23 : CalleeF Tryd.prog 23 := ⟨Tryd.f23, Tryd.func23, by decide, rfl⟩
theorem cf24 : CalleeF Tryd.prog 24 := ⟨Tryd.f24, Tryd.func24, by decide, rfl⟩
theorem cf25 : CalleeF Tryd.prog 25 := ⟨Tryd.f25, Tryd.func25, by decide, rfl⟩
theorem cf26 : CalleeF Tryd.prog 26 := ⟨Tryd.f26, Tryd.func26, by decide, rfl⟩
theorem cf27 : CalleeF Tryd.prog 27 := ⟨Tryd.f27, Tryd.func27, by decide, rfl⟩
theorem cf28 : CalleeF Tryd.prog 28 := ⟨Tryd.f28, Tryd.func28, by decide, rfl⟩
theorem cf29 : CalleeF Tryd.prog 29 := ⟨Tryd.f29, Tryd.func29, by decide, rfl⟩
theorem cf30 : CalleeF Tryd.prog 30 := ⟨Tryd.f30, Tryd.func30, by decide, rfl⟩
theorem cf31 : CalleeF Tryd.prog 31 := ⟨Tryd.f31, Tryd.func31, by decide, rfl⟩
theorem cf32 : CalleeF Tryd.prog 32 := ⟨Tryd.f32, Tryd.func32, by decide, rfl⟩
theorem cf33 : CalleeF Tryd.prog 33 := ⟨Tryd.f33, Tryd.func33, by decide, rfl⟩
theorem cf34 : CalleeF Tryd.prog 34 := ⟨Tryd.f34, Tryd.func34, by decide, rfl⟩
theorem cf35 : CalleeF Tryd.prog 35 := ⟨Tryd.f35, Tryd.func35, by decide, rfl⟩
theorem cf36 : CalleeF Tryd.prog 36 := ⟨Tryd.f36, Tryd.func36, by decide, rfl⟩
theorem cf37 : CalleeF Tryd.prog 37 := ⟨Tryd.f37, Tryd.func37, by decide, rfl⟩
theorem cf38 : CalleeF Tryd.prog 38 := ⟨Tryd.f38, Tryd.func38, by decide, rfl⟩
theorem cf39 : CalleeF Tryd.prog 39 := ⟨Tryd.f39, Tryd.func39, by decide, rfl⟩
theorem cf40 : CalleeF Tryd.prog 40 := ⟨Tryd.f40, Tryd.func40, by decide, rfl⟩
theorem cf41 : CalleeF Tryd.prog 41 := ⟨Tryd.f41, Tryd.func41, by decide, rfl⟩
theorem cf42 : CalleeF Tryd.prog 42 := ⟨Tryd.f42, Tryd.func42, by decide, rfl⟩
theorem cf43 : CalleeF Tryd.prog 43 := ⟨Tryd.f43, Tryd.func43, by decide, rfl⟩
theorem cf44 : CalleeF Tryd.prog 44 := ⟨Tryd.f44, Tryd.func44, by decide, rfl⟩
theorem cf45 : CalleeF Tryd.prog 45 := ⟨Tryd.f45, Tryd.func45, by decide, rfl⟩
theorem cf46 : CalleeF Tryd.prog 46 := ⟨Tryd.f46, Tryd.func46, by decide, rfl⟩
theorem cf47 : CalleeF Tryd.prog 47 := ⟨Tryd.f47, Tryd.func47, by decide, rfl⟩
theorem cf48 : CalleeF Tryd.prog 48 := ⟨Tryd.f48, Tryd.func48, by decide, rfl⟩
theorem cf49 : CalleeF Tryd.prog 49 := ⟨Tryd.f49, Tryd.func49, by decide, rfl⟩
theorem cf50 : CalleeF Tryd.prog 50 := ⟨Tryd.f50, Tryd.func50, by decide, rfl⟩
theorem cf51 : CalleeF Tryd.prog 51 := ⟨Tryd.f51, Tryd.func51, by decide, rfl⟩
theorem cf52 : CalleeF Tryd.prog 52 := ⟨Tryd.f52, Tryd.func52, by decide, rfl⟩
theorem cf53 : CalleeF Tryd.prog 53 := ⟨Tryd.f53, Tryd.func53, by decide, rfl⟩
theorem cf54 : CalleeF Tryd.prog 54 := ⟨Tryd.f54, Tryd.func54, by decide, rfl⟩
theorem cf55 : CalleeF Tryd.prog 55 := ⟨Tryd.f55, Tryd.func55, by decide, rfl⟩
theorem cf56 : CalleeF Tryd.prog 56 := ⟨Tryd.f56, Tryd.func56, by decide, rfl⟩
theorem cf57 : CalleeF Tryd.prog 57 := ⟨Tryd.f57, Tryd.func57, by decide, rfl⟩
theorem cf58 : CalleeF Tryd.prog 58 := ⟨Tryd.f58, Tryd.func58, by decide, rfl⟩
theorem cf59 : CalleeF Tryd.prog 59 := ⟨Tryd.f59, Tryd.func59, by decide, rfl⟩
theorem cf60 : CalleeF Tryd.prog 60 := ⟨Tryd.f60, Tryd.func60, by decide, rfl⟩
theorem cf61 : CalleeF Tryd.prog 61 := ⟨Tryd.f61, Tryd.func61, by decide, rfl⟩
theorem cf62 : CalleeF Tryd.prog 62 := ⟨Tryd.f62, Tryd.func62, by decide, rfl⟩
theorem cf63 : CalleeF Tryd.prog 63 := ⟨Tryd.f63, Tryd.func63, by decide, rfl⟩
theorem cf64 : CalleeF Tryd.prog 64 := ⟨Tryd.f64, Tryd.func64, by decide, rfl⟩
theorem cf65 : CalleeF Tryd.prog 65 := ⟨Tryd.f65, Tryd.func65, by decide, rfl⟩
theorem cf66 : CalleeF Tryd.prog 66 := ⟨Tryd.f66, Tryd.func66, by decide, rfl⟩
theorem cf67 : CalleeF Tryd.prog 67 := ⟨Tryd.f67, Tryd.func67, by decide, rfl⟩
theorem cf68 : CalleeF Tryd.prog 68 := ⟨Tryd.f68, Tryd.func68, by decide, rfl⟩
theorem cf69 : CalleeF Tryd.prog 69 := ⟨Tryd.f69, Tryd.func69, by decide, rfl⟩
theorem cf70 : CalleeF Tryd.prog 70 := ⟨Tryd.f70, Tryd.func70, by decide, rfl⟩
theorem cf71 : CalleeF Tryd.prog 71 := ⟨Tryd.f71, Tryd.func71, by decide, rfl⟩
theorem zr5 : ∃ z, (Tryd.prog.info? 5).map (·.zero) = some (some z) ∧ z.cells = ([[.int .u8 0]] : List (List Value)).flatten.toArray := ⟨.int .u8 0, by kernel_rfl, by kernel_rfl⟩
theorem zr26 : ∃ z, (Tryd.prog.info? 26).map (·.zero) = some (some z) ∧ z.cells = ([av .u8 32 (List.replicate 32 0)] : List (List Value)).flatten.toArray := ⟨.agg #[.int .u8 0, .int .u8 0, .int .u8 0, .int .u8 0, .int .u8 0, .int .u8 0, .int .u8 0, .int .u8 0, .int .u8 0, .int .u8 0, .int .u8 0, .int .u8 0, .int .u8 0, .int .u8 0, .int .u8 0, .int .u8 0, .int .u8 0, .int .u8 0, .int .u8 0, .int .u8 0, .int .u8 0, .int .u8 0, .int .u8 0, .int .u8 0, .int .u8 0, .int .u8 0, .int .u8 0, .int .u8 0, .int .u8 0, .int .u8 0, .int .u8 0, .int .u8 0], by kernel_rfl, by kernel_rfl⟩
theorem zr28 : ∃ z, (Tryd.prog.info? 28).map (·.zero) = some (some z) ∧ z.cells = ([[.int .u32 0], av .u8 32 (List.replicate 32 0), av .u8 32 (List.replicate 32 0), [.int .u32 0], [.int .u32 0], [.int .u32 0]] : List (List Value)).flatten.toArray := ⟨.agg #[.int .u32 0, .int .u8 0, .int .u8 0, .int .u8 0, .int .u8 0, .int .u8 0, .int .u8 0, .int .u8 0, .int .u8 0, .int .u8 0, .int .u8 0, .int .u8 0, .int .u8 0, .int .u8 0, .int .u8 0, .int .u8 0, .int .u8 0, .int .u8 0, .int .u8 0, .int .u8 0, .int .u8 0, .int .u8 0, .int .u8 0, .int .u8 0, .int .u8 0, .int .u8 0, .int .u8 0, .int .u8 0, .int .u8 0, .int .u8 0, .int .u8 0, .int .u8 0, .int .u8 0, .int .u8 0, .int .u8 0, .int .u8 0, .int .u8 0, .int .u8 0, .int .u8 0, .int .u8 0, .int .u8 0, .int .u8 0, .int .u8 0, .int .u8 0, .int .u8 0, .int .u8 0, .int .u8 0, .int .u8 0, .int .u8 0, .int .u8 0, .int .u8 0, .int .u8 0, .int .u8 0, .int .u8 0, .int .u8 0, .int .u8 0, .int .u8 0, .int .u8 0, .int .u8 0, .int .u8 0, .int .u8 0, .int .u8 0, .int .u8 0, .int .u8 0, .int .u8 0, .int .u32 0, .int .u32 0, .int .u32 0], by kernel_rfl, by kernel_rfl⟩
theorem zr32 : ∃ z, (Tryd.prog.info? 32).map (·.zero) = some (some z) ∧ z.cells = ([[.int .u32 0], [(.slice none 0 0)], [(.slice none 0 0)], [.int .u32 0]] : List (List Value)).flatten.toArray := ⟨.agg #[.int .u32 0, .slice none 0 0, .slice none 0 0, .int .u32 0], by kernel_rfl, by kernel_rfl⟩
theorem zr34 : ∃ z, (Tryd.prog.info? 34).map (·.zero) = some (some z) ∧ z.cells = ([[.int .u64 0]] : List (List Value)).flatten.toArray := ⟨.int .u64 0, by kernel_rfl, by kernel_rfl⟩
theorem zr37 : ∃ z, (Tryd.prog.info? 37).map (·.zero) = some (some z) ∧ z.cells = ([[.int .u32 0], av .u8 32 (List.replicate 32 0), av .u8 32 (List.replicate 32 0), [.int .u32 0], [.int .u32 0], [.int .u32 0], [(.slice none 0 0)]] : List (List Value)).flatten.toArray := ⟨.agg #[.int .u32 0, .int .u8 0, .int .u8 0, .int .u8 0, .int .u8 0, .int .u8 0, .int .u8 0, .int .u8 0, .int .u8 0, .int .u8 0, .int .u8 0, .int .u8 0, .int .u8 0, .int .u8 0, .int .u8 0, .int .u8 0, .int .u8 0, .int .u8 0, .int .u8 0, .int .u8 0, .int .u8 0, .int .u8 0, .int .u8 0, .int .u8 0, .int .u8 0, .int .u8 0, .int .u8 0, .int .u8 0, .int .u8 0, .int .u8 0, .int .u8 0, .int .u8 0, .int .u8 0, .int .u8 0, .int .u8 0, .int .u8 0, .int .u8 0, .int .u8 0, .int .u8 0, .int .u8 0, .int .u8 0, .int .u8 0, .int .u8 0, .int .u8 0, .int .u8 0, .int .u8 0, .int .u8 0, .int .u8 0, .int .u8 0, .int .u8 0, .int .u8 0, .int .u8 0, .int .u8 0, .int .u8 0, .int .u8 0, .int .u8 0, .int .u8 0, .int .u8 0, .int .u8 0, .int .u8 0, .int .u8 0, .int .u8 0, .int .u8 0, .int .u8 0, .int .u8 0, .int .u32 0, .int .u32 0, .int .u32 0, .slice none 0 0], by kernel_rfl, by kernel_rfl⟩
theorem zr39 : ∃ z, (Tryd.prog.info? 39).map (·.zero) = some (some z) ∧ z.cells = ([av .u8 32 (List.replicate 32 0), [.int .u32 0]] : List (List Value)).flatten.toArray := ⟨.agg #[.int .u8 0, .int .u8 0, .int .u8 0, .int .u8 0, .int .u8 0, .int .u8 0, .int .u8 0, .int .u8 0, .int .u8 0, .int .u8 0, .int .u8 0, .int .u8 0, .int .u8 0, .int .u8 0, .int .u8 0, .int .u8 0, .int .u8 0, .int .u8 0, .int .u8 0, .int .u8 0, .int .u8 0, .int .u8 0, .int .u8 0, .int .u8 0, .int .u8 0, .int .u8 0, .int .u8 0, .int .u8 0, .int .u8 0, .int .u8 0, .int .u8 0, .int .u8 0, .int .u32 0], by kernel_rfl, by kernel_rfl⟩
theorem zr40 : ∃ z, (Tryd.prog.info? 40).map (·.zero) = some (some z) ∧ z.cells = ([[(.slice none 0 0)]] : List (List Value)).flatten.toArray := ⟨.slice none 0 0, by kernel_rfl, by kernel_rfl⟩
theorem zr42 : ∃ z, (Tryd.prog.info? 42).map (·.zero) = some (some z) ∧ z.cells = ([av .u8 32 (List.replicate 32 0), [.int .u32 0], [(.slice none 0 0)], [.int .u32 0]] : List (List Value)).flatten.toArray := ⟨.agg #[.int .u8 0, .int .u8 0, .int .u8 0, .int .u8 0, .int .u8 0, .int .u8 0, .int .u8 0, .int .u8 0, .int .u8 0, .int .u8 0, .int .u8 0, .int .u8 0, .int .u8 0, .int .u8 0, .int .u8 0, .int .u8 0, .int .u8 0, .int .u8 0, .int .u8 0, .int .u8 0, .int .u8 0, .int .u8 0, .int .u8 0, .int .u8 0, .int .u8 0, .int .u8 0, .int .u8 0, .int .u8 0, .int .u8 0, .int .u8 0, .int .u8 0, .int .u8 0, .int .u32 0, .slice none 0 0, .int .u32 0], by kernel_rfl, by kernel_rfl⟩
theorem zr44 : ∃ z, (Tryd.prog.info? 44).map (·.zero) = some (some z) ∧ z.cells = ([[.int .u64 0], av .u8 32 (List.replicate 32 0)] : List (List Value)).flatten.toArray := ⟨.agg #[.int .u64 0, .int .u8 0, .int .u8 0, .int .u8 0, .int .u8 0, .int .u8 0, .int .u8 0, .int .u8 0, .int .u8 0, .int .u8 0, .int .u8 0, .int .u8 0, .int .u8 0, .int .u8 0, .int .u8 0, .int .u8 0, .int .u8 0, .int .u8 0, .int .u8 0, .int .u8 0, .int .u8 0, .int .u8 0, .int .u8 0, .int .u8 0, .int .u8 0, .int .u8 0, .int .u8 0, .int .u8 0, .int .u8 0, .int .u8 0, .int .u8 0, .int .u8 0, .int .u8 0], by kernel_rfl, by kernel_rfl⟩
theorem zr47 : ∃ z, (Tryd.prog.info? 47).map (·.zero) = some (some z) ∧ z.cells = ([[.nilIface]] : List (List Value)).flatten.toArray := ⟨.nilIface, by kernel_rfl, by kernel_rfl⟩
theorem zr51 : ∃ z, (Tryd.prog.info? 51).map (·.zero) = some (some z) ∧ z.cells = ([[.int .i64 0], [.bool false], [.int .i64 0], [.bool false], [.int .i64 0]] : List (List Value)).flatten.toArray := ⟨.agg #[.int .i64 0, .bool false, .int .i64 0, .bool false, .int .i64 0], by kernel_rfl, by kernel_rfl⟩
theorem zr76 : ∃ z, (Tryd.prog.info? 76).map (·.zero) = some (some z) ∧ z.cells = ([[.int .i64 0], [.nilIface]] : List (List Value)).flatten.toArray := ⟨.agg #[.int .i64 0, .nilIface], by kernel_rfl, by kernel_rfl⟩
theorem zr102 : ∃ z, (Tryd.prog.info? 102).map (·.zero) = some (some z) ∧ z.cells = ([av .u32 8 (List.replicate 8 0)] : List (List Value)).flatten.toArray := ⟨.agg #[.int .u32 0, .int .u32 0, .int .u32 0, .int .u32 0, .int .u32 0, .int .u32 0, .int .u32 0, .int .u32 0], by kernel_rfl, by kernel_rfl⟩
theorem zr104 : ∃ z, (Tryd.prog.info? 104).map (·.zero) = some (some z) ∧ z.cells = ([av .u32 8 (List.replicate 8 0), [(.slice none 0 0)], [.int .i64 0]] : List (List Value)).flatten.toArray := ⟨.agg #[.int .u32 0, .int .u32 0, .int .u32 0, .int .u32 0, .int .u32 0, .int .u32 0, .int .u32 0, .int .u32 0, .slice none 0 0, .int .i64 0], by kernel_rfl, by kernel_rfl⟩
theorem zr115 : ∃ z, (Tryd.prog.info? 115).map (·.zero) = some (some z) ∧ z.cells = ([av .u32 64 (List.replicate 64 0)] : List (List Value)).flatten.toArray := ⟨.agg #[.int .u32 0, .int .u32 0, .int .u32 0, .int .u32 0, .int .u32 0, .int .u32 0, .int .u32 0, .int .u32 0, .int .u32 0, .int .u32 0, .int .u32 0, .int .u32 0, .int .u32 0, .int .u32 0, .int .u32 0, .int .u32 0, .int .u32 0, .int .u32 0, .int .u32 0, .int .u32 0, .int .u32 0, .int .u32 0, .int .u32 0, .int .u32 0, .int .u32 0, .int .u32 0, .int .u32 0, .int .u32 0, .int .u32 0, .int .u32 0, .int .u32 0, .int .u32 0, .int .u32 0, .int .u32 0, .int .u32 0, .int .u32 0, .int .u32 0, .int .u32 0, .int .u32 0, .int .u32 0, .int .u32 0, .int .u32 0, .int .u32 0, .int .u32 0, .int .u32 0, .int .u32 0, .int .u32 0, .int .u32 0, .int .u32 0, .int .u32 0, .int .u32 0, .int .u32 0, .int .u32 0, .int .u32 0, .int .u32 0, .int .u32 0, .int .u32 0, .int .u32 0, .int .u32 0, .int .u32 0, .int .u32 0, .int .u32 0, .int .u32 0, .int .u32 0], by kernel_rfl, by kernel_rfl⟩
theorem te5 : TyE Tryd.prog 5 1 1 := TyE.of (by kernel_rfl) (by kernel_rfl) ⟨.int .u8 0, by kernel_rfl, by kernel_rfl⟩
theorem te26 : TyE Tryd.prog 26 32 32 := TyE.of (by kernel_rfl) (by kernel_rfl) ⟨.agg #[.int .u8 0, .int .u8 0, .int .u8 0, .int .u8 0, .int .u8 0, .int .u8 0, .int .u8 0, .int .u8 0, .int .u8 0, .int .u8 0, .int .u8 0, .int .u8 0, .int .u8 0, .int .u8 0, .int .u8 0, .int .u8 0, .int .u8 0, .int .u8 0, .int .u8 0, .int .u8 0, .int .u8 0, .int .u8 0, .int .u8 0, .int .u8 0, .int .u8 0, .int .u8 0, .int .u8 0, .int .u8 0, .int .u8 0, .int .u8 0, .int .u8 0, .int .u8 0], by kernel_rfl, by kernel_rfl⟩
theorem te32 : TyE Tryd.prog 32 4 64 := TyE.of (by kernel_rfl) (by kernel_rfl) ⟨.agg #[.int .u32 0, .slice none 0 0, .slice none 0 0, .int .u32 0], by kernel_rfl, by kernel_rfl⟩
theorem te34 : TyE Tryd.prog 34 1 8 := TyE.of (by kernel_rfl) (by kernel_rfl) ⟨.int .u64 0, by kernel_rfl, by kernel_rfl⟩
theorem te40 : TyE Tryd.prog 40 1 24 := TyE.of (by kernel_rfl) (by kernel_rfl) ⟨.slice none 0 0, by kernel_rfl, by kernel_rfl⟩
theorem te42 : TyE Tryd.prog 42 35 72 := TyE.of (by kernel_rfl) (by kernel_rfl) ⟨.agg #[.int .u8 0, .int .u8 0, .int .u8 0, .int .u8 0, .int .u8 0, .int .u8 0, .int .u8 0, .int .u8 0, .int .u8 0, .int .u8 0, .int .u8 0, .int .u8 0, .int .u8 0, .int .u8 0, .int .u8 0, .int .u8 0, .int .u8 0, .int .u8 0, .int .u8 0, .int .u8 0, .int .u8 0, .int .u8 0, .int .u8 0, .int .u8 0, .int .u8 0, .int .u8 0, .int .u8 0, .int .u8 0, .int .u8 0, .int .u8 0, .int .u8 0, .int .u8 0, .int .u32 0, .slice none 0 0, .int .u32 0], by kernel_rfl, by kernel_rfl⟩
theorem te44 : TyE Tryd.prog 44 33 40 := TyE.of (by kernel_rfl) (by kernel_rfl) ⟨.agg #[.int .u64 0, .int .u8 0, .int .u8 0, .int .u8 0, .int .u8 0, .int .u8 0, .int .u8 0, .int .u8 0, .int .u8 0, .int .u8 0, .int .u8 0, .int .u8 0, .int .u8 0, .int .u8 0, .int .u8 0, .int .u8 0, .int .u8 0, .int .u8 0, .int .u8 0, .int .u8 0, .int .u8 0, .int .u8 0, .int .u8 0, .int .u8 0, .int .u8 0, .int .u8 0, .int .u8 0, .int .u8 0, .int .u8 0, .int .u8 0, .int .u8 0, .int .u8 0, .int .u8 0], by kernel_rfl, by kernel_rfl⟩
theorem te47 : TyE Tryd.prog 47 1 16 := TyE.of (by kernel_rfl) (by kernel_rfl) ⟨.nilIface, by kernel_rfl, by kernel_rfl⟩
theorem mz79 : (Tryd.prog.info? 4).map (·.zero) = some (some (vv79 false)) := by kernel_rfl
theorem laidB : laidOutB Tryd.prog = true := by kernel_rfl
theorem kk79 : Maps.Keyed Tryd.prog 39 := Maps.Keyed.of_law (deep_law_laid laidB (m := 5) (by decide) (of_decide_eq_true (by kernel_rfl)) (by kernel_rfl) (by kernel_rfl))
theorem kn79 : KeyN Tryd.prog 39 kv79 (fun x : Point => PointW (fun _ => none) x) := keyN_pt (fun x : Point => x.Tx) (fun x : Point => x.N) (fun a b h1 h2 => by cases a; cases b; simp at h1 h2; subst h1; subst h2; rfl) Tryd.underlying39 rfl rfl rfl rfl rfl (by kernel_rfl) Tryd.underlying26 Tryd.underlying5 Tryd.underlying24 (by kernel_rfl) (by kernel_rfl) (by kernel_rfl) (by kernel_rfl) kk79 (by kernel_rfl) ⟨_, (by kernel_rfl : Tryd.prog.types.size = 138 + 2)⟩
theorem mz78 : (Tryd.prog.info? 4).map (·.zero) = some (some (vv78 false)) := by kernel_rfl
theorem kk78 : Maps.Keyed Tryd.prog 26 := Maps.Keyed.of_law (deep_law_laid laidB (m := 5) (by decide) (of_decide_eq_true (by kernel_rfl)) (by kernel_rfl) (by kernel_rfl))
theorem kn78 : KeyN Tryd.prog 26 kv78 (fun x : List Int => Arr .u8 32 x) := keyN_arr Tryd.underlying26 Tryd.underlying5 (by kernel_rfl) (by kernel_rfl) kk78 (by kernel_rfl) ⟨_, (by kernel_rfl : Tryd.prog.types.size = 139 + 1)⟩
end Go.Proofs.YtkfpmcplfodikaaDoor.T
namespace Go.Proofs.YtkfpmcplfodikaaDoor.T
open Go Go.Proofs Go.Proofs.YtkfpmcplfodikaaDoor.K
set_option linter.unusedVariables false
set_option linter.unusedSimpArgs false
noncomputable def math_bits_RotateLeft32.f (x0 : Int) (x1 : Int) : Option Int := (if 0 ≤ (bAnd .u64 (IntKind.u64.wrap x1) 31) then (if 0 ≤ (IntKind.u64.wrap (32 - (bAnd .u64 (IntKind.u64.wrap x1) 31))) then some (bOr .u32 (sL .u32 x0 (bAnd .u64 (IntKind.u64.wrap x1) 31)) (sR .u32 x0 (IntKind.u64.wrap (32 - (bAnd .u64 (IntKind.u64.wrap x1) 31))))) else none) else none)
noncomputable def sargassoworld_Number.f (x0 : Int) (x1 : Int) : Option Int := (if x1 ≠ 0 then (((if (Int.tmod x0 x1) < 0 then some (IntKind.i64.wrap ((Int.tmod x0 x1) + x1)) else some (Int.tmod x0 x1))).bind fun c1 => some c1) else none)
noncomputable def sargassoref_SameFault.f (x0 : sargassorefFault) (x1 : sargassorefFault) : Option Bool := (((if x0.Code = x1.Code then (if x0.Placed = x1.Placed then (if x0.Pos = x1.Pos then (if x0.Outer = x1.Outer then some (decide (x0.At = x1.At)) else some false) else some false) else some false) else some false)).bind fun c1 => some c1)
noncomputable def sargassoref_None.f : Option sargassorefFault := some (⟨0, false, 0, false, 0⟩ : sargassorefFault)
noncomputable def sargassoref_Placed.f (x0 : Int) (x1 : Int) : Option sargassorefFault := (if x0 = 0 then ((sargassoref_None.f).bind fun r1 => some r1) else some (⟨x0, true, x1, false, 0⟩ : sargassorefFault))
noncomputable def sargassoref_Bare.f (x0 : Int) : Option sargassorefFault := some (⟨x0, false, 0, false, 0⟩ : sargassorefFault)
noncomputable def sargassosee_sentinels.f : Option (List Er) := some ([xErrEnd, xErrShape, xErrLong, xErrMany, xErrValue, xErrTwice, xErrBase, xErrRoot, xErrKnown, xErrParent, xErrInvalid, xErrTime, xErrMissing, xErrKey, xErrYoung, xErrEarly, xErrLess, xErrReward, xErrClash, xErrLimit, xErrFull, xErrRange, xErrNone, xErrWord, xErrNumber] : List Er)
noncomputable def sargassosee_Alike.f (x0 : Er) (x1 : Er) : Option Bool := (((if x0 = (Er.b 0) then some true else some (decide (x1 = (Er.b 0))))).bind fun c1 => (if c1 = true then (((if x0 = (Er.b 0) then some (decide (x1 = (Er.b 0))) else some false)).bind fun c2 => some c2) else (if Er.cmp x0 x1 = true then some (decide (x0 = x1)) else none)))
noncomputable def sargassosee_sentinel.s0 (x0 : Er) (r1 : List Er) : Int → Option (Int ⊕ Int) := fun s1 => (if s1 < (r1.length : Int) then (if 0 ≤ s1 ∧ s1 < (r1.length : Int) then ((sargassosee_Alike.f x0 (r1.getD s1.toNat (Er.b 0))).bind fun r2 => (if r2 = true then some (.inr (IntKind.i64.wrap (101 + s1))) else some (.inl (IntKind.i64.wrap (s1 + 1))))) else none) else some (.inr (-1)))
noncomputable def sargassosee_sentinel.f (x0 : Er) : Option Int := ((sargassosee_sentinels.f).bind fun r1 => loopO (sargassosee_sentinel.s0 x0 r1) 0)
noncomputable def sargassoref_Around.f (x0 : sargassorefFault) (x1 : Int) : Option sargassorefFault := (if x0.Code = 0 then some x0 else (if x0.Placed = true then some (⟨x0.Code, x0.Placed, x0.Pos, true, x1⟩ : sargassorefFault) else ((sargassoref_Placed.f x0.Code x1).bind fun r1 => some r1)))
noncomputable def sargassosee_Fault.f (x0 : Er) : Option sargassorefFault := (if x0 = (Er.b 0) then ((sargassoref_None.f).bind fun r1 => some r1) else (if x0.isP = true then ((some (decide (x0.err = (Er.b 0)))).bind fun c1 => (if c1 = true then ((sargassoref_Bare.f (-1)).bind fun r4 => some r4) else (if x0.err.isP = true then ((some (decide (x0.err.err = (Er.b 0)))).bind fun c2 => (if c2 = true then ((sargassoref_Bare.f (-1)).bind fun r7 => some r7) else ((sargassosee_sentinel.f x0.err.err).bind fun r8 => ((sargassoref_Placed.f r8 x0.err.pos).bind fun r9 => ((sargassoref_Around.f r9 x0.pos).bind fun r10 => some r10))))) else ((sargassosee_sentinel.f x0.err).bind fun r5 => ((sargassoref_Placed.f r5 x0.pos).bind fun r6 => some r6))))) else ((sargassosee_sentinel.f x0).bind fun r2 => ((sargassoref_Bare.f r2).bind fun r3 => some r3))))
noncomputable def sargassosee_Same.f (x0 : Er) (x1 : sargassorefFault) : Option Bool := ((sargassosee_Fault.f x0).bind fun r1 => ((sargassoref_SameFault.f r1 x1).bind fun r2 => some r2))
noncomputable def sargassosee_Is.f (x0 : Er) (x1 : Int) : Option Bool := ((sargassoref_Bare.f x1).bind fun r1 => ((sargassosee_Same.f x0 r1).bind fun r2 => some r2))
end Go.Proofs.YtkfpmcplfodikaaDoor.T
namespace Go.Proofs.YtkfpmcplfodikaaDoor.T
open Go Go.Proofs Go.Proofs.YtkfpmcplfodikaaDoor.K
set_option linter.unusedVariables false
set_option linter.unusedSimpArgs false
set_option maxRecDepth 20000 in
theorem math_bits_RotateLeft32.c (μ : Store) (w0 : World) (hμ : Agr μ w0) (x0 : Int) (hx0 : InR .u32 x0) (x1 : Int) (hx1 : InR .i64 x1) (r : Int) (H : math_bits_RotateLeft32.f x0 x1 = some r) :
    Calls Tryd.prog 71 [.int .u32 x0, .int .i64 x1].toArray w0 (fun e w' => ∃ v, e = .returned v ∧ v = .int .u32 r ∧ InR .u32 r ∧ Iv w0 [] μ μ [] w') := by
  refine enter Tryd.func71 rfl Tryd.ntmps71 rfl fun a hA => ?_
  have hI := Iv.start hμ
  have H := bI H
  refine w_seq fun _ hN1 => w_reg <| sta hA rfl rfl fun a hA => ?_
  refine o_nil <| hN1 _ _ <| w_seq fun _ hN2 => w_reg <| stm hA rfl rfl fun a hA => 
    stp hA (r_conv Tryd.underlying3 Tryd.underlying85 hA rfl) rfl fun a hA => 
    stp hA (r_and hA rfl rfl) rfl fun a hA => 
    sta hA rfl rfl fun a hA => ?_
  refine o_nil <| hN2 _ _ <| w_seq fun _ hN3 => w_reg <| stm hA rfl rfl fun a hA => 
    stm hA rfl rfl fun a hA => ?_
  obtain ⟨hb1, H⟩ := bG H
  refine stp hA (r_shl hA rfl rfl hb1) rfl fun a hA => 
    stm hA rfl rfl fun a hA => 
    stm hA rfl rfl fun a hA => 
    stp hA (r_sub hA rfl rfl) rfl fun a hA => ?_
  obtain ⟨hb2, H⟩ := bG H
  refine stp hA (r_shr hA rfl rfl hb2) rfl fun a hA => 
    stp hA (r_or hA rfl rfl) rfl fun a hA => 
    sta hA rfl rfl fun a hA => ?_
  refine o_nil <| hN3 _ _ <| w_ret ?_
  obtain rfl := sJ H
  exact ret1 hA Tryd.results71 rfl ⟨_, rfl, rfl, (wrap_in _ _), hI.forget0⟩
set_option maxRecDepth 20000 in
theorem sargassoworld_Number.c (μ : Store) (w0 : World) (hμ : Agr μ w0) (x0 : Int) (hx0 : InR .i64 x0) (x1 : Int) (hx1 : InR .i64 x1) (r : Int) (H : sargassoworld_Number.f x0 x1 = some r) :
    Calls Tryd.prog 5 [.int .i64 x0, .int .i64 x1].toArray w0 (fun e w' => ∃ v, e = .returned v ∧ v = .int .i64 r ∧ InR .i64 r ∧ Iv w0 [] μ μ [] w') := by
  refine enter Tryd.func5 rfl Tryd.ntmps5 rfl fun a hA => ?_
  have hI := Iv.start hμ
  have H := bI H
  refine w_seq fun _ hN1 => w_reg <| sta hA rfl rfl fun a hA => ?_
  refine o_nil <| hN1 _ _ <| w_seq fun _ hN2 => w_reg <| stm hA rfl rfl fun a hA => 
    stm hA rfl rfl fun a hA => ?_
  obtain ⟨hb1, H⟩ := bG H
  refine stp hA (r_rem hA rfl rfl hb1) rfl fun a hA => 
    sta hA rfl rfl fun a hA => ?_
  refine o_nil <| hN2 _ _ ?_
  obtain ⟨c1, hz1, Hk1⟩ := bB H
  refine w_cut (fun a w => InR .i64 c1 ∧ Fr a 15 [(4, .int .i64 0), (5, .int .i64 c1)] ∧ Iv w0 [] μ μ [] w) ?_ ?_
  · have H := bI hz1
    refine w_seq fun _ hN3 => w_reg <| stm hA rfl rfl fun a hA => 
      stp hA (r_lss hA rfl rfl) rfl fun a hA => ?_
    refine o_nil <| hN3 _ _ <| w_cond hA rfl (fun hc1 => ?_) (fun hc1 => ?_)
    · obtain ⟨hc1, H⟩ := dT H hc1
      refine w_reg <| stm hA rfl rfl fun a hA => 
        stm hA rfl rfl fun a hA => 
        stp hA (r_add hA rfl rfl) rfl fun a hA => 
        sta hA rfl rfl fun a hA => ?_
      refine o_nil ?_
      cases sJ H
      exact ⟨(wrap_in _ _), hA.sub ⟨rfl, rfl, trivial⟩, hI⟩
    · obtain ⟨hc1, H⟩ := dF H hc1
      refine w_skip ?_
      cases sJ H
      exact ⟨(tmod_in hx0 _), hA.sub ⟨rfl, rfl, trivial⟩, hI⟩
  · rintro a w ⟨wc1, hA, hI⟩
    have H := Hk1
    refine w_seq fun _ hN4 => w_reg <| stm hA rfl rfl fun a hA => 
      sta hA rfl rfl fun a hA => ?_
    refine o_nil <| hN4 _ _ <| w_ret ?_
    obtain rfl := sJ H
    exact ret1 hA Tryd.results5 rfl ⟨_, rfl, rfl, wc1, hI.forget0⟩
set_option maxRecDepth 20000 in
theorem sargassoref_SameFault.c (μ : Store) (w0 : World) (hμ : Agr μ w0) (x0 : sargassorefFault) (hx0 : sargassorefFaultW μ x0) (x1 : sargassorefFault) (hx1 : sargassorefFaultW μ x1) (r : Bool) (H : sargassoref_SameFault.f x0 x1 = some r) :
    Calls Tryd.prog 21 [.agg [[.int .i64 x0.Code], [.bool x0.Placed], [.int .i64 x0.Pos], [.bool x0.Outer], [.int .i64 x0.At]].flatten.toArray, .agg [[.int .i64 x1.Code], [.bool x1.Placed], [.int .i64 x1.Pos], [.bool x1.Outer], [.int .i64 x1.At]].flatten.toArray].toArray w0 (fun e w' => ∃ v, e = .returned v ∧ v = .bool r ∧ True ∧ Iv w0 [] μ μ [] w') := by
  refine enter Tryd.func21 rfl Tryd.ntmps21 rfl fun a hA => ?_
  have hI := Iv.start hμ
  have H := bI H
  refine w_seq fun _ hN1 => w_reg <| o_box [[.int .i64 x0.Code], [.bool x0.Placed], [.int .i64 x0.Pos], [.bool x0.Outer], [.int .i64 x0.At]] hI hA rfl rfl rfl fun g1 a w hA hI hg1 => 
    o_box [[.int .i64 x1.Code], [.bool x1.Placed], [.int .i64 x1.Pos], [.bool x1.Outer], [.int .i64 x1.At]] hI hA rfl rfl rfl fun g2 a w hA hI hg2 => 
    sta hA rfl rfl fun a hA => ?_
  refine o_nil <| hN1 _ _ ?_
  obtain ⟨c1, hz1, Hk1⟩ := bB H
  refine w_cut (fun a w => Fr a 38 [(4, .bool c1)] ∧ Iv w0 [] μ μ [cel g2 [[.int .i64 x1.Code], [.bool x1.Placed], [.int .i64 x1.Pos], [.bool x1.Outer], [.int .i64 x1.At]] 51, cel g1 [[.int .i64 x0.Code], [.bool x0.Placed], [.int .i64 x0.Pos], [.bool x0.Outer], [.int .i64 x0.At]] 51] w) ?_ ?_
  · have H := bI hz1
    refine w_reg <| stp hA (r_fd (k := 0) Tryd.underlying51 rfl sz3 hA rfl rfl) rfl fun a hA => 
      stp hA (r_ld1 (j := 1) [] [[.bool x0.Placed], [.int .i64 x0.Pos], [.bool x0.Outer], [.int .i64 x0.At]] Tryd.underlying3 rfl hI rfl hA rfl rfl) rfl fun a hA => 
      stp hA (r_fd (k := 0) Tryd.underlying51 rfl sz3 hA rfl rfl) rfl fun a hA => 
      stp hA (r_ld1 (j := 0) [] [[.bool x1.Placed], [.int .i64 x1.Pos], [.bool x1.Outer], [.int .i64 x1.At]] Tryd.underlying3 rfl hI rfl hA rfl rfl) rfl fun a hA => 
      stp hA (r_eql hA rfl rfl) rfl fun a hA => 
      stm hA rfl rfl fun a hA => ?_
    rcases Bool.eq_false_or_eq_true (decide (x0.Code = x1.Code)) with hc1 | hc1
    · have hc10 := hc1; obtain ⟨hc1, H⟩ := dT H hc1
      refine o_yes hA rfl rfl hc10 <| 
        stp hA (r_fd (k := 1) Tryd.underlying51 rfl sz4 hA rfl rfl) rfl fun a hA => 
        o_yes hA rfl rfl hc10 <| 
        stp hA (r_ld1 (j := 1) [[.int .i64 x0.Code]] [[.int .i64 x0.Pos], [.bool x0.Outer], [.int .i64 x0.At]] Tryd.underlying4 rfl hI rfl hA rfl rfl) rfl fun a hA => 
        o_yes hA rfl rfl hc10 <| 
        stp hA (r_fd (k := 1) Tryd.underlying51 rfl sz4 hA rfl rfl) rfl fun a hA => 
        o_yes hA rfl rfl hc10 <| 
        stp hA (r_ld1 (j := 0) [[.int .i64 x1.Code]] [[.int .i64 x1.Pos], [.bool x1.Outer], [.int .i64 x1.At]] Tryd.underlying4 rfl hI rfl hA rfl rfl) rfl fun a hA => 
        o_yes hA rfl rfl hc10 <| 
        stp hA (r_eqlb Tryd.underlying4 hA rfl rfl) rfl fun a hA => 
        stp hA (r_pick_t hA rfl hc10 rfl) rfl fun a hA => 
        stm hA rfl rfl fun a hA => ?_
      rcases Bool.eq_false_or_eq_true (decide (x0.Placed = x1.Placed)) with hc2 | hc2
      · have hc20 := hc2; obtain ⟨hc2, H⟩ := dT H hc2
        refine o_yes hA rfl rfl hc20 <| 
          stp hA (r_fd (k := 2) Tryd.underlying51 rfl sz3 hA rfl rfl) rfl fun a hA => 
          o_yes hA rfl rfl hc20 <| 
          stp hA (r_ld1 (j := 1) [[.int .i64 x0.Code], [.bool x0.Placed]] [[.bool x0.Outer], [.int .i64 x0.At]] Tryd.underlying3 rfl hI rfl hA rfl rfl) rfl fun a hA => 
          o_yes hA rfl rfl hc20 <| 
          stp hA (r_fd (k := 2) Tryd.underlying51 rfl sz3 hA rfl rfl) rfl fun a hA => 
          o_yes hA rfl rfl hc20 <| 
          stp hA (r_ld1 (j := 0) [[.int .i64 x1.Code], [.bool x1.Placed]] [[.bool x1.Outer], [.int .i64 x1.At]] Tryd.underlying3 rfl hI rfl hA rfl rfl) rfl fun a hA => 
          o_yes hA rfl rfl hc20 <| 
          stp hA (r_eql hA rfl rfl) rfl fun a hA => 
          stp hA (r_pick_t hA rfl hc20 rfl) rfl fun a hA => 
          stm hA rfl rfl fun a hA => ?_
        rcases Bool.eq_false_or_eq_true (decide (x0.Pos = x1.Pos)) with hc3 | hc3
        · have hc30 := hc3; obtain ⟨hc3, H⟩ := dT H hc3
          refine o_yes hA rfl rfl hc30 <| 
            stp hA (r_fd (k := 3) Tryd.underlying51 rfl sz4 hA rfl rfl) rfl fun a hA => 
            o_yes hA rfl rfl hc30 <| 
            stp hA (r_ld1 (j := 1) [[.int .i64 x0.Code], [.bool x0.Placed], [.int .i64 x0.Pos]] [[.int .i64 x0.At]] Tryd.underlying4 rfl hI rfl hA rfl rfl) rfl fun a hA => 
            o_yes hA rfl rfl hc30 <| 
            stp hA (r_fd (k := 3) Tryd.underlying51 rfl sz4 hA rfl rfl) rfl fun a hA => 
            o_yes hA rfl rfl hc30 <| 
            stp hA (r_ld1 (j := 0) [[.int .i64 x1.Code], [.bool x1.Placed], [.int .i64 x1.Pos]] [[.int .i64 x1.At]] Tryd.underlying4 rfl hI rfl hA rfl rfl) rfl fun a hA => 
            o_yes hA rfl rfl hc30 <| 
            stp hA (r_eqlb Tryd.underlying4 hA rfl rfl) rfl fun a hA => 
            stp hA (r_pick_t hA rfl hc30 rfl) rfl fun a hA => 
            stm hA rfl rfl fun a hA => ?_
          rcases Bool.eq_false_or_eq_true (decide (x0.Outer = x1.Outer)) with hc4 | hc4
          · have hc40 := hc4; obtain ⟨hc4, H⟩ := dT H hc4
            refine o_yes hA rfl rfl hc40 <| 
              stp hA (r_fd (k := 4) Tryd.underlying51 rfl sz3 hA rfl rfl) rfl fun a hA => 
              o_yes hA rfl rfl hc40 <| 
              stp hA (r_ld1 (j := 1) [[.int .i64 x0.Code], [.bool x0.Placed], [.int .i64 x0.Pos], [.bool x0.Outer]] [] Tryd.underlying3 rfl hI rfl hA rfl rfl) rfl fun a hA => 
              o_yes hA rfl rfl hc40 <| 
              stp hA (r_fd (k := 4) Tryd.underlying51 rfl sz3 hA rfl rfl) rfl fun a hA => 
              o_yes hA rfl rfl hc40 <| 
              stp hA (r_ld1 (j := 0) [[.int .i64 x1.Code], [.bool x1.Placed], [.int .i64 x1.Pos], [.bool x1.Outer]] [] Tryd.underlying3 rfl hI rfl hA rfl rfl) rfl fun a hA => 
              o_yes hA rfl rfl hc40 <| 
              stp hA (r_eql hA rfl rfl) rfl fun a hA => 
              stp hA (r_pick_t hA rfl hc40 rfl) rfl fun a hA => 
              sta hA rfl rfl fun a hA => ?_
            refine o_nil ?_
            cases sJ H
            exact ⟨hA.sub ⟨rfl, trivial⟩, hI⟩
          · have hc40 := hc4; obtain ⟨hc4, H⟩ := dF H hc4
            refine o_no hA rfl rfl (by rw [hc40]; simp [vb]) rfl fun a hA => 
              o_no hA rfl rfl (by rw [hc40]; simp [vb]) rfl fun a hA => 
              o_no hA rfl rfl (by rw [hc40]; simp [vb]) rfl fun a hA => 
              o_no hA rfl rfl (by rw [hc40]; simp [vb]) rfl fun a hA => 
              o_no hA rfl rfl (by rw [hc40]; simp [vb]) rfl fun a hA => 
              stp hA (r_pick_f hA rfl hc40 rfl) rfl fun a hA => 
              sta hA rfl rfl fun a hA => ?_
            refine o_nil ?_
            cases sJ H
            exact ⟨hA.sub ⟨rfl, trivial⟩, hI⟩
        · have hc30 := hc3; obtain ⟨hc3, H⟩ := dF H hc3
          refine o_no hA rfl rfl (by rw [hc30]; simp [vb]) rfl fun a hA => 
            o_no hA rfl rfl (by rw [hc30]; simp [vb]) rfl fun a hA => 
            o_no hA rfl rfl (by rw [hc30]; simp [vb]) rfl fun a hA => 
            o_no hA rfl rfl (by rw [hc30]; simp [vb]) rfl fun a hA => 
            o_no hA rfl rfl (by rw [hc30]; simp [vb]) rfl fun a hA => 
            stp hA (r_pick_f hA rfl hc30 rfl) rfl fun a hA => 
            stm hA rfl rfl fun a hA => 
            o_no hA rfl rfl (by simp [vb]) rfl fun a hA => 
            o_no hA rfl rfl (by simp [vb]) rfl fun a hA => 
            o_no hA rfl rfl (by simp [vb]) rfl fun a hA => 
            o_no hA rfl rfl (by simp [vb]) rfl fun a hA => 
            o_no hA rfl rfl (by simp [vb]) rfl fun a hA => 
            stp hA (r_pick_f hA rfl rfl rfl) rfl fun a hA => 
            sta hA rfl rfl fun a hA => ?_
          refine o_nil ?_
          cases sJ H
          exact ⟨hA.sub ⟨rfl, trivial⟩, hI⟩
      · have hc20 := hc2; obtain ⟨hc2, H⟩ := dF H hc2
        refine o_no hA rfl rfl (by rw [hc20]; simp [vb]) rfl fun a hA => 
          o_no hA rfl rfl (by rw [hc20]; simp [vb]) rfl fun a hA => 
          o_no hA rfl rfl (by rw [hc20]; simp [vb]) rfl fun a hA => 
          o_no hA rfl rfl (by rw [hc20]; simp [vb]) rfl fun a hA => 
          o_no hA rfl rfl (by rw [hc20]; simp [vb]) rfl fun a hA => 
          stp hA (r_pick_f hA rfl hc20 rfl) rfl fun a hA => 
          stm hA rfl rfl fun a hA => 
          o_no hA rfl rfl (by simp [vb]) rfl fun a hA => 
          o_no hA rfl rfl (by simp [vb]) rfl fun a hA => 
          o_no hA rfl rfl (by simp [vb]) rfl fun a hA => 
          o_no hA rfl rfl (by simp [vb]) rfl fun a hA => 
          o_no hA rfl rfl (by simp [vb]) rfl fun a hA => 
          stp hA (r_pick_f hA rfl rfl rfl) rfl fun a hA => 
          stm hA rfl rfl fun a hA => 
          o_no hA rfl rfl (by simp [vb]) rfl fun a hA => 
          o_no hA rfl rfl (by simp [vb]) rfl fun a hA => 
          o_no hA rfl rfl (by simp [vb]) rfl fun a hA => 
          o_no hA rfl rfl (by simp [vb]) rfl fun a hA => 
          o_no hA rfl rfl (by simp [vb]) rfl fun a hA => 
          stp hA (r_pick_f hA rfl rfl rfl) rfl fun a hA => 
          sta hA rfl rfl fun a hA => ?_
        refine o_nil ?_
        cases sJ H
        exact ⟨hA.sub ⟨rfl, trivial⟩, hI⟩
    · have hc10 := hc1; obtain ⟨hc1, H⟩ := dF H hc1
      refine o_no hA rfl rfl (by rw [hc10]; simp [vb]) rfl fun a hA => 
        o_no hA rfl rfl (by rw [hc10]; simp [vb]) rfl fun a hA => 
        o_no hA rfl rfl (by rw [hc10]; simp [vb]) rfl fun a hA => 
        o_no hA rfl rfl (by rw [hc10]; simp [vb]) rfl fun a hA => 
        o_no hA rfl rfl (by rw [hc10]; simp [vb]) rfl fun a hA => 
        stp hA (r_pick_f hA rfl hc10 rfl) rfl fun a hA => 
        stm hA rfl rfl fun a hA => 
        o_no hA rfl rfl (by simp [vb]) rfl fun a hA => 
        o_no hA rfl rfl (by simp [vb]) rfl fun a hA => 
        o_no hA rfl rfl (by simp [vb]) rfl fun a hA => 
        o_no hA rfl rfl (by simp [vb]) rfl fun a hA => 
        o_no hA rfl rfl (by simp [vb]) rfl fun a hA => 
        stp hA (r_pick_f hA rfl rfl rfl) rfl fun a hA => 
        stm hA rfl rfl fun a hA => 
        o_no hA rfl rfl (by simp [vb]) rfl fun a hA => 
        o_no hA rfl rfl (by simp [vb]) rfl fun a hA => 
        o_no hA rfl rfl (by simp [vb]) rfl fun a hA => 
        o_no hA rfl rfl (by simp [vb]) rfl fun a hA => 
        o_no hA rfl rfl (by simp [vb]) rfl fun a hA => 
        stp hA (r_pick_f hA rfl rfl rfl) rfl fun a hA => 
        stm hA rfl rfl fun a hA => 
        o_no hA rfl rfl (by simp [vb]) rfl fun a hA => 
        o_no hA rfl rfl (by simp [vb]) rfl fun a hA => 
        o_no hA rfl rfl (by simp [vb]) rfl fun a hA => 
        o_no hA rfl rfl (by simp [vb]) rfl fun a hA => 
        o_no hA rfl rfl (by simp [vb]) rfl fun a hA => 
        stp hA (r_pick_f hA rfl rfl rfl) rfl fun a hA => 
        sta hA rfl rfl fun a hA => ?_
      refine o_nil ?_
      cases sJ H
      exact ⟨hA.sub ⟨rfl, trivial⟩, hI⟩
  · rintro a w ⟨hA, hI⟩
    have H := Hk1
    refine w_ret ?_
    obtain rfl := sJ H
    exact ret1 hA Tryd.results21 rfl ⟨_, rfl, rfl, trivial, hI.forget0⟩
set_option maxRecDepth 20000 in
theorem sargassoref_None.c (μ : Store) (w0 : World) (hμ : Agr μ w0) (r : sargassorefFault) (H : sargassoref_None.f = some r) :
    Calls Tryd.prog 23 [].toArray w0 (fun e w' => ∃ v, e = .returned v ∧ v = .agg [[.int .i64 r.Code], [.bool r.Placed], [.int .i64 r.Pos], [.bool r.Outer], [.int .i64 r.At]].flatten.toArray ∧ sargassorefFaultW μ r ∧ Iv w0 [] μ μ [] w') := by
  refine enter Tryd.func23 rfl Tryd.ntmps23 rfl fun a hA => ?_
  have hI := Iv.start hμ
  have H := bI H
  refine w_seq fun _ hN1 => w_reg <| o_new [[.int .i64 0], [.bool false], [.int .i64 0], [.bool false], [.int .i64 0]] zr51 hI hA rfl fun g1 a w hA hI hg1 => ?_
  refine o_nil <| hN1 _ _ <| w_seq fun _ hN2 => w_reg <| stp hA (r_bldS (cs := [[.int .i64 0], [.bool false], [.int .i64 0], [.bool false], [.int .i64 0]].flatten.toArray) (pl := [(0, 1), (1, 1), (2, 1), (3, 1), (4, 1)]) zr51 Tryd.underlying51 ⟨rfl, sz3, rfl, sz4, rfl, sz3, rfl, sz4, rfl, sz3, trivial⟩ hA rfl (by kernel_rfl)) rfl fun a hA => 
    o_st (j := 0) [] [[.int .i64 0], [.bool false], [.int .i64 0], [.bool false], [.int .i64 0]] [[.int .i64 0], [.bool false], [.int .i64 0], [.bool false], [.int .i64 0]] [] sz51 rfl rfl (fl_cons (oneC rfl) (fl_cons (oneC rfl) (fl_cons (oneC rfl) (fl_cons (oneC rfl) (fl_cons (oneC rfl) fl_nil))))) hI rfl hA rfl rfl rfl rfl fun w hI => ?_
  refine o_nil <| hN2 _ _ <| w_ret ?_
  obtain rfl := sJ H
  exact retc Tryd.underlying51 rfl sz51 rfl hI (j := 0) rfl hA Tryd.results23 rfl ⟨_, rfl, rfl, ⟨(in_lit .i64 0 rfl), (in_lit .i64 0 rfl), (in_lit .i64 0 rfl)⟩, hI.forget0⟩
set_option maxRecDepth 20000 in
theorem sargassoref_Placed.c (μ : Store) (w0 : World) (hμ : Agr μ w0) (x0 : Int) (hx0 : InR .i64 x0) (x1 : Int) (hx1 : InR .i64 x1) (r : sargassorefFault) (H : sargassoref_Placed.f x0 x1 = some r) :
    Calls Tryd.prog 10 [.int .i64 x0, .int .i64 x1].toArray w0 (fun e w' => ∃ v, e = .returned v ∧ v = .agg [[.int .i64 r.Code], [.bool r.Placed], [.int .i64 r.Pos], [.bool r.Outer], [.int .i64 r.At]].flatten.toArray ∧ sargassorefFaultW μ r ∧ Iv w0 [] μ μ [] w') := by
  refine enter Tryd.func10 rfl Tryd.ntmps10 rfl fun a hA => ?_
  have hI := Iv.start hμ
  have H := bI H
  refine w_seq fun _ hN1 => w_reg <| o_new [[.int .i64 0], [.bool false], [.int .i64 0], [.bool false], [.int .i64 0]] zr51 hI hA rfl fun g1 a w hA hI hg1 => ?_
  refine o_nil <| hN1 _ _ <| w_seq fun _ hN2 => w_seq fun _ hN3 => w_reg <| stm hA rfl rfl fun a hA => 
    stp hA (r_eql hA rfl rfl) rfl fun a hA => ?_
  refine o_nil <| hN3 _ _ <| w_cond hA rfl (fun hc1 => ?_) (fun hc1 => ?_)
  · obtain ⟨hc1, H⟩ := dT H hc1
    refine w_seq fun _ hN4 => w_reg ?_
    obtain ⟨r1, hr1, H⟩ := bB H
    refine o_callp (u := .agg [[.int .i64 r1.Code], [.bool r1.Placed], [.int .i64 r1.Pos], [.bool r1.Outer], [.int .i64 r1.At]].flatten.toArray) cf23 hA rfl hI (sargassoref_None.c μ _ hI.agr  r1 hr1) rfl fun a w hz1 hI hA => 
      o_st (j := 0) [] [[.int .i64 0], [.bool false], [.int .i64 0], [.bool false], [.int .i64 0]] [[.int .i64 r1.Code], [.bool r1.Placed], [.int .i64 r1.Pos], [.bool r1.Outer], [.int .i64 r1.At]] [] sz51 rfl rfl (fl_cons (oneC rfl) (fl_cons (oneC rfl) (fl_cons (oneC rfl) (fl_cons (oneC rfl) (fl_cons (oneC rfl) fl_nil))))) hI rfl hA rfl rfl rfl rfl fun w hI => ?_
    refine o_nil <| hN4 _ _ <| w_ret ?_
    obtain rfl := sJ H
    exact retc Tryd.underlying51 rfl sz51 rfl hI (j := 0) rfl hA Tryd.results10 rfl ⟨_, rfl, rfl, ⟨hz1.1, hz1.2.1, hz1.2.2⟩, hI.forget0⟩
  · obtain ⟨hc1, H⟩ := dF H hc1
    refine w_skip <| hN2 _ _ <| w_seq fun _ hN5 => w_reg <| stm hA rfl rfl fun a hA => 
      stm hA rfl rfl fun a hA => 
      stp hA (r_bldS (cs := [[.int .i64 x0], [.bool true], [.int .i64 x1], [.bool false], [.int .i64 0]].flatten.toArray) (pl := [(0, 1), (1, 1), (2, 1), (3, 1), (4, 1)]) zr51 Tryd.underlying51 ⟨rfl, sz3, rfl, sz4, rfl, sz3, rfl, sz4, rfl, sz3, trivial⟩ hA rfl (by kernel_rfl)) rfl fun a hA => 
      o_st (j := 0) [] [[.int .i64 0], [.bool false], [.int .i64 0], [.bool false], [.int .i64 0]] [[.int .i64 x0], [.bool true], [.int .i64 x1], [.bool false], [.int .i64 0]] [] sz51 rfl rfl (fl_cons (oneC rfl) (fl_cons (oneC rfl) (fl_cons (oneC rfl) (fl_cons (oneC rfl) (fl_cons (oneC rfl) fl_nil))))) hI rfl hA rfl rfl rfl rfl fun w hI => ?_
    refine o_nil <| hN5 _ _ <| w_ret ?_
    obtain rfl := sJ H
    exact retc Tryd.underlying51 rfl sz51 rfl hI (j := 0) rfl hA Tryd.results10 rfl ⟨_, rfl, rfl, ⟨hx0, hx1, (in_lit .i64 0 rfl)⟩, hI.forget0⟩
set_option maxRecDepth 20000 in
theorem sargassoref_Bare.c (μ : Store) (w0 : World) (hμ : Agr μ w0) (x0 : Int) (hx0 : InR .i64 x0) (r : sargassorefFault) (H : sargassoref_Bare.f x0 = some r) :
    Calls Tryd.prog 24 [.int .i64 x0].toArray w0 (fun e w' => ∃ v, e = .returned v ∧ v = .agg [[.int .i64 r.Code], [.bool r.Placed], [.int .i64 r.Pos], [.bool r.Outer], [.int .i64 r.At]].flatten.toArray ∧ sargassorefFaultW μ r ∧ Iv w0 [] μ μ [] w') := by
  refine enter Tryd.func24 rfl Tryd.ntmps24 rfl fun a hA => ?_
  have hI := Iv.start hμ
  have H := bI H
  refine w_seq fun _ hN1 => w_reg <| o_new [[.int .i64 0], [.bool false], [.int .i64 0], [.bool false], [.int .i64 0]] zr51 hI hA rfl fun g1 a w hA hI hg1 => ?_
  refine o_nil <| hN1 _ _ <| w_seq fun _ hN2 => w_reg <| stm hA rfl rfl fun a hA => 
    stp hA (r_bldS (cs := [[.int .i64 x0], [.bool false], [.int .i64 0], [.bool false], [.int .i64 0]].flatten.toArray) (pl := [(0, 1), (1, 1), (2, 1), (3, 1), (4, 1)]) zr51 Tryd.underlying51 ⟨rfl, sz3, rfl, sz4, rfl, sz3, rfl, sz4, rfl, sz3, trivial⟩ hA rfl (by kernel_rfl)) rfl fun a hA => 
    o_st (j := 0) [] [[.int .i64 0], [.bool false], [.int .i64 0], [.bool false], [.int .i64 0]] [[.int .i64 x0], [.bool false], [.int .i64 0], [.bool false], [.int .i64 0]] [] sz51 rfl rfl (fl_cons (oneC rfl) (fl_cons (oneC rfl) (fl_cons (oneC rfl) (fl_cons (oneC rfl) (fl_cons (oneC rfl) fl_nil))))) hI rfl hA rfl rfl rfl rfl fun w hI => ?_
  refine o_nil <| hN2 _ _ <| w_ret ?_
  obtain rfl := sJ H
  exact retc Tryd.underlying51 rfl sz51 rfl hI (j := 0) rfl hA Tryd.results24 rfl ⟨_, rfl, rfl, ⟨hx0, (in_lit .i64 0 rfl), (in_lit .i64 0 rfl)⟩, hI.forget0⟩
set_option maxRecDepth 20000 in
theorem sargassosee_sentinels.c (μ : Store) (w0 : World) (hμ : Agr μ w0) (hG : Gl μ) (r : List Er) (H : sargassosee_sentinels.f = some r) :
    Calls Tryd.prog 52 [].toArray w0 (fun e w' => ∃ v, e = .returned v ∧ ∃ (v0 : Value) (c0 : List Value) (μ' : Store), v = v0 ∧ Els (RErr μ') 1 r c0 ∧ Iv w0 [] μ μ' [row 47 1 v0 r.length c0] w') := by
  refine enter Tryd.func52 rfl Tryd.ntmps52 rfl fun a hA => ?_
  have hI := Iv.start hμ
  have H := bI H
  obtain ⟨e0, he0⟩ := hG.g0
  obtain ⟨e1, he1⟩ := hG.g1
  obtain ⟨e2, he2⟩ := hG.g2
  obtain ⟨e3, he3⟩ := hG.g3
  obtain ⟨e4, he4⟩ := hG.g4
  obtain ⟨e5, he5⟩ := hG.g5
  obtain ⟨e6, he6⟩ := hG.g6
  obtain ⟨e7, he7⟩ := hG.g7
  obtain ⟨e8, he8⟩ := hG.g8
  obtain ⟨e9, he9⟩ := hG.g9
  obtain ⟨e10, he10⟩ := hG.g10
  obtain ⟨e11, he11⟩ := hG.g11
  obtain ⟨e12, he12⟩ := hG.g12
  obtain ⟨e13, he13⟩ := hG.g13
  obtain ⟨e14, he14⟩ := hG.g14
  obtain ⟨e15, he15⟩ := hG.g15
  obtain ⟨e16, he16⟩ := hG.g16
  obtain ⟨e17, he17⟩ := hG.g17
  obtain ⟨e18, he18⟩ := hG.g18
  obtain ⟨e19, he19⟩ := hG.g19
  obtain ⟨e20, he20⟩ := hG.g20
  obtain ⟨e21, he21⟩ := hG.g21
  obtain ⟨e22, he22⟩ := hG.g22
  obtain ⟨e23, he23⟩ := hG.g23
  obtain ⟨e24, he24⟩ := hG.g24
  refine w_seq fun _ hN1 => w_reg <| sta hA rfl rfl fun a hA => ?_
  refine o_nil <| hN1 _ _ <| w_seq fun _ hN2 => w_reg <| stp hA (r_ldG Tryd.underlying47 rfl hI.agr he8 hA) rfl fun a hA => 
    stp hA (r_ldG Tryd.underlying47 rfl hI.agr he9 hA) rfl fun a hA => 
    stp hA (r_ldG Tryd.underlying47 rfl hI.agr he1 hA) rfl fun a hA => 
    stp hA (r_ldG Tryd.underlying47 rfl hI.agr he0 hA) rfl fun a hA => 
    stp hA (r_ldG Tryd.underlying47 rfl hI.agr he7 hA) rfl fun a hA => 
    stp hA (r_ldG Tryd.underlying47 rfl hI.agr he2 hA) rfl fun a hA => 
    stp hA (r_ldG Tryd.underlying47 rfl hI.agr he5 hA) rfl fun a hA => 
    stp hA (r_ldG Tryd.underlying47 rfl hI.agr he3 hA) rfl fun a hA => 
    stp hA (r_ldG Tryd.underlying47 rfl hI.agr he10 hA) rfl fun a hA => 
    stp hA (r_ldG Tryd.underlying47 rfl hI.agr he11 hA) rfl fun a hA => 
    stp hA (r_ldG Tryd.underlying47 rfl hI.agr he12 hA) rfl fun a hA => 
    stp hA (r_ldG Tryd.underlying47 rfl hI.agr he13 hA) rfl fun a hA => 
    stp hA (r_ldG Tryd.underlying47 rfl hI.agr he14 hA) rfl fun a hA => 
    stp hA (r_ldG Tryd.underlying47 rfl hI.agr he6 hA) rfl fun a hA => 
    stp hA (r_ldG Tryd.underlying47 rfl hI.agr he15 hA) rfl fun a hA => 
    stp hA (r_ldG Tryd.underlying47 rfl hI.agr he16 hA) rfl fun a hA => 
    stp hA (r_ldG Tryd.underlying47 rfl hI.agr he17 hA) rfl fun a hA => 
    stp hA (r_ldG Tryd.underlying47 rfl hI.agr he18 hA) rfl fun a hA => 
    stp hA (r_ldG Tryd.underlying47 rfl hI.agr he19 hA) rfl fun a hA => 
    stp hA (r_ldG Tryd.underlying47 rfl hI.agr he20 hA) rfl fun a hA => 
    stp hA (r_ldG Tryd.underlying47 rfl hI.agr he21 hA) rfl fun a hA => 
    stp hA (r_ldG Tryd.underlying47 rfl hI.agr he4 hA) rfl fun a hA => 
    stp hA (r_ldG Tryd.underlying47 rfl hI.agr he22 hA) rfl fun a hA => 
    stp hA (r_ldG Tryd.underlying47 rfl hI.agr he23 hA) rfl fun a hA => 
    stp hA (r_ldG Tryd.underlying47 rfl hI.agr he24 hA) rfl fun a hA => ?_
  have hE1 : Els (RErr μ) 1 ([xErrEnd, xErrShape, xErrLong, xErrMany, xErrValue, xErrTwice, xErrBase, xErrRoot, xErrKnown, xErrParent, xErrInvalid, xErrTime, xErrMissing, xErrKey, xErrYoung, xErrEarly, xErrLess, xErrReward, xErrClash, xErrLimit, xErrFull, xErrRange, xErrNone, xErrWord, xErrNumber] : List Er) _ := (Els.cons (c := [[e8]].flatten) ⟨_, rfl, he8⟩ rfl (Els.cons (c := [[e9]].flatten) ⟨_, rfl, he9⟩ rfl (Els.cons (c := [[e1]].flatten) ⟨_, rfl, he1⟩ rfl (Els.cons (c := [[e0]].flatten) ⟨_, rfl, he0⟩ rfl (Els.cons (c := [[e7]].flatten) ⟨_, rfl, he7⟩ rfl (Els.cons (c := [[e2]].flatten) ⟨_, rfl, he2⟩ rfl (Els.cons (c := [[e5]].flatten) ⟨_, rfl, he5⟩ rfl (Els.cons (c := [[e3]].flatten) ⟨_, rfl, he3⟩ rfl (Els.cons (c := [[e10]].flatten) ⟨_, rfl, he10⟩ rfl (Els.cons (c := [[e11]].flatten) ⟨_, rfl, he11⟩ rfl (Els.cons (c := [[e12]].flatten) ⟨_, rfl, he12⟩ rfl (Els.cons (c := [[e13]].flatten) ⟨_, rfl, he13⟩ rfl (Els.cons (c := [[e14]].flatten) ⟨_, rfl, he14⟩ rfl (Els.cons (c := [[e6]].flatten) ⟨_, rfl, he6⟩ rfl (Els.cons (c := [[e15]].flatten) ⟨_, rfl, he15⟩ rfl (Els.cons (c := [[e16]].flatten) ⟨_, rfl, he16⟩ rfl (Els.cons (c := [[e17]].flatten) ⟨_, rfl, he17⟩ rfl (Els.cons (c := [[e18]].flatten) ⟨_, rfl, he18⟩ rfl (Els.cons (c := [[e19]].flatten) ⟨_, rfl, he19⟩ rfl (Els.cons (c := [[e20]].flatten) ⟨_, rfl, he20⟩ rfl (Els.cons (c := [[e21]].flatten) ⟨_, rfl, he21⟩ rfl (Els.cons (c := [[e4]].flatten) ⟨_, rfl, he4⟩ rfl (Els.cons (c := [[e22]].flatten) ⟨_, rfl, he22⟩ rfl (Els.cons (c := [[e23]].flatten) ⟨_, rfl, he23⟩ rfl (Els.cons (c := [[e24]].flatten) ⟨_, rfl, he24⟩ rfl Els.nil)))))))))))))))))))))))))
  refine o_bsl ([[e8]].flatten ++ ([[e9]].flatten ++ ([[e1]].flatten ++ ([[e0]].flatten ++ ([[e7]].flatten ++ ([[e2]].flatten ++ ([[e5]].flatten ++ ([[e3]].flatten ++ ([[e10]].flatten ++ ([[e11]].flatten ++ ([[e12]].flatten ++ ([[e13]].flatten ++ ([[e14]].flatten ++ ([[e6]].flatten ++ ([[e15]].flatten ++ ([[e16]].flatten ++ ([[e17]].flatten ++ ([[e18]].flatten ++ ([[e19]].flatten ++ ([[e20]].flatten ++ ([[e21]].flatten ++ ([[e4]].flatten ++ ([[e22]].flatten ++ ([[e23]].flatten ++ ([[e24]].flatten ++ ([])))))))))))))))))))))))))) te47 zr47 Tryd.underlying96 hI hA rfl rfl rfl rfl ((fill_one (cells_err1 he8) rfl (by kernel_rfl)).trans ((fill_one (cells_err1 he9) rfl (by kernel_rfl)).trans ((fill_one (cells_err1 he1) rfl (by kernel_rfl)).trans ((fill_one (cells_err1 he0) rfl (by kernel_rfl)).trans ((fill_one (cells_err1 he7) rfl (by kernel_rfl)).trans ((fill_one (cells_err1 he2) rfl (by kernel_rfl)).trans ((fill_one (cells_err1 he5) rfl (by kernel_rfl)).trans ((fill_one (cells_err1 he3) rfl (by kernel_rfl)).trans ((fill_one (cells_err1 he10) rfl (by kernel_rfl)).trans ((fill_one (cells_err1 he11) rfl (by kernel_rfl)).trans ((fill_one (cells_err1 he12) rfl (by kernel_rfl)).trans ((fill_one (cells_err1 he13) rfl (by kernel_rfl)).trans ((fill_one (cells_err1 he14) rfl (by kernel_rfl)).trans ((fill_one (cells_err1 he6) rfl (by kernel_rfl)).trans ((fill_one (cells_err1 he15) rfl (by kernel_rfl)).trans ((fill_one (cells_err1 he16) rfl (by kernel_rfl)).trans ((fill_one (cells_err1 he17) rfl (by kernel_rfl)).trans ((fill_one (cells_err1 he18) rfl (by kernel_rfl)).trans ((fill_one (cells_err1 he19) rfl (by kernel_rfl)).trans ((fill_one (cells_err1 he20) rfl (by kernel_rfl)).trans ((fill_one (cells_err1 he21) rfl (by kernel_rfl)).trans ((fill_one (cells_err1 he4) rfl (by kernel_rfl)).trans ((fill_one (cells_err1 he22) rfl (by kernel_rfl)).trans ((fill_one (cells_err1 he23) rfl (by kernel_rfl)).trans ((fill_one (cells_err1 he24) rfl (by kernel_rfl)).trans (by kernel_rfl)))))))))))))))))))))))))) rfl fun g1 a w hA hI => ?_
  generalize hcs : ([[e8]].flatten ++ ([[e9]].flatten ++ ([[e1]].flatten ++ ([[e0]].flatten ++ ([[e7]].flatten ++ ([[e2]].flatten ++ ([[e5]].flatten ++ ([[e3]].flatten ++ ([[e10]].flatten ++ ([[e11]].flatten ++ ([[e12]].flatten ++ ([[e13]].flatten ++ ([[e14]].flatten ++ ([[e6]].flatten ++ ([[e15]].flatten ++ ([[e16]].flatten ++ ([[e17]].flatten ++ ([[e18]].flatten ++ ([[e19]].flatten ++ ([[e20]].flatten ++ ([[e21]].flatten ++ ([[e4]].flatten ++ ([[e22]].flatten ++ ([[e23]].flatten ++ ([[e24]].flatten ++ ([]))))))))))))))))))))))))) : List Value) = cs1 at hE1 hI
  clear hcs
  refine sta hA rfl rfl fun a hA => ?_
  refine o_nil <| hN2 _ _ <| w_ret ?_
  obtain rfl := sJ H
  exact ret1 hA Tryd.results52 rfl ⟨_, rfl, (.slice (some ⟨g1, 0, none⟩) 25 25), cs1, μ, rfl, hE1, hI⟩
set_option maxRecDepth 20000 in
theorem sargassosee_Alike.c (μ : Store) (w0 : World) (hμ : Agr μ w0) (x0 : Er) (u0 : Value) (hx0 : ErS μ u0 x0) (x1 : Er) (u1 : Value) (hx1 : ErS μ u1 x1) (r : Bool) (H : sargassosee_Alike.f x0 x1 = some r) :
    Calls Tryd.prog 53 [u0, u1].toArray w0 (fun e w' => ∃ v, e = .returned v ∧ v = .bool r ∧ True ∧ Iv w0 [] μ μ [] w') := by
  refine enter Tryd.func53 rfl Tryd.ntmps53 rfl fun a hA => ?_
  have hI := Iv.start hμ
  have H := bI H
  refine w_seq fun _ hN1 => w_reg <| sta hA rfl rfl fun a hA => ?_
  refine o_nil <| hN1 _ _ <| w_seq fun _ hN2 => ?_
  obtain ⟨c1, hz1, Hk1⟩ := bB H
  refine w_cut (fun a w => Fr a 20 [(0, u0), (1, u1), (4, .bool false), (10, .bool c1)] ∧ Iv w0 [] μ μ [] w) ?_ ?_
  · have H := bI hz1
    refine w_reg <| stm hA rfl rfl fun a hA => 
      stp hA (r_eqE erF hI.agr hx0 erv_nil (.inl ⟨.inr ⟨_, rfl⟩, Er.fitR⟩) hA rfl rfl) rfl fun a hA => 
      stm hA rfl rfl fun a hA => ?_
    rcases Bool.eq_false_or_eq_true (decide (x0 = (Er.b 0))) with hc1 | hc1
    · have hc10 := hc1; obtain ⟨hc1, H⟩ := dT H hc1
      refine o_no hA rfl rfl (by rw [hc10]; simp [vb]) rfl fun a hA => 
        o_no hA rfl rfl (by rw [hc10]; simp [vb]) rfl fun a hA => 
        stp hA (r_pick_t hA rfl hc10 rfl) rfl fun a hA => ?_
      refine o_nil ?_
      cases sJ H
      exact ⟨hA.sub ⟨rfl, rfl, rfl, rfl, trivial⟩, hI⟩
    · have hc10 := hc1; obtain ⟨hc1, H⟩ := dF H hc1
      refine o_yes hA rfl rfl hc10 <| 
        stm hA rfl rfl fun a hA => 
        o_yes hA rfl rfl hc10 <| 
        stp hA (r_eqE erF hI.agr hx1 erv_nil (.inl ⟨.inr ⟨_, rfl⟩, Er.fitR⟩) hA rfl rfl) rfl fun a hA => 
        stp hA (r_pick_f hA rfl hc10 rfl) rfl fun a hA => ?_
      refine o_nil ?_
      cases sJ H
      exact ⟨hA.sub ⟨rfl, rfl, rfl, rfl, trivial⟩, hI⟩
  · rintro a w ⟨hA, hI⟩
    have H := Hk1
    refine w_cond hA rfl (fun hc2 => ?_) (fun hc2 => ?_)
    · have H := bT H hc2
      obtain ⟨c2, hz2, Hk2⟩ := bB H
      refine w_cut (fun a w => Fr a 20 [(0, u0), (1, u1), (4, .bool c2)] ∧ Iv w0 [] μ μ [] w) ?_ ?_
      · have H := bI hz2
        refine w_reg <| stm hA rfl rfl fun a hA => 
          stp hA (r_eqE erF hI.agr hx0 erv_nil (.inl ⟨.inr ⟨_, rfl⟩, Er.fitR⟩) hA rfl rfl) rfl fun a hA => 
          stm hA rfl rfl fun a hA => ?_
        rcases Bool.eq_false_or_eq_true (decide (x0 = (Er.b 0))) with hc3 | hc3
        · have hc30 := hc3; obtain ⟨hc3, H⟩ := dT H hc3
          refine o_yes hA rfl rfl hc30 <| 
            stm hA rfl rfl fun a hA => 
            o_yes hA rfl rfl hc30 <| 
            stp hA (r_eqE erF hI.agr hx1 erv_nil (.inl ⟨.inr ⟨_, rfl⟩, Er.fitR⟩) hA rfl rfl) rfl fun a hA => 
            stp hA (r_pick_t hA rfl hc30 rfl) rfl fun a hA => 
            sta hA rfl rfl fun a hA => ?_
          refine o_nil ?_
          cases sJ H
          exact ⟨hA.sub ⟨rfl, rfl, rfl, trivial⟩, hI⟩
        · have hc30 := hc3; obtain ⟨hc3, H⟩ := dF H hc3
          refine o_no hA rfl rfl (by rw [hc30]; simp [vb]) rfl fun a hA => 
            o_no hA rfl rfl (by rw [hc30]; simp [vb]) rfl fun a hA => 
            stp hA (r_pick_f hA rfl hc30 rfl) rfl fun a hA => 
            sta hA rfl rfl fun a hA => ?_
          refine o_nil ?_
          cases sJ H
          exact ⟨hA.sub ⟨rfl, rfl, rfl, trivial⟩, hI⟩
      · rintro a w ⟨hA, hI⟩
        have H := Hk2
        refine w_ret ?_
        obtain rfl := sJ H
        exact ret1 hA Tryd.results53 rfl ⟨_, rfl, rfl, trivial, hI.forget0⟩
    · have hc2 := ft hc2; have H := bF H hc2
      refine w_skip <| hN2 _ _ <| w_seq fun _ hN3 => w_reg <| stm hA rfl rfl fun a hA => 
        stm hA rfl rfl fun a hA => ?_
      obtain ⟨hb1, H⟩ := bG H
      refine stp hA (r_eqE erF hI.agr hx0 hx1 (.inr hb1) hA rfl rfl) rfl fun a hA => 
        sta hA rfl rfl fun a hA => ?_
      refine o_nil <| hN3 _ _ <| w_ret ?_
      obtain rfl := sJ H
      exact ret1 hA Tryd.results53 rfl ⟨_, rfl, rfl, trivial, hI.forget0⟩
set_option maxRecDepth 20000 in
theorem sargassosee_sentinel.c (μ : Store) (w0 : World) (hμ : Agr μ w0) (x0 : Er) (u0 : Value) (hx0 : ErS μ u0 x0) (hG : Gl μ) (r : Int) (H : sargassosee_sentinel.f x0 = some r) :
    Calls Tryd.prog 33 [u0].toArray w0 (fun e w' => ∃ v, e = .returned v ∧ v = .int .i64 r ∧ InR .i64 r ∧ Iv w0 [] μ μ [] w') := by
  refine enter Tryd.func33 rfl Tryd.ntmps33 rfl fun a hA => ?_
  have hI := Iv.start hμ
  have H := bI H
  refine w_seq fun _ hN1 => w_reg <| sta hA rfl rfl fun a hA => ?_
  refine o_nil <| hN1 _ _ <| w_seq fun _ hN2 => w_reg ?_
  obtain ⟨r1, hr1, H⟩ := bB H
  refine o_call _ cf52 hA rfl (sargassosee_sentinels.c μ _ hI.agr hG r1 hr1) rfl fun v1 a w hz1 hA => ?_
  obtain ⟨_, cs1, μ1, rfl, hE1, hi1⟩ := hz1
  have hI := hI.call hi1
  refine sta hA rfl rfl fun a hA => ?_
  refine o_nil <| hN2 _ _ <| w_seq fun _ hN3 => w_seq fun _ hN4 => w_reg <| sta hA rfl rfl fun a hA => ?_
  refine o_nil <| hN4 _ _ <| w_block ?_
  obtain ⟨z1, hz2, Hk1⟩ := bind_some H
  obtain ⟨n1, hn1⟩ := loopO_some hz2
  refine w_loop (fun n a w => ∃ (s1 : Int), loopN (sargassosee_sentinel.s0 x0 r1) n s1 = some z1 ∧ InR .i64 s1 ∧ Fr a 20 [(0, u0), (2, .int .i64 0), (3, v1), (4, .int .i64 s1)] ∧ Iv w0 [] μ μ1 [row 47 1 v1 r1.length cs1] w) n1 ⟨0, hn1, (in_lit .i64 0 rfl), hA.sub ⟨rfl, rfl, rfl, rfl, trivial⟩, hI⟩ ?_
  clear hA hI
  rintro n a w ⟨s1, hn1, ws1, hA, hI⟩
  obtain ⟨m1, rfl, H⟩ := loopN_bind hn1
  clear hn1
  refine w_seq fun _ hN5 => w_seq fun _ hN6 => w_reg <| stm hA rfl rfl fun a hA => 
    stm hA rfl rfl fun a hA => ?_
  have hlen1 := Iv.row_in hI (j := 0) rfl
  refine stp hA (r_rlen (xs := 0) Tryd.underlying96 hI (j := 0) rfl hA rfl) rfl fun a hA => 
    stp hA (r_lss hA rfl rfl) rfl fun a hA => ?_
  refine o_nil <| hN6 _ _ <| w_cond hA rfl (fun hc1 => ?_) (fun hc1 => ?_)
  · obtain ⟨hc1, H⟩ := dT H hc1
    refine w_skip <| hN5 _ _ <| w_seq fun _ hN7 => w_block <| w_seq fun _ hN8 => w_reg <| stm hA rfl rfl fun a hA => 
      stm hA rfl rfl fun a hA => 
      stm hA rfl rfl fun a hA => ?_
    obtain ⟨hb1, H⟩ := bG H
    refine stp hA (r_rix (j := 0) Tryd.underlying96 sz47 hI rfl hA rfl rfl hb1.1 hb1.2) rfl fun a hA => ?_
    obtain ⟨A1, _, B1, hc2, hl1, _, he1⟩ := Els.at_ hE1 (getD_some (Er.b 0) hb1.1 hb1.2)
    obtain ⟨v2, rfl, hw1⟩ := he1
    refine stp hA (r_rldQ (j := 0) (q := s1.toNat * 1) (off := 0) A1 B1 [] [] hc2 hl1 rfl Tryd.underlying47 rfl hI rfl hA rfl) rfl fun a hA => ?_
    obtain ⟨r2, hr2, H⟩ := bB H
    refine o_callp (u := .bool r2) cf53 hA rfl hI (sargassosee_Alike.c μ1 _ hI.agr x0 u0 (ErV.le (fun _ _ h => h) hi1.le hx0) (r1.getD s1.toNat (Er.b 0)) v2 hw1 r2 hr2) rfl fun a w hz3 hI hA => ?_
    refine o_nil <| hN8 _ _ <| w_cond hA rfl (fun hc3 => ?_) (fun hc3 => ?_)
    · have H := bT H hc3
      refine w_seq fun _ hN9 => w_reg <| stm hA rfl rfl fun a hA => 
        stp hA (r_add hA rfl rfl) rfl fun a hA => 
        sta hA rfl rfl fun a hA => ?_
      refine o_nil <| hN9 _ _ <| w_ret ?_
      have H : some (IntKind.i64.wrap (101 + s1)) = some z1 := H
      obtain rfl := sI H
      have H := Hk1
      obtain rfl := sJ H
      exact ret1 hA Tryd.results33 rfl ⟨_, rfl, rfl, (wrap_in _ _), hI.forget0⟩
    · have hc3 := ft hc3; have H := bF H hc3
      refine w_skip <| hN7 _ _ <| w_reg <| stm hA rfl rfl fun a hA => 
        stp hA (r_add hA rfl rfl) rfl fun a hA => 
        sta hA rfl rfl fun a hA => ?_
      refine o_nil <| ⟨m1, Nat.lt_succ_self _, IntKind.i64.wrap (s1 + 1), H, (wrap_in _ _), hA.sub ⟨rfl, rfl, rfl, rfl, trivial⟩, hI⟩
  · obtain ⟨hc1, H⟩ := dF H hc1
    refine w_exit rfl <| hN3 _ _ <| w_seq fun _ hN10 => w_reg <| sta hA rfl rfl fun a hA => ?_
    refine o_nil <| hN10 _ _ <| w_ret ?_
    have H : some (-1) = some z1 := H
    obtain rfl := sI H
    have H := Hk1
    obtain rfl := sJ H
    exact ret1 hA Tryd.results33 rfl ⟨_, rfl, rfl, (in_lit .i64 (-1) rfl), hI.forget0⟩
set_option maxRecDepth 20000 in
theorem sargassoref_Around.c (μ : Store) (w0 : World) (hμ : Agr μ w0) (x0 : sargassorefFault) (hx0 : sargassorefFaultW μ x0) (x1 : Int) (hx1 : InR .i64 x1) (r : sargassorefFault) (H : sargassoref_Around.f x0 x1 = some r) :
    Calls Tryd.prog 34 [.agg [[.int .i64 x0.Code], [.bool x0.Placed], [.int .i64 x0.Pos], [.bool x0.Outer], [.int .i64 x0.At]].flatten.toArray, .int .i64 x1].toArray w0 (fun e w' => ∃ v, e = .returned v ∧ v = .agg [[.int .i64 r.Code], [.bool r.Placed], [.int .i64 r.Pos], [.bool r.Outer], [.int .i64 r.At]].flatten.toArray ∧ sargassorefFaultW μ r ∧ Iv w0 [] μ μ [] w') := by
  refine enter Tryd.func34 rfl Tryd.ntmps34 rfl fun a hA => ?_
  have hI := Iv.start hμ
  have H := bI H
  refine w_seq fun _ hN1 => w_reg <| o_box [[.int .i64 x0.Code], [.bool x0.Placed], [.int .i64 x0.Pos], [.bool x0.Outer], [.int .i64 x0.At]] hI hA rfl rfl rfl fun g1 a w hA hI hg1 => 
    o_new [[.int .i64 0], [.bool false], [.int .i64 0], [.bool false], [.int .i64 0]] zr51 hI hA rfl fun g2 a w hA hI hg2 => ?_
  refine o_nil <| hN1 _ _ <| w_seq fun _ hN2 => w_block <| w_seq fun _ hN3 => w_reg <| stp hA (r_fd (k := 0) Tryd.underlying51 rfl sz3 hA rfl rfl) rfl fun a hA => 
    stp hA (r_ld1 (j := 1) [] [[.bool x0.Placed], [.int .i64 x0.Pos], [.bool x0.Outer], [.int .i64 x0.At]] Tryd.underlying3 rfl hI rfl hA rfl rfl) rfl fun a hA => 
    stp hA (r_eql hA rfl rfl) rfl fun a hA => 
    sta hA rfl rfl fun a hA => ?_
  refine o_nil <| hN3 _ _ <| w_cond hA rfl (fun hc1 => ?_) (fun hc1 => ?_)
  · obtain ⟨hc1, H⟩ := dT H hc1
    refine w_seq fun _ hN4 => w_reg <| stp hA (r_ldA (j := 1) [] [[.int .i64 x0.Code], [.bool x0.Placed], [.int .i64 x0.Pos], [.bool x0.Outer], [.int .i64 x0.At]] [] Tryd.underlying51 rfl sz51 rfl hI rfl hA rfl rfl) rfl fun a hA => 
      o_st (j := 0) [] [[.int .i64 0], [.bool false], [.int .i64 0], [.bool false], [.int .i64 0]] [[.int .i64 x0.Code], [.bool x0.Placed], [.int .i64 x0.Pos], [.bool x0.Outer], [.int .i64 x0.At]] [] sz51 rfl rfl (fl_cons (oneC rfl) (fl_cons (oneC rfl) (fl_cons (oneC rfl) (fl_cons (oneC rfl) (fl_cons (oneC rfl) fl_nil))))) hI rfl hA rfl rfl rfl rfl fun w hI => ?_
    refine o_nil <| hN4 _ _ <| w_ret ?_
    obtain rfl := sJ H
    exact retc Tryd.underlying51 rfl sz51 rfl hI (j := 0) rfl hA Tryd.results34 rfl ⟨_, rfl, rfl, ⟨hx0.1, hx0.2.1, hx0.2.2⟩, hI.forget0⟩
  · obtain ⟨hc1, H⟩ := dF H hc1
    refine w_seq fun _ hN5 => w_reg <| stp hA (r_fd (k := 1) Tryd.underlying51 rfl sz4 hA rfl rfl) rfl fun a hA => 
      stp hA (r_ld1 (j := 1) [[.int .i64 x0.Code]] [[.int .i64 x0.Pos], [.bool x0.Outer], [.int .i64 x0.At]] Tryd.underlying4 rfl hI rfl hA rfl rfl) rfl fun a hA => 
      stp hA (r_not hA rfl) rfl fun a hA => 
      sta hA rfl rfl fun a hA => ?_
    refine o_nil <| hN5 _ _ <| w_cond hA rfl (fun hc2 => ?_) (fun hc2 => ?_)
    · have hc2 := nT hc2; have hc2 := ft hc2; have H := bF H hc2
      refine w_seq fun _ hN6 => w_reg <| stp hA (r_fd (k := 0) Tryd.underlying51 rfl sz3 hA rfl rfl) rfl fun a hA => 
        stp hA (r_ld1 (j := 1) [] [[.bool x0.Placed], [.int .i64 x0.Pos], [.bool x0.Outer], [.int .i64 x0.At]] Tryd.underlying3 rfl hI rfl hA rfl rfl) rfl fun a hA => 
        stm hA rfl rfl fun a hA => ?_
      obtain ⟨r1, hr1, H⟩ := bB H
      refine o_callp (u := .agg [[.int .i64 r1.Code], [.bool r1.Placed], [.int .i64 r1.Pos], [.bool r1.Outer], [.int .i64 r1.At]].flatten.toArray) cf10 hA rfl hI (sargassoref_Placed.c μ _ hI.agr x0.Code hx0.1 x1 hx1 r1 hr1) rfl fun a w hz1 hI hA => 
        o_st (j := 0) [] [[.int .i64 0], [.bool false], [.int .i64 0], [.bool false], [.int .i64 0]] [[.int .i64 r1.Code], [.bool r1.Placed], [.int .i64 r1.Pos], [.bool r1.Outer], [.int .i64 r1.At]] [] sz51 rfl rfl (fl_cons (oneC rfl) (fl_cons (oneC rfl) (fl_cons (oneC rfl) (fl_cons (oneC rfl) (fl_cons (oneC rfl) fl_nil))))) hI rfl hA rfl rfl rfl rfl fun w hI => ?_
      refine o_nil <| hN6 _ _ <| w_ret ?_
      obtain rfl := sJ H
      exact retc Tryd.underlying51 rfl sz51 rfl hI (j := 0) rfl hA Tryd.results34 rfl ⟨_, rfl, rfl, ⟨hz1.1, hz1.2.1, hz1.2.2⟩, hI.forget0⟩
    · have hc2 := nF hc2; have H := bT H hc2
      refine w_skip <| hN2 _ _ <| w_seq fun _ hN7 => w_reg <| stp hA (r_fd (k := 3) Tryd.underlying51 rfl sz4 hA rfl rfl) rfl fun a hA => 
        o_st (j := 1) [[.int .i64 x0.Code], [.bool x0.Placed], [.int .i64 x0.Pos]] [[.bool x0.Outer]] [[.bool true]] [[.int .i64 x0.At]] sz4 rfl rfl (fl_cons (oneC rfl) fl_nil) hI rfl hA rfl rfl rfl rfl fun w hI => ?_
      refine o_nil <| hN7 _ _ <| w_seq fun _ hN8 => w_reg <| stm hA rfl rfl fun a hA => 
        stp hA (r_fd (k := 4) Tryd.underlying51 rfl sz3 hA rfl rfl) rfl fun a hA => 
        o_st (j := 1) [[.int .i64 x0.Code], [.bool x0.Placed], [.int .i64 x0.Pos], [.bool true]] [[.int .i64 x0.At]] [[.int .i64 x1]] [] sz3 rfl rfl (fl_cons (oneC rfl) fl_nil) hI rfl hA rfl rfl rfl rfl fun w hI => ?_
      refine o_nil <| hN8 _ _ <| w_seq fun _ hN9 => w_reg <| stp hA (r_ldA (j := 1) [] [[.int .i64 x0.Code], [.bool x0.Placed], [.int .i64 x0.Pos], [.bool true], [.int .i64 x1]] [] Tryd.underlying51 rfl sz51 rfl hI rfl hA rfl rfl) rfl fun a hA => 
        o_st (j := 0) [] [[.int .i64 0], [.bool false], [.int .i64 0], [.bool false], [.int .i64 0]] [[.int .i64 x0.Code], [.bool x0.Placed], [.int .i64 x0.Pos], [.bool true], [.int .i64 x1]] [] sz51 rfl rfl (fl_cons (oneC rfl) (fl_cons (oneC rfl) (fl_cons (oneC rfl) (fl_cons (oneC rfl) (fl_cons (oneC rfl) fl_nil))))) hI rfl hA rfl rfl rfl rfl fun w hI => ?_
      refine o_nil <| hN9 _ _ <| w_ret ?_
      obtain rfl := sJ H
      exact retc Tryd.underlying51 rfl sz51 rfl hI (j := 0) rfl hA Tryd.results34 rfl ⟨_, rfl, rfl, ⟨hx0.1, hx0.2.1, hx1⟩, hI.forget0⟩
set_option maxRecDepth 20000 in
theorem sargassosee_Fault.c (μ : Store) (w0 : World) (hμ : Agr μ w0) (x0 : Er) (u0 : Value) (hx0 : ErS μ u0 x0) (hG : Gl μ) (r : sargassorefFault) (H : sargassosee_Fault.f x0 = some r) :
    Calls Tryd.prog 22 [u0].toArray w0 (fun e w' => ∃ v, e = .returned v ∧ v = .agg [[.int .i64 r.Code], [.bool r.Placed], [.int .i64 r.Pos], [.bool r.Outer], [.int .i64 r.At]].flatten.toArray ∧ sargassorefFaultW μ r ∧ Iv w0 [] μ μ [] w') := by
  refine enter Tryd.func22 rfl Tryd.ntmps22 rfl fun a hA => ?_
  have hI := Iv.start hμ
  have H := bI H
  refine w_seq fun _ hN1 => w_reg <| o_new [[.int .i64 0], [.bool false], [.int .i64 0], [.bool false], [.int .i64 0]] zr51 hI hA rfl fun g1 a w hA hI hg1 => ?_
  refine o_nil <| hN1 _ _ <| w_seq fun _ hN2 => w_seq fun _ hN3 => w_reg <| stm hA rfl rfl fun a hA => 
    stp hA (r_eqE erF hI.agr hx0 erv_nil (.inl ⟨.inr ⟨_, rfl⟩, Er.fitR⟩) hA rfl rfl) rfl fun a hA => ?_
  refine o_nil <| hN3 _ _ <| w_cond hA rfl (fun hc1 => ?_) (fun hc1 => ?_)
  · obtain ⟨hc1, H⟩ := dT H hc1
    refine w_seq fun _ hN4 => w_reg ?_
    obtain ⟨r1, hr1, H⟩ := bB H
    refine o_callp (u := .agg [[.int .i64 r1.Code], [.bool r1.Placed], [.int .i64 r1.Pos], [.bool r1.Outer], [.int .i64 r1.At]].flatten.toArray) cf23 hA rfl hI (sargassoref_None.c μ _ hI.agr  r1 hr1) rfl fun a w hz1 hI hA => 
      o_st (j := 0) [] [[.int .i64 0], [.bool false], [.int .i64 0], [.bool false], [.int .i64 0]] [[.int .i64 r1.Code], [.bool r1.Placed], [.int .i64 r1.Pos], [.bool r1.Outer], [.int .i64 r1.At]] [] sz51 rfl rfl (fl_cons (oneC rfl) (fl_cons (oneC rfl) (fl_cons (oneC rfl) (fl_cons (oneC rfl) (fl_cons (oneC rfl) fl_nil))))) hI rfl hA rfl rfl rfl rfl fun w hI => ?_
    refine o_nil <| hN4 _ _ <| w_ret ?_
    obtain rfl := sJ H
    exact retc Tryd.underlying51 rfl sz51 rfl hI (j := 0) rfl hA Tryd.results22 rfl ⟨_, rfl, rfl, ⟨hz1.1, hz1.2.1, hz1.2.2⟩, hI.forget0⟩
  · obtain ⟨hc1, H⟩ := dF H hc1
    refine w_skip <| hN2 _ _ <| w_seq fun _ hN5 => w_reg <| stm hA rfl rfl fun a hA => 
      stp hA (r_asP (by decide) Tryd.underlying74 zrA hx0 hA rfl) rfl fun a hA => 
      stm hA rfl rfl fun a hA => 
      stp hA (r_extr (vs := [aP 74 u0, .bool x0.isP]) hA rfl rfl) rfl fun a hA => 
      stp hA (r_extr (vs := [aP 74 u0, .bool x0.isP]) hA rfl rfl) rfl fun a hA => 
      sta hA rfl rfl fun a hA => 
      sta hA rfl rfl fun a hA => ?_
    refine o_nil <| hN5 _ _ <| w_seq fun _ hN6 => w_seq fun _ hN7 => w_reg <| stm hA rfl rfl fun a hA => 
      stp hA (r_not hA rfl) rfl fun a hA => ?_
    refine o_nil <| hN7 _ _ <| w_cond hA rfl (fun hc2 => ?_) (fun hc2 => ?_)
    · have hc20 := hc2; have hc2 := nT hc2; have hc2 := ft hc2; have H := bF H hc2; have hc2P : x0.isP = false := by simpa using hc20
      refine w_seq fun _ hN8 => w_reg <| stm hA rfl rfl fun a hA => ?_
      obtain ⟨r2, hr2, H⟩ := bB H
      refine o_callp (u := .int .i64 r2) cf33 hA rfl hI (sargassosee_sentinel.c μ _ hI.agr x0 u0 hx0 hG r2 hr2) rfl fun a w hz2 hI hA => ?_
      obtain ⟨r3, hr3, H⟩ := bB H
      refine o_callp (u := .agg [[.int .i64 r3.Code], [.bool r3.Placed], [.int .i64 r3.Pos], [.bool r3.Outer], [.int .i64 r3.At]].flatten.toArray) cf24 hA rfl hI (sargassoref_Bare.c μ _ hI.agr r2 hz2 r3 hr3) rfl fun a w hz3 hI hA => 
        o_st (j := 0) [] [[.int .i64 0], [.bool false], [.int .i64 0], [.bool false], [.int .i64 0]] [[.int .i64 r3.Code], [.bool r3.Placed], [.int .i64 r3.Pos], [.bool r3.Outer], [.int .i64 r3.At]] [] sz51 rfl rfl (fl_cons (oneC rfl) (fl_cons (oneC rfl) (fl_cons (oneC rfl) (fl_cons (oneC rfl) (fl_cons (oneC rfl) fl_nil))))) hI rfl hA rfl rfl rfl rfl fun w hI => ?_
      refine o_nil <| hN8 _ _ <| w_ret ?_
      obtain rfl := sJ H
      exact retc Tryd.underlying51 rfl sz51 rfl hI (j := 0) rfl hA Tryd.results22 rfl ⟨_, rfl, rfl, ⟨hz3.1, hz3.2.1, hz3.2.2⟩, hI.forget0⟩
    · have hc20 := hc2; have hc2 := nF hc2; have H := bT H hc2; have hc2P : x0.isP = true := by simpa using hc20
      refine w_skip <| hN6 _ _ <| w_seq fun _ hN9 => ?_
      obtain ⟨g2, v1, hv1, hat1, hw1, hE1⟩ := ErV.isP hx0 hc2P
      rw [hv1] at hA
      obtain ⟨c1, hz4, Hk1⟩ := bB H
      refine w_cut (fun a w => Fr a 75 [(2, .pointer (some ⟨g1, 0, none⟩)), (3, .pointer (some ⟨g2, 0, none⟩)), (28, .bool c1)] ∧ Iv w0 [] μ μ [cel g1 [[.int .i64 0], [.bool false], [.int .i64 0], [.bool false], [.int .i64 0]] 51] w) ?_ ?_
      · have H := bI hz4
        refine w_reg <| stm hA rfl rfl fun a hA => 
          stp hA (r_ptrnil_eql Tryd.underlying74 hA rfl rfl) rfl fun a hA => 
          stm hA rfl rfl fun a hA => 
          o_yes hA rfl rfl rfl <| 
          stm hA rfl rfl fun a hA => 
          o_yes hA rfl rfl rfl <| 
          stp hA (r_nilc hA rfl) rfl fun a hA => 
          o_yes hA rfl rfl rfl <| 
          stp hA (r_fd (k := 0 + 1) Tryd.underlying76 rfl sz47 hA rfl rfl) rfl fun a hA => 
          o_yes hA rfl rfl rfl <| 
          stp hA (r_ldm1 [[.int .i64 x0.pos]] [] Tryd.underlying47 rfl hI.agr hat1 hA rfl rfl) rfl fun a hA => 
          o_yes hA rfl rfl rfl <| 
          stp hA (r_eqE erF hI.agr hE1 erv_nil (.inl ⟨.inr ⟨_, rfl⟩, Er.fitR⟩) hA rfl rfl) rfl fun a hA => 
          stp hA (r_pick_f hA rfl rfl rfl) rfl fun a hA => ?_
        refine o_nil ?_
        cases sJ H
        exact ⟨hA.sub ⟨rfl, rfl, rfl, trivial⟩, hI⟩
      · rintro a w ⟨hA, hI⟩
        have H := Hk1
        refine w_cond hA rfl (fun hc3 => ?_) (fun hc3 => ?_)
        · have H := bT H hc3
          refine w_seq fun _ hN10 => w_reg ?_
          obtain ⟨r4, hr4, H⟩ := bB H
          refine o_callp (u := .agg [[.int .i64 r4.Code], [.bool r4.Placed], [.int .i64 r4.Pos], [.bool r4.Outer], [.int .i64 r4.At]].flatten.toArray) cf24 hA rfl hI (sargassoref_Bare.c μ _ hI.agr (-1) (in_lit .i64 (-1) rfl) r4 hr4) rfl fun a w hz5 hI hA => 
            o_st (j := 0) [] [[.int .i64 0], [.bool false], [.int .i64 0], [.bool false], [.int .i64 0]] [[.int .i64 r4.Code], [.bool r4.Placed], [.int .i64 r4.Pos], [.bool r4.Outer], [.int .i64 r4.At]] [] sz51 rfl rfl (fl_cons (oneC rfl) (fl_cons (oneC rfl) (fl_cons (oneC rfl) (fl_cons (oneC rfl) (fl_cons (oneC rfl) fl_nil))))) hI rfl hA rfl rfl rfl rfl fun w hI => ?_
          refine o_nil <| hN10 _ _ <| w_ret ?_
          obtain rfl := sJ H
          exact retc Tryd.underlying51 rfl sz51 rfl hI (j := 0) rfl hA Tryd.results22 rfl ⟨_, rfl, rfl, ⟨hz5.1, hz5.2.1, hz5.2.2⟩, hI.forget0⟩
        · have hc3 := ft hc3; have H := bF H hc3
          refine w_skip <| hN9 _ _ <| w_seq fun _ hN11 => w_reg <| stm hA rfl rfl fun a hA => 
            stp hA (r_nilc hA rfl) rfl fun a hA => 
            stp hA (r_fd (k := 0 + 1) Tryd.underlying76 rfl sz47 hA rfl rfl) rfl fun a hA => 
            stp hA (r_ldm1 [[.int .i64 x0.pos]] [] Tryd.underlying47 rfl hI.agr hat1 hA rfl rfl) rfl fun a hA => 
            stp hA (r_asP (by decide) Tryd.underlying74 zrA hE1 hA rfl) rfl fun a hA => 
            stm hA rfl rfl fun a hA => 
            stp hA (r_extr (vs := [aP 74 v1, .bool x0.err.isP]) hA rfl rfl) rfl fun a hA => 
            stp hA (r_extr (vs := [aP 74 v1, .bool x0.err.isP]) hA rfl rfl) rfl fun a hA => 
            sta hA rfl rfl fun a hA => 
            sta hA rfl rfl fun a hA => ?_
          refine o_nil <| hN11 _ _ <| w_seq fun _ hN12 => w_seq fun _ hN13 => w_reg <| stm hA rfl rfl fun a hA => 
            stp hA (r_not hA rfl) rfl fun a hA => ?_
          refine o_nil <| hN13 _ _ <| w_cond hA rfl (fun hc4 => ?_) (fun hc4 => ?_)
          · have hc40 := hc4; have hc4 := nT hc4; have hc4 := ft hc4; have H := bF H hc4; have hc4P : x0.err.isP = false := by simpa using hc40
            refine w_seq fun _ hN14 => ?_
            refine w_anyS [] mo (fun w (h : Iv w0 [] μ μ [cel g1 [[.int .i64 0], [.bool false], [.int .i64 0], [.bool false], [.int .i64 0]] 51] w) => (h.sl [] rfl : Iv w0 [] μ μ [] w)) hI fun w hI => ?_
            refine gE 0 hA rfl (.inr (hI.sl [] rfl)) (fun _ => r_mv hA rfl) fun a hA => ?_
            refine gE 1 hA rfl (.inr (hI.sl [] rfl)) (fun _ => r_nilc hA rfl) fun a hA => ?_
            refine gE 2 hA rfl (.inr (hI.sl [] rfl)) (fun _ => r_fd (k := 0 + 1) Tryd.underlying76 rfl sz47 hA rfl rfl) fun a hA => ?_
            refine gT 3 hA rfl (hI.sl [] rfl) (fun w hI => r_ldm1 [[.int .i64 x0.pos]] [] Tryd.underlying47 rfl hI.agr hat1 hA rfl rfl) fun a hA => ?_
            refine gE 5 hA rfl (.inr (hI.sl [] rfl)) (fun _ => r_mv hA rfl) fun a hA => ?_
            refine gE 6 hA rfl (.inr (hI.sl [] rfl)) (fun _ => r_nilc hA rfl) fun a hA => ?_
            refine gE 7 hA rfl (.inr (hI.sl [] rfl)) (fun _ => r_fd (k := 0) Tryd.underlying76 rfl sz3 hA rfl rfl) fun a hA => ?_
            refine gT 8 hA rfl (hI.sl [] rfl) (fun w hI => r_ldm1 [] [[v1]] Tryd.underlying3 rfl hI.agr hat1 hA rfl rfl) fun a hA => ?_
            refine gF 4 rfl ?_
            obtain ⟨r5, hr5, H⟩ := bB H
            refine o_callp (u := .int .i64 r5) cf33 hA rfl hI (sargassosee_sentinel.c μ _ hI.agr x0.err v1 hE1 hG r5 hr5) rfl fun a w hz6 hI hA => ?_
            refine o_nil <| ⟨(.inr (hI.sl [] rfl)), ?_⟩
            refine gF 9 rfl ?_
            obtain ⟨r6, hr6, H⟩ := bB H
            refine o_callp (u := .agg [[.int .i64 r6.Code], [.bool r6.Placed], [.int .i64 r6.Pos], [.bool r6.Outer], [.int .i64 r6.At]].flatten.toArray) cf10 hA rfl hI (sargassoref_Placed.c μ _ hI.agr r5 hz6 x0.pos hw1 r6 hr6) rfl fun a w hz7 hI hA => ?_
            refine o_nil <| ⟨(.inr (hI.sl [] rfl)), ?_⟩
            refine gF 10 rfl ?_
            refine o_st (j := 0) [] [[.int .i64 0], [.bool false], [.int .i64 0], [.bool false], [.int .i64 0]] [[.int .i64 r6.Code], [.bool r6.Placed], [.int .i64 r6.Pos], [.bool r6.Outer], [.int .i64 r6.At]] [] sz51 rfl rfl (fl_cons (oneC rfl) (fl_cons (oneC rfl) (fl_cons (oneC rfl) (fl_cons (oneC rfl) (fl_cons (oneC rfl) fl_nil))))) hI rfl hA rfl rfl rfl rfl fun w hI => ?_
            refine o_nil <| ⟨(.inr (hI.sl [] rfl)), ?_⟩
            refine gN <| hN14 _ _ <| w_ret ?_
            obtain rfl := sJ H
            exact retc Tryd.underlying51 rfl sz51 rfl hI (j := 0) rfl hA Tryd.results22 rfl ⟨_, rfl, rfl, ⟨hz7.1, hz7.2.1, hz7.2.2⟩, hI.forget0⟩
          · have hc40 := hc4; have hc4 := nF hc4; have H := bT H hc4; have hc4P : x0.err.isP = true := by simpa using hc40
            refine w_skip <| hN12 _ _ <| w_seq fun _ hN15 => ?_
            obtain ⟨g3, v2, hv2, hat2, hw2, hE2⟩ := ErV.isP hE1 hc4P
            rw [hv2] at hA
            obtain ⟨c2, hz8, Hk2⟩ := bB H
            refine w_cut (fun a w => Fr a 75 [(2, .pointer (some ⟨g1, 0, none⟩)), (3, .pointer (some ⟨g2, 0, none⟩)), (5, .pointer (some ⟨g3, 0, none⟩)), (58, .bool c2)] ∧ Iv w0 [] μ μ [cel g1 [[.int .i64 0], [.bool false], [.int .i64 0], [.bool false], [.int .i64 0]] 51] w) ?_ ?_
            · have H := bI hz8
              refine w_reg <| stm hA rfl rfl fun a hA => 
                stp hA (r_ptrnil_eql Tryd.underlying74 hA rfl rfl) rfl fun a hA => 
                stm hA rfl rfl fun a hA => 
                o_yes hA rfl rfl rfl <| 
                stm hA rfl rfl fun a hA => 
                o_yes hA rfl rfl rfl <| 
                stp hA (r_nilc hA rfl) rfl fun a hA => 
                o_yes hA rfl rfl rfl <| 
                stp hA (r_fd (k := 0 + 1) Tryd.underlying76 rfl sz47 hA rfl rfl) rfl fun a hA => 
                o_yes hA rfl rfl rfl <| 
                stp hA (r_ldm1 [[.int .i64 x0.err.pos]] [] Tryd.underlying47 rfl hI.agr hat2 hA rfl rfl) rfl fun a hA => 
                o_yes hA rfl rfl rfl <| 
                stp hA (r_eqE erF hI.agr hE2 erv_nil (.inl ⟨.inr ⟨_, rfl⟩, Er.fitR⟩) hA rfl rfl) rfl fun a hA => 
                stp hA (r_pick_f hA rfl rfl rfl) rfl fun a hA => ?_
              refine o_nil ?_
              cases sJ H
              exact ⟨hA.sub ⟨rfl, rfl, rfl, rfl, trivial⟩, hI⟩
            · rintro a w ⟨hA, hI⟩
              have H := Hk2
              refine w_cond hA rfl (fun hc5 => ?_) (fun hc5 => ?_)
              · have H := bT H hc5
                refine w_seq fun _ hN16 => w_reg ?_
                obtain ⟨r7, hr7, H⟩ := bB H
                refine o_callp (u := .agg [[.int .i64 r7.Code], [.bool r7.Placed], [.int .i64 r7.Pos], [.bool r7.Outer], [.int .i64 r7.At]].flatten.toArray) cf24 hA rfl hI (sargassoref_Bare.c μ _ hI.agr (-1) (in_lit .i64 (-1) rfl) r7 hr7) rfl fun a w hz9 hI hA => 
                  o_st (j := 0) [] [[.int .i64 0], [.bool false], [.int .i64 0], [.bool false], [.int .i64 0]] [[.int .i64 r7.Code], [.bool r7.Placed], [.int .i64 r7.Pos], [.bool r7.Outer], [.int .i64 r7.At]] [] sz51 rfl rfl (fl_cons (oneC rfl) (fl_cons (oneC rfl) (fl_cons (oneC rfl) (fl_cons (oneC rfl) (fl_cons (oneC rfl) fl_nil))))) hI rfl hA rfl rfl rfl rfl fun w hI => ?_
                refine o_nil <| hN16 _ _ <| w_ret ?_
                obtain rfl := sJ H
                exact retc Tryd.underlying51 rfl sz51 rfl hI (j := 0) rfl hA Tryd.results22 rfl ⟨_, rfl, rfl, ⟨hz9.1, hz9.2.1, hz9.2.2⟩, hI.forget0⟩
              · have hc5 := ft hc5; have H := bF H hc5
                refine w_skip <| hN15 _ _ <| w_seq fun _ hN17 => ?_
                refine w_anyS [] mo (fun w (h : Iv w0 [] μ μ [cel g1 [[.int .i64 0], [.bool false], [.int .i64 0], [.bool false], [.int .i64 0]] 51] w) => (h.sl [] rfl : Iv w0 [] μ μ [] w)) hI fun w hI => ?_
                refine gE 0 hA rfl (.inr (hI.sl [] rfl)) (fun _ => r_mv hA rfl) fun a hA => ?_
                refine gE 1 hA rfl (.inr (hI.sl [] rfl)) (fun _ => r_nilc hA rfl) fun a hA => ?_
                refine gE 2 hA rfl (.inr (hI.sl [] rfl)) (fun _ => r_fd (k := 0 + 1) Tryd.underlying76 rfl sz47 hA rfl rfl) fun a hA => ?_
                refine gT 3 hA rfl (hI.sl [] rfl) (fun w hI => r_ldm1 [[.int .i64 x0.err.pos]] [] Tryd.underlying47 rfl hI.agr hat2 hA rfl rfl) fun a hA => ?_
                refine gE 5 hA rfl (.inr (hI.sl [] rfl)) (fun _ => r_mv hA rfl) fun a hA => ?_
                refine gE 6 hA rfl (.inr (hI.sl [] rfl)) (fun _ => r_nilc hA rfl) fun a hA => ?_
                refine gE 7 hA rfl (.inr (hI.sl [] rfl)) (fun _ => r_fd (k := 0) Tryd.underlying76 rfl sz3 hA rfl rfl) fun a hA => ?_
                refine gT 8 hA rfl (hI.sl [] rfl) (fun w hI => r_ldm1 [] [[v2]] Tryd.underlying3 rfl hI.agr hat2 hA rfl rfl) fun a hA => ?_
                refine gE 10 hA rfl (.inr (hI.sl [] rfl)) (fun _ => r_mv hA rfl) fun a hA => ?_
                refine gE 11 hA rfl (.inr (hI.sl [] rfl)) (fun _ => r_nilc hA rfl) fun a hA => ?_
                refine gE 12 hA rfl (.inr (hI.sl [] rfl)) (fun _ => r_fd (k := 0) Tryd.underlying76 rfl sz3 hA rfl rfl) fun a hA => ?_
                refine gT 13 hA rfl (hI.sl [] rfl) (fun w hI => r_ldm1 [] [[v1]] Tryd.underlying3 rfl hI.agr hat1 hA rfl rfl) fun a hA => ?_
                refine gF 4 rfl ?_
                obtain ⟨r8, hr8, H⟩ := bB H
                refine o_callp (u := .int .i64 r8) cf33 hA rfl hI (sargassosee_sentinel.c μ _ hI.agr x0.err.err v2 hE2 hG r8 hr8) rfl fun a w hz10 hI hA => ?_
                refine o_nil <| ⟨(.inr (hI.sl [] rfl)), ?_⟩
                refine gF 9 rfl ?_
                obtain ⟨r9, hr9, H⟩ := bB H
                refine o_callp (u := .agg [[.int .i64 r9.Code], [.bool r9.Placed], [.int .i64 r9.Pos], [.bool r9.Outer], [.int .i64 r9.At]].flatten.toArray) cf10 hA rfl hI (sargassoref_Placed.c μ _ hI.agr r8 hz10 x0.err.pos hw2 r9 hr9) rfl fun a w hz11 hI hA => ?_
                refine o_nil <| ⟨(.inr (hI.sl [] rfl)), ?_⟩
                refine gF 14 rfl ?_
                obtain ⟨r10, hr10, H⟩ := bB H
                refine o_callp (u := .agg [[.int .i64 r10.Code], [.bool r10.Placed], [.int .i64 r10.Pos], [.bool r10.Outer], [.int .i64 r10.At]].flatten.toArray) cf34 hA rfl hI (sargassoref_Around.c μ _ hI.agr r9 ⟨hz11.1, hz11.2.1, hz11.2.2⟩ x0.pos hw1 r10 hr10) rfl fun a w hz12 hI hA => ?_
                refine o_nil <| ⟨(.inr (hI.sl [] rfl)), ?_⟩
                refine gF 15 rfl ?_
                refine o_st (j := 0) [] [[.int .i64 0], [.bool false], [.int .i64 0], [.bool false], [.int .i64 0]] [[.int .i64 r10.Code], [.bool r10.Placed], [.int .i64 r10.Pos], [.bool r10.Outer], [.int .i64 r10.At]] [] sz51 rfl rfl (fl_cons (oneC rfl) (fl_cons (oneC rfl) (fl_cons (oneC rfl) (fl_cons (oneC rfl) (fl_cons (oneC rfl) fl_nil))))) hI rfl hA rfl rfl rfl rfl fun w hI => ?_
                refine o_nil <| ⟨(.inr (hI.sl [] rfl)), ?_⟩
                refine gN <| hN17 _ _ <| w_ret ?_
                obtain rfl := sJ H
                exact retc Tryd.underlying51 rfl sz51 rfl hI (j := 0) rfl hA Tryd.results22 rfl ⟨_, rfl, rfl, ⟨hz12.1, hz12.2.1, hz12.2.2⟩, hI.forget0⟩
set_option maxRecDepth 20000 in
theorem sargassosee_Same.c (μ : Store) (w0 : World) (hμ : Agr μ w0) (x0 : Er) (u0 : Value) (hx0 : ErS μ u0 x0) (x1 : sargassorefFault) (hx1 : sargassorefFaultW μ x1) (hG : Gl μ) (r : Bool) (H : sargassosee_Same.f x0 x1 = some r) :
    Calls Tryd.prog 9 [u0, .agg [[.int .i64 x1.Code], [.bool x1.Placed], [.int .i64 x1.Pos], [.bool x1.Outer], [.int .i64 x1.At]].flatten.toArray].toArray w0 (fun e w' => ∃ v, e = .returned v ∧ v = .bool r ∧ True ∧ Iv w0 [] μ μ [] w') := by
  refine enter Tryd.func9 rfl Tryd.ntmps9 rfl fun a hA => ?_
  have hI := Iv.start hμ
  have H := bI H
  refine w_seq fun _ hN1 => w_reg <| o_box [[.int .i64 x1.Code], [.bool x1.Placed], [.int .i64 x1.Pos], [.bool x1.Outer], [.int .i64 x1.At]] hI hA rfl rfl rfl fun g1 a w hA hI hg1 => 
    sta hA rfl rfl fun a hA => ?_
  refine o_nil <| hN1 _ _ <| w_seq fun _ hN2 => ?_
  refine w_any [] mo hI fun w hI => ?_
  refine gE 0 hA rfl (.inr hI) (fun _ => r_mv hA rfl) fun a hA => ?_
  refine gT 2 hA rfl hI (fun w hI => r_ldA (j := 0) [] [[.int .i64 x1.Code], [.bool x1.Placed], [.int .i64 x1.Pos], [.bool x1.Outer], [.int .i64 x1.At]] [] Tryd.underlying51 rfl sz51 rfl hI rfl hA rfl rfl) fun a hA => ?_
  refine gF 1 rfl ?_
  obtain ⟨r1, hr1, H⟩ := bB H
  refine o_callp (u := .agg [[.int .i64 r1.Code], [.bool r1.Placed], [.int .i64 r1.Pos], [.bool r1.Outer], [.int .i64 r1.At]].flatten.toArray) cf22 hA rfl hI (sargassosee_Fault.c μ _ hI.agr x0 u0 hx0 hG r1 hr1) rfl fun a w hz1 hI hA => ?_
  refine o_nil <| ⟨(.inr hI), ?_⟩
  refine gF 3 rfl ?_
  obtain ⟨r2, hr2, H⟩ := bB H
  refine o_callp (u := .bool r2) cf21 hA rfl hI (sargassoref_SameFault.c μ _ hI.agr r1 ⟨hz1.1, hz1.2.1, hz1.2.2⟩ x1 ⟨hx1.1, hx1.2.1, hx1.2.2⟩ r2 hr2) rfl fun a w hz2 hI hA => ?_
  refine o_nil <| ⟨(.inr hI), ?_⟩
  refine gE 4 hA rfl (.inr hI) (fun _ => r_as hA rfl) fun a hA => ?_
  refine gN <| hN2 _ _ <| w_ret ?_
  obtain rfl := sJ H
  exact ret1 hA Tryd.results9 rfl ⟨_, rfl, rfl, trivial, hI.forget0⟩
set_option maxRecDepth 20000 in
theorem sargassosee_Is.c (μ : Store) (w0 : World) (hμ : Agr μ w0) (x0 : Er) (u0 : Value) (hx0 : ErS μ u0 x0) (x1 : Int) (hx1 : InR .i64 x1) (hG : Gl μ) (r : Bool) (H : sargassosee_Is.f x0 x1 = some r) :
    Calls Tryd.prog 11 [u0, .int .i64 x1].toArray w0 (fun e w' => ∃ v, e = .returned v ∧ v = .bool r ∧ True ∧ Iv w0 [] μ μ [] w') := by
  refine enter Tryd.func11 rfl Tryd.ntmps11 rfl fun a hA => ?_
  have hI := Iv.start hμ
  have H := bI H
  refine w_seq fun _ hN1 => w_reg <| sta hA rfl rfl fun a hA => ?_
  refine o_nil <| hN1 _ _ <| w_seq fun _ hN2 => w_reg <| stm hA rfl rfl fun a hA => 
    stm hA rfl rfl fun a hA => ?_
  obtain ⟨r1, hr1, H⟩ := bB H
  refine o_callp (u := .agg [[.int .i64 r1.Code], [.bool r1.Placed], [.int .i64 r1.Pos], [.bool r1.Outer], [.int .i64 r1.At]].flatten.toArray) cf24 hA rfl hI (sargassoref_Bare.c μ _ hI.agr x1 hx1 r1 hr1) rfl fun a w hz1 hI hA => ?_
  obtain ⟨r2, hr2, H⟩ := bB H
  refine o_callp (u := .bool r2) cf9 hA rfl hI (sargassosee_Same.c μ _ hI.agr x0 u0 hx0 r1 ⟨hz1.1, hz1.2.1, hz1.2.2⟩ hG r2 hr2) rfl fun a w hz2 hI hA => 
    sta hA rfl rfl fun a hA => ?_
  refine o_nil <| hN2 _ _ <| w_ret ?_
  obtain rfl := sJ H
  exact ret1 hA Tryd.results11 rfl ⟨_, rfl, rfl, trivial, hI.forget0⟩
end Go.Proofs.YtkfpmcplfodikaaDoor.T
namespace Go.Proofs.YtkfpmcplfodikaaDoor.T
open Go Go.Proofs Go.Proofs.YtkfpmcplfodikaaDoor.K
set_option linter.unusedVariables false
set_option linter.unusedSimpArgs false
def bytes_Clone.f (x0 : List Int) : Option (List Int) := if x0.length ≤ 140737488355328 then some x0 else none
noncomputable def compact_number.s0 (x2 : Int) : ((List Int) × Int × Int) → Option (((List Int) × Int × Int) ⊕ ((List Int) × Int)) := fun (s1, s2, s3) => (if s3 < x2 then (if s1.length + 1 ≤ 140737488355328 then some (.inl (s1 ++ ([IntKind.u8.wrap s2] : List Int), sR .u64 s2 8, IntKind.i64.wrap (s3 + 1))) else none) else some (.inr (s1, s2)))
noncomputable def compact_number.f (x0 : List Int) (x1 : Int) (x2 : Int) : Option (List Int) := ((loopO (compact_number.s0 x2) (x0, x1, 0)).bind fun (c1, c2) => some c1)
noncomputable def compact_Four.f (x0 : List Int) (x1 : Int) : Option (List Int) := ((bytes_Clone.f x0).bind fun r1 => ((compact_number.f r1 (IntKind.u64.wrap x1) 4).bind fun r2 => some r2))
noncomputable def compact_Len.f (x0 : Int) : Option Int := (if x0 < 253 then some 1 else (if x0 < 65536 then some 3 else (if x0 < 4294967296 then some 5 else some 9)))
noncomputable def compact_Put.f (x0 : List Int) (x1 : Int) : Option (List Int) := ((bytes_Clone.f x0).bind fun r1 => ((compact_Len.f x1).bind fun r2 => (if r2 = 1 then (if r1.length + 1 ≤ 140737488355328 then some (r1 ++ ([IntKind.u8.wrap x1] : List Int)) else none) else (if r2 = 3 then (if r1.length + 1 ≤ 140737488355328 then ((compact_number.f (r1 ++ ([253] : List Int)) x1 2).bind fun r3 => some r3) else none) else (if r2 = 5 then (if r1.length + 1 ≤ 140737488355328 then ((compact_number.f (r1 ++ ([254] : List Int)) x1 4).bind fun r4 => some r4) else none) else (if r1.length + 1 ≤ 140737488355328 then ((compact_number.f (r1 ++ ([255] : List Int)) x1 8).bind fun r5 => some r5) else none))))))
noncomputable def compact_Eight.f (x0 : List Int) (x1 : Int) : Option (List Int) := ((bytes_Clone.f x0).bind fun r1 => ((compact_number.f r1 x1 8).bind fun r2 => some r2))
noncomputable def compact_Sum.s0 (x0 : List Int) : (Int × Int) → Option ((Int × Int) ⊕ (Int × Bool)) := fun (s1, s2) => (if s2 < (x0.length : Int) then (if 0 ≤ s2 ∧ s2 < (x0.length : Int) then (if (IntKind.u64.wrap (2100000000000000 - s1)) < (x0.getD s2.toNat 0) then some (.inr (0, false)) else some (.inl (IntKind.u64.wrap (s1 + (x0.getD s2.toNat 0)), IntKind.i64.wrap (s2 + 1)))) else none) else some (.inr (s1, true)))
noncomputable def compact_Sum.f (x0 : List Int) : Option (Int × Bool) := loopO (compact_Sum.s0 x0) (0, 0)
noncomputable def sargassoref1_little.s0 (x1 : Int) (x2 : Int) : ((List Int) × Int) → Option (((List Int) × Int) ⊕ (List Int)) := fun (s1, s2) => (if s2 < x2 then (if 0 ≤ (IntKind.u64.wrap (IntKind.i64.wrap (8 * s2))) then (if s1.length + 1 ≤ 140737488355328 then some (.inl (s1 ++ ([IntKind.u8.wrap (sR .u64 x1 (IntKind.u64.wrap (IntKind.i64.wrap (8 * s2))))] : List Int), IntKind.i64.wrap (s2 + 1))) else none) else none) else some (.inr s1))
noncomputable def sargassoref1_little.f (x0 : List Int) (x1 : Int) (x2 : Int) : Option (List Int) := ((loopO (sargassoref1_little.s0 x1 x2) (x0, 0)).bind fun c1 => some c1)
noncomputable def sargassoref1_Four.f (x0 : List Int) (x1 : Int) : Option (List Int) := ((sargassoref1_little.f x0 (IntKind.u64.wrap x1) 4).bind fun r1 => some r1)
end Go.Proofs.YtkfpmcplfodikaaDoor.T
namespace Go.Proofs.YtkfpmcplfodikaaDoor.T
open Go Go.Proofs Go.Proofs.YtkfpmcplfodikaaDoor.K
set_option linter.unusedVariables false
set_option linter.unusedSimpArgs false
set_option maxRecDepth 20000 in
theorem bytes_Clone.c (μ : Store) (w0 : World) (hμ : Agr μ w0) (x0 : List Int) (u0 : Value) (hx0 : Slc (RI .u8) 1 μ u0 x0) (r : List Int) (H : bytes_Clone.f x0 = some r) :
    Calls Tryd.prog 56 [u0].toArray w0 (fun e w' => ∃ v, e = .returned v ∧ ∃ (v0 : Value) (c0 : List Value), v = v0 ∧ Els (RI .u8) 1 r c0 ∧ Iv w0 [] μ μ [row 5 1 v0 r.length c0] w') := by
  obtain ⟨hb, H⟩ := guard_some H
  obtain rfl := sI H
  obtain ⟨cs, hE, A, cp, rfl, h2, h3, h4, h5⟩ := hx0
  refine enter Tryd.func56 rfl Tryd.ntmps56 rfl fun a hA => ?_
  have hI := Iv.start hμ
  refine w_seq fun _ hN1 => w_reg (stp hA (r_as hA rfl) rfl fun a hA => o_nil (hN1 _ _ ?_))
  refine w_seq fun _ hN2 => w_seq fun _ hN3 => w_reg (stp hA (r_mv hA rfl) rfl fun a hA => stp hA (r_eqnil Tryd.underlying40 hA rfl rfl) rfl fun a hA => o_nil (hN3 _ _ ?_))
  refine w_cond hA rfl (fun hc => ?_) (fun hc => ?_)
  · have hx : x0 = [] := List.eq_nil_of_length_eq_zero (by
      rcases Nat.eq_zero_or_pos x0.length with h | h
      · exact h
      · rw [h4 (by omega)] at hc; cases hc)
    subst hx
    cases hE
    refine w_seq fun _ hN4 => w_reg (stp hA (r_as hA rfl) rfl fun a hA => o_nil (hN4 _ _ ?_))
    refine w_ret ?_
    have hI := hI.nilRow 5 1
    exact ret1 hA Tryd.results56 rfl ⟨_, rfl, .slice none 0 0, [], rfl, .nil, hI⟩
  · refine w_skip (hN2 _ _ ?_)
    refine w_seq fun _ hN5 => w_reg ?_
    refine o_bsl [] te5 zr5 Tryd.underlying40 hI hA rfl rfl rfl rfl (by kernel_rfl) rfl fun g a w hA hI => ?_
    refine stp hA (r_mv hA rfl) rfl fun a hA => ?_
    refine o_appL (xs := ([] : List Int)) (ys := x0) (j := 0) te5 Tryd.underlying40 hI rfl hA rfl rfl (src_sl hI.agr ⟨A, cp, rfl, h2, h3, h4, h5⟩ hE.len) hE.len (hE.ones (one_RI _)) (by simp only [List.length_nil, maxLen]; omega) (by simp only [List.length_nil]; omega) rfl fun v a w hA hI => ?_
    refine stp hA (r_as hA rfl) rfl fun a hA => o_nil (hN5 _ _ (w_ret ?_))
    exact ret1 hA Tryd.results56 rfl ⟨_, rfl, v, cs, rfl, hE, hI⟩
set_option maxRecDepth 20000 in
theorem compact_number.c (μ : Store) (w0 : World) (hμ : Agr μ w0) (x0 : List Int) (u0 : Value) (k0 : List Value) (hx0 : Els (RI .u8) 1 x0 k0) (ho0 : RowOK μ w0 5 1 u0 x0.length k0) (x1 : Int) (hx1 : InR .u64 x1) (x2 : Int) (hx2 : InR .i64 x2) (r : List Int) (H : compact_number.f x0 x1 x2 = some r) :
    Calls Tryd.prog 55 [u0, .int .u64 x1, .int .i64 x2].toArray w0 (fun e w' => ∃ v, e = .returned v ∧ ∃ (v0 : Value) (c0 : List Value), v = v0 ∧ Els (RI .u8) 1 r c0 ∧ Iv w0 (row 5 1 u0 x0.length k0).foot μ μ [row 5 1 v0 r.length c0] w') := by
  refine enter Tryd.func55 rfl Tryd.ntmps55 rfl fun a hA => ?_
  have hI := ho0.start hμ
  have H := bI H
  refine w_seq fun _ hN1 => w_reg <| sta hA rfl rfl fun a hA => ?_
  refine o_nil <| hN1 _ _ ?_
  obtain ⟨⟨c1, c2⟩, hz1, Hk1⟩ := bB H
  refine w_cut (fun a w => ∃ (vvc1 : Value) (ccc1 : List Value), Els (RI .u8) 1 c1 ccc1 ∧ InR .u64 c2 ∧ Fr a 19 [(0, vvc1), (1, .int .u64 c2), (6, (.slice none 0 0))] ∧ Iv w0 (row 5 1 u0 x0.length k0).foot μ μ [row 5 1 vvc1 c1.length ccc1] w) ?_ ?_
  · have H := bI hz1
    refine w_seq fun _ hN2 => w_reg <| stm hA rfl rfl fun a hA => 
      stm hA rfl rfl fun a hA => ?_
    refine o_nil <| hN2 _ _ <| w_block ?_
    obtain ⟨z1, hz2, Hk2⟩ := bind_some H
    obtain ⟨n1, hn1⟩ := loopO_some hz2
    refine w_loop (fun n a w => ∃ (s1 : List Int) (s2 : Int) (s3 : Int) (vvs1 : Value) (ccs1 : List Value), loopN (compact_number.s0 x2) n (s1, s2, s3) = some z1 ∧ Els (RI .u8) 1 s1 ccs1 ∧ InR .u64 s2 ∧ InR .i64 s3 ∧ Fr a 19 [(0, vvs1), (1, .int .u64 s2), (6, (.slice none 0 0)), (7, .int .i64 x2), (8, .int .i64 s3)] ∧ Iv w0 (row 5 1 u0 x0.length k0).foot μ μ [row 5 1 vvs1 s1.length ccs1] w) n1 ⟨x0, x1, 0, u0, k0, hn1, hx0, hx1, (in_lit .i64 0 rfl), hA.sub ⟨rfl, rfl, rfl, rfl, rfl, trivial⟩, hI⟩ ?_
    clear hA hI
    rintro n a w ⟨s1, s2, s3, vvs1, ccs1, hn1, ws1, ws2, ws3, hA, hI⟩
    obtain ⟨m1, rfl, H⟩ := loopN_bind hn1
    clear hn1
    refine w_seq fun _ hN3 => w_reg <| stp hA (r_lss hA rfl rfl) rfl fun a hA => ?_
    refine o_nil <| hN3 _ _ <| w_seq fun _ hN4 => w_cond hA rfl (fun hc1 => ?_) (fun hc1 => ?_)
    · obtain ⟨hc1, H⟩ := dT H hc1
      refine w_skip <| hN4 _ _ <| w_seq fun _ hN5 => w_block <| w_seq fun _ hN6 => w_reg <| stm hA rfl rfl fun a hA => 
        stm hA rfl rfl fun a hA => 
        stp hA (r_conv Tryd.underlying34 Tryd.underlying5 hA rfl) rfl fun a hA => ?_
      have hE1 : Els (RI .u8) 1 ([IntKind.u8.wrap s2] : List Int) _ := (Els.cons (c := [[.int .u8 (IntKind.u8.wrap s2)]].flatten) ⟨rfl, (wrap_in _ _)⟩ rfl Els.nil)
      refine o_bsl ([[.int .u8 (IntKind.u8.wrap s2)]].flatten ++ ([])) te5 zr5 Tryd.underlying40 hI hA rfl rfl rfl rfl (by kernel_rfl) rfl fun g1 a w hA hI => ?_
      generalize hcs : ([[.int .u8 (IntKind.u8.wrap s2)]].flatten ++ ([]) : List Value) = cs1 at hE1 hI
      clear hcs
      obtain ⟨hb1, H⟩ := bG H
      have hE3 := ws1.app hE1
      refine o_appG (xs := (s1 : List Int)) (ys := (([IntKind.u8.wrap s2] : List Int) : List Int)) (M := 140737488355328) 1 te5 Tryd.underlying40 hI rfl hA rfl rfl (src_row hI (j := 0) rfl) hE1.len (hE1.ones (one_RI _)) hb1 rfl fun v1 a w hA hI => 
        sta hA rfl rfl fun a hA => ?_
      refine o_nil <| hN6 _ _ <| w_reg <| stm hA rfl rfl fun a hA => 
        stp hA (r_shr hA rfl rfl (by decide)) rfl fun a hA => 
        sta hA rfl rfl fun a hA => ?_
      refine o_nil <| hN5 _ _ <| w_reg <| stp hA (r_add hA rfl rfl) rfl fun a hA => 
        stm hA rfl rfl fun a hA => ?_
      refine o_nil <| ⟨m1, Nat.lt_succ_self _, s1 ++ ([IntKind.u8.wrap s2] : List Int), sR .u64 s2 8, IntKind.i64.wrap (s3 + 1), v1, ccs1 ++ cs1, H, hE3, (sR_in rfl ws2 _), (wrap_in _ _), hA.sub ⟨rfl, rfl, rfl, rfl, rfl, trivial⟩, (hI.sl [1] rfl)⟩
    · obtain ⟨hc1, H⟩ := dF H hc1
      refine w_exit rfl ?_
      have H : some (s1, s2) = some z1 := H
      obtain rfl := sI H
      have H := Hk2
      cases sJ H
      exact ⟨vvs1, ccs1, ws1, ws2, hA.sub ⟨rfl, rfl, rfl, trivial⟩, hI⟩
  · rintro a w ⟨vvc1, ccc1, wc1, wc2, hA, hI⟩
    have H := Hk1
    refine w_seq fun _ hN7 => w_reg <| stm hA rfl rfl fun a hA => 
      sta hA rfl rfl fun a hA => ?_
    refine o_nil <| hN7 _ _ <| w_ret ?_
    obtain rfl := sJ H
    exact ret1 hA Tryd.results55 rfl ⟨_, rfl, vvc1, ccc1, rfl, wc1, (hI.less (Store.le.refl _) hI.le)⟩
set_option maxRecDepth 20000 in
theorem compact_Four.c (μ : Store) (w0 : World) (hμ : Agr μ w0) (x0 : List Int) (u0 : Value) (hx0 : Slc (RI .u8) 1 μ u0 x0) (x1 : Int) (hx1 : InR .u32 x1) (r : List Int) (H : compact_Four.f x0 x1 = some r) :
    Calls Tryd.prog 36 [u0, .int .u32 x1].toArray w0 (fun e w' => ∃ v, e = .returned v ∧ ∃ (v0 : Value) (c0 : List Value), v = v0 ∧ Els (RI .u8) 1 r c0 ∧ Iv w0 [] μ μ [row 5 1 v0 r.length c0] w') := by
  refine enter Tryd.func36 rfl Tryd.ntmps36 rfl fun a hA => ?_
  have hI := Iv.start hμ
  have H := bI H
  refine w_seq fun _ hN1 => w_reg <| sta hA rfl rfl fun a hA => ?_
  refine o_nil <| hN1 _ _ <| w_seq fun _ hN2 => w_reg <| stm hA rfl rfl fun a hA => ?_
  obtain ⟨r1, hr1, H⟩ := bB H
  refine o_call _ cf56 hA rfl (bytes_Clone.c μ _ hI.agr x0 u0 hx0 r1 hr1) rfl fun v1 a w hz1 hA => ?_
  obtain ⟨_, cs1, rfl, hE1, hi1⟩ := hz1
  have hI := hI.call hi1
  refine stm hA rfl rfl fun a hA => 
    stp hA (r_conv Tryd.underlying24 Tryd.underlying34 hA rfl) rfl fun a hA => ?_
  obtain ⟨r2, hr2, H⟩ := bB H
  refine o_call _ cf55 hA rfl (compact_number.c μ _ hI.agr r1 v1 cs1 hE1 (hI.item (j := 0) rfl) (IntKind.u64.wrap x1) (wrap_in _ _) 4 (in_lit .i64 4 rfl) r2 hr2) rfl fun v2 a w hz2 hA => ?_
  obtain ⟨_, cs2, rfl, hE2, hi2⟩ := hz2
  have hI := hI.call1 0 rfl hi2
  refine sta hA rfl rfl fun a hA => ?_
  refine o_nil <| hN2 _ _ <| w_ret ?_
  obtain rfl := sJ H
  exact ret1 hA Tryd.results36 rfl ⟨_, rfl, v2, cs2, rfl, hE2, (hI.less (Store.le.refl _) hI.le)⟩
set_option maxRecDepth 20000 in
theorem compact_Len.c (μ : Store) (w0 : World) (hμ : Agr μ w0) (x0 : Int) (hx0 : InR .u64 x0) (r : Int) (H : compact_Len.f x0 = some r) :
    Calls Tryd.prog 60 [.int .u64 x0].toArray w0 (fun e w' => ∃ v, e = .returned v ∧ v = .int .i64 r ∧ InR .i64 r ∧ Iv w0 [] μ μ [] w') := by
  refine enter Tryd.func60 rfl Tryd.ntmps60 rfl fun a hA => ?_
  have hI := Iv.start hμ
  have H := bI H
  refine w_seq fun _ hN1 => w_reg <| sta hA rfl rfl fun a hA => ?_
  refine o_nil <| hN1 _ _ <| w_seq fun _ hN2 => w_block <| w_seq fun _ hN3 => w_reg <| stm hA rfl rfl fun a hA => 
    stp hA (r_lss hA rfl rfl) rfl fun a hA => 
    sta hA rfl rfl fun a hA => ?_
  refine o_nil <| hN3 _ _ <| w_cond hA rfl (fun hc1 => ?_) (fun hc1 => ?_)
  · obtain ⟨hc1, H⟩ := dT H hc1
    refine w_seq fun _ hN4 => w_reg <| sta hA rfl rfl fun a hA => ?_
    refine o_nil <| hN4 _ _ <| w_ret ?_
    obtain rfl := sJ H
    exact ret1 hA Tryd.results60 rfl ⟨_, rfl, rfl, (in_lit .i64 1 rfl), hI.forget0⟩
  · obtain ⟨hc1, H⟩ := dF H hc1
    refine w_seq fun _ hN5 => w_reg <| stm hA rfl rfl fun a hA => 
      stp hA (r_lss hA rfl rfl) rfl fun a hA => 
      sta hA rfl rfl fun a hA => ?_
    refine o_nil <| hN5 _ _ <| w_cond hA rfl (fun hc2 => ?_) (fun hc2 => ?_)
    · obtain ⟨hc2, H⟩ := dT H hc2
      refine w_seq fun _ hN6 => w_reg <| sta hA rfl rfl fun a hA => ?_
      refine o_nil <| hN6 _ _ <| w_ret ?_
      obtain rfl := sJ H
      exact ret1 hA Tryd.results60 rfl ⟨_, rfl, rfl, (in_lit .i64 3 rfl), hI.forget0⟩
    · obtain ⟨hc2, H⟩ := dF H hc2
      refine w_seq fun _ hN7 => w_reg <| stm hA rfl rfl fun a hA => 
        stp hA (r_lss hA rfl rfl) rfl fun a hA => 
        sta hA rfl rfl fun a hA => ?_
      refine o_nil <| hN7 _ _ <| w_cond hA rfl (fun hc3 => ?_) (fun hc3 => ?_)
      · obtain ⟨hc3, H⟩ := dT H hc3
        refine w_seq fun _ hN8 => w_reg <| sta hA rfl rfl fun a hA => ?_
        refine o_nil <| hN8 _ _ <| w_ret ?_
        obtain rfl := sJ H
        exact ret1 hA Tryd.results60 rfl ⟨_, rfl, rfl, (in_lit .i64 5 rfl), hI.forget0⟩
      · obtain ⟨hc3, H⟩ := dF H hc3
        refine w_skip <| hN2 _ _ <| w_seq fun _ hN9 => w_reg <| sta hA rfl rfl fun a hA => ?_
        refine o_nil <| hN9 _ _ <| w_ret ?_
        obtain rfl := sJ H
        exact ret1 hA Tryd.results60 rfl ⟨_, rfl, rfl, (in_lit .i64 9 rfl), hI.forget0⟩
set_option maxRecDepth 20000 in
theorem compact_Put.c (μ : Store) (w0 : World) (hμ : Agr μ w0) (x0 : List Int) (u0 : Value) (hx0 : Slc (RI .u8) 1 μ u0 x0) (x1 : Int) (hx1 : InR .u64 x1) (r : List Int) (H : compact_Put.f x0 x1 = some r) :
    Calls Tryd.prog 43 [u0, .int .u64 x1].toArray w0 (fun e w' => ∃ v, e = .returned v ∧ ∃ (v0 : Value) (c0 : List Value), v = v0 ∧ Els (RI .u8) 1 r c0 ∧ Iv w0 [] μ μ [row 5 1 v0 r.length c0] w') := by
  refine enter Tryd.func43 rfl Tryd.ntmps43 rfl fun a hA => ?_
  have hI := Iv.start hμ
  have H := bI H
  refine w_seq fun _ hN1 => w_reg <| sta hA rfl rfl fun a hA => ?_
  refine o_nil <| hN1 _ _ <| w_seq fun _ hN2 => w_reg <| stm hA rfl rfl fun a hA => ?_
  obtain ⟨r1, hr1, H⟩ := bB H
  refine o_call _ cf56 hA rfl (bytes_Clone.c μ _ hI.agr x0 u0 hx0 r1 hr1) rfl fun v1 a w hz1 hA => ?_
  obtain ⟨_, cs1, rfl, hE1, hi1⟩ := hz1
  have hI := hI.call hi1
  refine sta hA rfl rfl fun a hA => ?_
  refine o_nil <| hN2 _ _ <| w_seq fun _ hN3 => w_seq fun _ hN4 => w_reg <| stm hA rfl rfl fun a hA => ?_
  obtain ⟨r2, hr2, H⟩ := bB H
  refine o_callp (u := .int .i64 r2) cf60 hA rfl hI (compact_Len.c μ _ hI.agr x1 hx1 r2 hr2) rfl fun a w hz2 hI hA => 
    sta hA rfl rfl fun a hA => ?_
  refine o_nil <| hN4 _ _ <| w_seq fun _ hN5 => w_reg <| stm hA rfl rfl fun a hA => ?_
  refine o_nil <| hN5 _ _ <| w_block <| w_seq fun _ hN6 => w_reg <| stp hA (r_eql hA rfl rfl) rfl fun a hA => 
    sta hA rfl rfl fun a hA => ?_
  refine o_nil <| hN6 _ _ <| w_cond hA rfl (fun hc1 => ?_) (fun hc1 => ?_)
  · obtain ⟨hc1, H⟩ := dT H hc1
    refine w_seq fun _ hN7 => w_reg <| stm hA rfl rfl fun a hA => 
      stm hA rfl rfl fun a hA => 
      stp hA (r_conv Tryd.underlying34 Tryd.underlying5 hA rfl) rfl fun a hA => ?_
    have hE2 : Els (RI .u8) 1 ([IntKind.u8.wrap x1] : List Int) _ := (Els.cons (c := [[.int .u8 (IntKind.u8.wrap x1)]].flatten) ⟨rfl, (wrap_in _ _)⟩ rfl Els.nil)
    refine o_bsl ([[.int .u8 (IntKind.u8.wrap x1)]].flatten ++ ([])) te5 zr5 Tryd.underlying40 hI hA rfl rfl rfl rfl (by kernel_rfl) rfl fun g1 a w hA hI => ?_
    generalize hcs : ([[.int .u8 (IntKind.u8.wrap x1)]].flatten ++ ([]) : List Value) = cs2 at hE2 hI
    clear hcs
    obtain ⟨hb1, H⟩ := bG H
    have hE4 := hE1.app hE2
    refine o_appG (xs := (r1 : List Int)) (ys := (([IntKind.u8.wrap x1] : List Int) : List Int)) (M := 140737488355328) 1 te5 Tryd.underlying40 hI rfl hA rfl rfl (src_row hI (j := 0) rfl) hE2.len (hE2.ones (one_RI _)) hb1 rfl fun v2 a w hA hI => 
      sta hA rfl rfl fun a hA => ?_
    refine o_nil <| hN7 _ _ <| w_ret ?_
    obtain rfl := sJ H
    exact ret1 hA Tryd.results43 rfl ⟨_, rfl, v2, cs1 ++ cs2, rfl, hE4, ((hI.sl [1] rfl).less (Store.le.refl _) hI.le)⟩
  · obtain ⟨hc1, H⟩ := dF H hc1
    refine w_seq fun _ hN8 => w_reg <| stp hA (r_eql hA rfl rfl) rfl fun a hA => 
      sta hA rfl rfl fun a hA => ?_
    refine o_nil <| hN8 _ _ <| w_cond hA rfl (fun hc2 => ?_) (fun hc2 => ?_)
    · obtain ⟨hc2, H⟩ := dT H hc2
      refine w_seq fun _ hN9 => w_reg <| stm hA rfl rfl fun a hA => ?_
      have hE5 : Els (RI .u8) 1 ([253] : List Int) _ := (Els.cons (c := [[.int .u8 253]].flatten) ⟨rfl, (in_lit .u8 253 rfl)⟩ rfl Els.nil)
      refine o_bsl ([[.int .u8 253]].flatten ++ ([])) te5 zr5 Tryd.underlying40 hI hA rfl rfl rfl rfl (by kernel_rfl) rfl fun g2 a w hA hI => ?_
      generalize hcs : ([[.int .u8 253]].flatten ++ ([]) : List Value) = cs5 at hE5 hI
      clear hcs
      obtain ⟨hb2, H⟩ := bG H
      have hE7 := hE1.app hE5
      refine o_appG (xs := (r1 : List Int)) (ys := (([253] : List Int) : List Int)) (M := 140737488355328) 1 te5 Tryd.underlying40 hI rfl hA rfl rfl (src_row hI (j := 0) rfl) hE5.len (hE5.ones (one_RI _)) hb2 rfl fun v3 a w hA hI => 
        stm hA rfl rfl fun a hA => ?_
      obtain ⟨r3, hr3, H⟩ := bB H
      refine o_call _ cf55 hA rfl (compact_number.c μ _ hI.agr (r1 ++ ([253] : List Int)) v3 (cs1 ++ cs5) hE7 (hI.item (j := 1) rfl) x1 hx1 2 (in_lit .i64 2 rfl) r3 hr3) rfl fun v4 a w hz3 hA => ?_
      obtain ⟨_, cs8, rfl, hE8, hi2⟩ := hz3
      have hI := hI.call1 1 rfl hi2
      refine sta hA rfl rfl fun a hA => ?_
      refine o_nil <| hN9 _ _ <| w_ret ?_
      obtain rfl := sJ H
      exact ret1 hA Tryd.results43 rfl ⟨_, rfl, v4, cs8, rfl, hE8, ((hI.sl [0] rfl).less (Store.le.refl _) hI.le)⟩
    · obtain ⟨hc2, H⟩ := dF H hc2
      refine w_seq fun _ hN10 => w_reg <| stp hA (r_eql hA rfl rfl) rfl fun a hA => 
        sta hA rfl rfl fun a hA => ?_
      refine o_nil <| hN10 _ _ <| w_cond hA rfl (fun hc3 => ?_) (fun hc3 => ?_)
      · obtain ⟨hc3, H⟩ := dT H hc3
        refine w_seq fun _ hN11 => w_reg <| stm hA rfl rfl fun a hA => ?_
        have hE9 : Els (RI .u8) 1 ([254] : List Int) _ := (Els.cons (c := [[.int .u8 254]].flatten) ⟨rfl, (in_lit .u8 254 rfl)⟩ rfl Els.nil)
        refine o_bsl ([[.int .u8 254]].flatten ++ ([])) te5 zr5 Tryd.underlying40 hI hA rfl rfl rfl rfl (by kernel_rfl) rfl fun g3 a w hA hI => ?_
        generalize hcs : ([[.int .u8 254]].flatten ++ ([]) : List Value) = cs9 at hE9 hI
        clear hcs
        obtain ⟨hb3, H⟩ := bG H
        have hE11 := hE1.app hE9
        refine o_appG (xs := (r1 : List Int)) (ys := (([254] : List Int) : List Int)) (M := 140737488355328) 1 te5 Tryd.underlying40 hI rfl hA rfl rfl (src_row hI (j := 0) rfl) hE9.len (hE9.ones (one_RI _)) hb3 rfl fun v5 a w hA hI => 
          stm hA rfl rfl fun a hA => ?_
        obtain ⟨r4, hr4, H⟩ := bB H
        refine o_call _ cf55 hA rfl (compact_number.c μ _ hI.agr (r1 ++ ([254] : List Int)) v5 (cs1 ++ cs9) hE11 (hI.item (j := 1) rfl) x1 hx1 4 (in_lit .i64 4 rfl) r4 hr4) rfl fun v6 a w hz4 hA => ?_
        obtain ⟨_, cs12, rfl, hE12, hi3⟩ := hz4
        have hI := hI.call1 1 rfl hi3
        refine sta hA rfl rfl fun a hA => ?_
        refine o_nil <| hN11 _ _ <| w_ret ?_
        obtain rfl := sJ H
        exact ret1 hA Tryd.results43 rfl ⟨_, rfl, v6, cs12, rfl, hE12, ((hI.sl [0] rfl).less (Store.le.refl _) hI.le)⟩
      · obtain ⟨hc3, H⟩ := dF H hc3
        refine w_skip <| hN3 _ _ <| w_seq fun _ hN12 => w_reg <| stm hA rfl rfl fun a hA => ?_
        have hE13 : Els (RI .u8) 1 ([255] : List Int) _ := (Els.cons (c := [[.int .u8 255]].flatten) ⟨rfl, (in_lit .u8 255 rfl)⟩ rfl Els.nil)
        refine o_bsl ([[.int .u8 255]].flatten ++ ([])) te5 zr5 Tryd.underlying40 hI hA rfl rfl rfl rfl (by kernel_rfl) rfl fun g4 a w hA hI => ?_
        generalize hcs : ([[.int .u8 255]].flatten ++ ([]) : List Value) = cs13 at hE13 hI
        clear hcs
        obtain ⟨hb4, H⟩ := bG H
        have hE15 := hE1.app hE13
        refine o_appG (xs := (r1 : List Int)) (ys := (([255] : List Int) : List Int)) (M := 140737488355328) 1 te5 Tryd.underlying40 hI rfl hA rfl rfl (src_row hI (j := 0) rfl) hE13.len (hE13.ones (one_RI _)) hb4 rfl fun v7 a w hA hI => 
          stm hA rfl rfl fun a hA => ?_
        obtain ⟨r5, hr5, H⟩ := bB H
        refine o_call _ cf55 hA rfl (compact_number.c μ _ hI.agr (r1 ++ ([255] : List Int)) v7 (cs1 ++ cs13) hE15 (hI.item (j := 1) rfl) x1 hx1 8 (in_lit .i64 8 rfl) r5 hr5) rfl fun v8 a w hz5 hA => ?_
        obtain ⟨_, cs16, rfl, hE16, hi4⟩ := hz5
        have hI := hI.call1 1 rfl hi4
        refine sta hA rfl rfl fun a hA => ?_
        refine o_nil <| hN12 _ _ <| w_ret ?_
        obtain rfl := sJ H
        exact ret1 hA Tryd.results43 rfl ⟨_, rfl, v8, cs16, rfl, hE16, ((hI.sl [0] rfl).less (Store.le.refl _) hI.le)⟩
set_option maxRecDepth 20000 in
theorem compact_Eight.c (μ : Store) (w0 : World) (hμ : Agr μ w0) (x0 : List Int) (u0 : Value) (hx0 : Slc (RI .u8) 1 μ u0 x0) (x1 : Int) (hx1 : InR .u64 x1) (r : List Int) (H : compact_Eight.f x0 x1 = some r) :
    Calls Tryd.prog 59 [u0, .int .u64 x1].toArray w0 (fun e w' => ∃ v, e = .returned v ∧ ∃ (v0 : Value) (c0 : List Value), v = v0 ∧ Els (RI .u8) 1 r c0 ∧ Iv w0 [] μ μ [row 5 1 v0 r.length c0] w') := by
  refine enter Tryd.func59 rfl Tryd.ntmps59 rfl fun a hA => ?_
  have hI := Iv.start hμ
  have H := bI H
  refine w_seq fun _ hN1 => w_reg <| sta hA rfl rfl fun a hA => ?_
  refine o_nil <| hN1 _ _ <| w_seq fun _ hN2 => w_reg <| stm hA rfl rfl fun a hA => ?_
  obtain ⟨r1, hr1, H⟩ := bB H
  refine o_call _ cf56 hA rfl (bytes_Clone.c μ _ hI.agr x0 u0 hx0 r1 hr1) rfl fun v1 a w hz1 hA => ?_
  obtain ⟨_, cs1, rfl, hE1, hi1⟩ := hz1
  have hI := hI.call hi1
  refine stm hA rfl rfl fun a hA => ?_
  obtain ⟨r2, hr2, H⟩ := bB H
  refine o_call _ cf55 hA rfl (compact_number.c μ _ hI.agr r1 v1 cs1 hE1 (hI.item (j := 0) rfl) x1 hx1 8 (in_lit .i64 8 rfl) r2 hr2) rfl fun v2 a w hz2 hA => ?_
  obtain ⟨_, cs2, rfl, hE2, hi2⟩ := hz2
  have hI := hI.call1 0 rfl hi2
  refine sta hA rfl rfl fun a hA => ?_
  refine o_nil <| hN2 _ _ <| w_ret ?_
  obtain rfl := sJ H
  exact ret1 hA Tryd.results59 rfl ⟨_, rfl, v2, cs2, rfl, hE2, (hI.less (Store.le.refl _) hI.le)⟩
set_option maxRecDepth 20000 in
theorem compact_Sum.c (μ : Store) (w0 : World) (hμ : Agr μ w0) (x0 : List Int) (u0 : Value) (hx0 : Slc (RI .u64) 1 μ u0 x0) (r : Int × Bool) (H : compact_Sum.f x0 = some r) :
    Calls Tryd.prog 62 [u0].toArray w0 (fun e w' => ∃ v, e = .returned v ∧ v = .tuple #[.int .u64 r.1, .bool r.2] ∧ (InR .u64 r.1 ∧ True) ∧ Iv w0 [] μ μ [] w') := by
  refine enter Tryd.func62 rfl Tryd.ntmps62 rfl fun a hA => ?_
  have hI := Iv.start hμ
  have H := bI H
  refine w_seq fun _ hN1 => w_reg <| sta hA rfl rfl fun a hA => 
    sta hA rfl rfl fun a hA => ?_
  refine o_nil <| hN1 _ _ <| w_seq fun _ hN2 => w_reg <| sta hA rfl rfl fun a hA => ?_
  refine o_nil <| hN2 _ _ <| w_seq fun _ hN3 => w_seq fun _ hN4 => w_reg <| stm hA rfl rfl fun a hA => ?_
  obtain ⟨_, hsl1⟩ := Slc.sv hx0
  refine stp hA (r_slen Tryd.underlying110 hsl1 hA rfl) rfl fun a hA => 
    stm hA rfl rfl fun a hA => ?_
  refine o_nil <| hN4 _ _ <| w_block ?_
  obtain ⟨z1, hz1, Hk1⟩ := bind_some H
  obtain ⟨n1, hn1⟩ := loopO_some hz1
  refine w_loop (fun n a w => ∃ (s1 : Int) (s2 : Int), loopN (compact_Sum.s0 x0) n (s1, s2) = some z1 ∧ InR .u64 s1 ∧ InR .i64 s2 ∧ Fr a 22 [(2, .int .u64 0), (3, .bool false), (4, .int .u64 s1), (7, u0), (8, .int .i64 (x0.length : Int)), (9, .int .i64 s2)] ∧ Iv w0 [] μ μ [] w) n1 ⟨0, 0, hn1, (in_lit .u64 0 rfl), (in_lit .i64 0 rfl), hA.sub ⟨rfl, rfl, rfl, rfl, rfl, rfl, trivial⟩, hI⟩ ?_
  clear hA hI
  rintro n a w ⟨s1, s2, hn1, ws1, ws2, hA, hI⟩
  obtain ⟨m1, rfl, H⟩ := loopN_bind hn1
  clear hn1
  refine w_seq fun _ hN5 => w_reg <| stp hA (r_lss hA rfl rfl) rfl fun a hA => ?_
  refine o_nil <| hN5 _ _ <| w_seq fun _ hN6 => w_cond hA rfl (fun hc1 => ?_) (fun hc1 => ?_)
  · obtain ⟨hc1, H⟩ := dT H hc1
    refine w_skip <| hN6 _ _ <| w_seq fun _ hN7 => w_block <| w_seq fun _ hN8 => w_reg ?_
    obtain ⟨hb1, H⟩ := bG H
    obtain ⟨_, he1, _, hat1⟩ := Slc.elem1 hx0 (getD_some 0 hb1.1 hb1.2)
    obtain ⟨rfl, hw1⟩ := he1
    obtain ⟨_, hsl2⟩ := Slc.sv hx0
    refine stp hA (r_six1 Tryd.underlying110 sz34 hsl2 hA rfl rfl hb1.1 hb1.2) rfl fun a hA => 
      stp hA (r_ldm1 [] [] Tryd.underlying34 rfl hI.agr hat1 hA rfl rfl) rfl fun a hA => 
      sta hA rfl rfl fun a hA => ?_
    refine o_nil <| hN8 _ _ <| w_seq fun _ hN9 => w_seq fun _ hN10 => w_reg <| stm hA rfl rfl fun a hA => 
      stm hA rfl rfl fun a hA => 
      stp hA (r_sub hA rfl rfl) rfl fun a hA => 
      stp hA (r_gtr hA rfl rfl) rfl fun a hA => ?_
    refine o_nil <| hN10 _ _ <| w_cond hA rfl (fun hc2 => ?_) (fun hc2 => ?_)
    · obtain ⟨hc2, H⟩ := dT H hc2
      refine w_seq fun _ hN11 => w_reg <| sta hA rfl rfl fun a hA => 
        sta hA rfl rfl fun a hA => ?_
      refine o_nil <| hN11 _ _ <| w_ret ?_
      have H : some (0, false) = some z1 := H
      obtain rfl := sI H
      have H := Hk1
      obtain rfl := sJ H
      exact ret2 hA Tryd.results62 rfl rfl ⟨_, rfl, rfl, ⟨(in_lit .u64 0 rfl), trivial⟩, hI.forget0⟩
    · obtain ⟨hc2, H⟩ := dF H hc2
      refine w_skip <| hN9 _ _ <| w_reg <| stm hA rfl rfl fun a hA => 
        stm hA rfl rfl fun a hA => 
        stp hA (r_add hA rfl rfl) rfl fun a hA => 
        sta hA rfl rfl fun a hA => ?_
      refine o_nil <| hN7 _ _ <| w_reg <| stp hA (r_add hA rfl rfl) rfl fun a hA => 
        stm hA rfl rfl fun a hA => ?_
      refine o_nil <| ⟨m1, Nat.lt_succ_self _, IntKind.u64.wrap (s1 + (x0.getD s2.toNat 0)), IntKind.i64.wrap (s2 + 1), H, (wrap_in _ _), (wrap_in _ _), hA.sub ⟨rfl, rfl, rfl, rfl, rfl, rfl, trivial⟩, hI⟩
  · obtain ⟨hc1, H⟩ := dF H hc1
    refine w_exit rfl <| hN3 _ _ <| w_seq fun _ hN12 => w_reg <| stm hA rfl rfl fun a hA => 
      sta hA rfl rfl fun a hA => 
      sta hA rfl rfl fun a hA => ?_
    refine o_nil <| hN12 _ _ <| w_ret ?_
    have H : some (s1, true) = some z1 := H
    obtain rfl := sI H
    have H := Hk1
    obtain rfl := sJ H
    exact ret2 hA Tryd.results62 rfl rfl ⟨_, rfl, rfl, ⟨ws1, trivial⟩, hI.forget0⟩
set_option maxRecDepth 20000 in
theorem sargassoref1_little.c (μ : Store) (w0 : World) (hμ : Agr μ w0) (x0 : List Int) (u0 : Value) (k0 : List Value) (hx0 : Els (RI .u8) 1 x0 k0) (ho0 : RowOK μ w0 5 1 u0 x0.length k0) (x1 : Int) (hx1 : InR .u64 x1) (x2 : Int) (hx2 : InR .i64 x2) (r : List Int) (H : sargassoref1_little.f x0 x1 x2 = some r) :
    Calls Tryd.prog 28 [u0, .int .u64 x1, .int .i64 x2].toArray w0 (fun e w' => ∃ v, e = .returned v ∧ ∃ (v0 : Value) (c0 : List Value), v = v0 ∧ Els (RI .u8) 1 r c0 ∧ Iv w0 (row 5 1 u0 x0.length k0).foot μ μ [row 5 1 v0 r.length c0] w') := by
  refine enter Tryd.func28 rfl Tryd.ntmps28 rfl fun a hA => ?_
  have hI := ho0.start hμ
  have H := bI H
  refine w_seq fun _ hN1 => w_reg <| sta hA rfl rfl fun a hA => ?_
  refine o_nil <| hN1 _ _ ?_
  obtain ⟨c1, hz1, Hk1⟩ := bB H
  refine w_cut (fun a w => ∃ (vvc1 : Value) (ccc1 : List Value), Els (RI .u8) 1 c1 ccc1 ∧ Fr a 23 [(0, vvc1), (6, (.slice none 0 0))] ∧ Iv w0 (row 5 1 u0 x0.length k0).foot μ μ [row 5 1 vvc1 c1.length ccc1] w) ?_ ?_
  · have H := bI hz1
    refine w_seq fun _ hN2 => w_reg <| sta hA rfl rfl fun a hA => ?_
    refine o_nil <| hN2 _ _ <| w_block ?_
    obtain ⟨z1, hz2, Hk2⟩ := bind_some H
    obtain ⟨n1, hn1⟩ := loopO_some hz2
    refine w_loop (fun n a w => ∃ (s1 : List Int) (s2 : Int) (vvs1 : Value) (ccs1 : List Value), loopN (sargassoref1_little.s0 x1 x2) n (s1, s2) = some z1 ∧ Els (RI .u8) 1 s1 ccs1 ∧ InR .i64 s2 ∧ Fr a 23 [(0, vvs1), (1, .int .u64 x1), (2, .int .i64 x2), (6, (.slice none 0 0)), (7, .int .i64 s2)] ∧ Iv w0 (row 5 1 u0 x0.length k0).foot μ μ [row 5 1 vvs1 s1.length ccs1] w) n1 ⟨x0, 0, u0, k0, hn1, hx0, (in_lit .i64 0 rfl), hA.sub ⟨rfl, rfl, rfl, rfl, rfl, trivial⟩, hI⟩ ?_
    clear hA hI
    rintro n a w ⟨s1, s2, vvs1, ccs1, hn1, ws1, ws2, hA, hI⟩
    obtain ⟨m1, rfl, H⟩ := loopN_bind hn1
    clear hn1
    refine w_seq fun _ hN3 => w_seq fun _ hN4 => w_reg <| stm hA rfl rfl fun a hA => 
      stm hA rfl rfl fun a hA => 
      stp hA (r_lss hA rfl rfl) rfl fun a hA => ?_
    refine o_nil <| hN4 _ _ <| w_cond hA rfl (fun hc1 => ?_) (fun hc1 => ?_)
    · obtain ⟨hc1, H⟩ := dT H hc1
      refine w_skip <| hN3 _ _ <| w_seq fun _ hN5 => w_block <| w_reg <| stm hA rfl rfl fun a hA => 
        stm hA rfl rfl fun a hA => 
        stm hA rfl rfl fun a hA => 
        stp hA (r_mul hA rfl rfl) rfl fun a hA => 
        stp hA (r_conv Tryd.underlying3 Tryd.underlying85 hA rfl) rfl fun a hA => ?_
      obtain ⟨hb1, H⟩ := bG H
      refine stp hA (r_shr hA rfl rfl hb1) rfl fun a hA => 
        stp hA (r_conv Tryd.underlying34 Tryd.underlying5 hA rfl) rfl fun a hA => ?_
      have hE1 : Els (RI .u8) 1 ([IntKind.u8.wrap (sR .u64 x1 (IntKind.u64.wrap (IntKind.i64.wrap (8 * s2))))] : List Int) _ := (Els.cons (c := [[.int .u8 (IntKind.u8.wrap (sR .u64 x1 (IntKind.u64.wrap (IntKind.i64.wrap (8 * s2)))))]].flatten) ⟨rfl, (wrap_in _ _)⟩ rfl Els.nil)
      refine o_bsl ([[.int .u8 (IntKind.u8.wrap (sR .u64 x1 (IntKind.u64.wrap (IntKind.i64.wrap (8 * s2)))))]].flatten ++ ([])) te5 zr5 Tryd.underlying40 hI hA rfl rfl rfl rfl (by kernel_rfl) rfl fun g1 a w hA hI => ?_
      generalize hcs : ([[.int .u8 (IntKind.u8.wrap (sR .u64 x1 (IntKind.u64.wrap (IntKind.i64.wrap (8 * s2)))))]].flatten ++ ([]) : List Value) = cs1 at hE1 hI
      clear hcs
      obtain ⟨hb2, H⟩ := bG H
      have hE3 := ws1.app hE1
      refine o_appG (xs := (s1 : List Int)) (ys := (([IntKind.u8.wrap (sR .u64 x1 (IntKind.u64.wrap (IntKind.i64.wrap (8 * s2))))] : List Int) : List Int)) (M := 140737488355328) 1 te5 Tryd.underlying40 hI rfl hA rfl rfl (src_row hI (j := 0) rfl) hE1.len (hE1.ones (one_RI _)) hb2 rfl fun v1 a w hA hI => 
        sta hA rfl rfl fun a hA => ?_
      refine o_nil <| hN5 _ _ <| w_reg <| stm hA rfl rfl fun a hA => 
        stp hA (r_add hA rfl rfl) rfl fun a hA => 
        sta hA rfl rfl fun a hA => ?_
      refine o_nil <| ⟨m1, Nat.lt_succ_self _, s1 ++ ([IntKind.u8.wrap (sR .u64 x1 (IntKind.u64.wrap (IntKind.i64.wrap (8 * s2))))] : List Int), IntKind.i64.wrap (s2 + 1), v1, ccs1 ++ cs1, H, hE3, (wrap_in _ _), hA.sub ⟨rfl, rfl, rfl, rfl, rfl, trivial⟩, (hI.sl [1] rfl)⟩
    · obtain ⟨hc1, H⟩ := dF H hc1
      refine w_exit rfl ?_
      have H : some s1 = some z1 := H
      obtain rfl := sI H
      have H := Hk2
      cases sJ H
      exact ⟨vvs1, ccs1, ws1, hA.sub ⟨rfl, rfl, trivial⟩, hI⟩
  · rintro a w ⟨vvc1, ccc1, wc1, hA, hI⟩
    have H := Hk1
    refine w_seq fun _ hN6 => w_reg <| stm hA rfl rfl fun a hA => 
      sta hA rfl rfl fun a hA => ?_
    refine o_nil <| hN6 _ _ <| w_ret ?_
    obtain rfl := sJ H
    exact ret1 hA Tryd.results28 rfl ⟨_, rfl, vvc1, ccc1, rfl, wc1, (hI.less (Store.le.refl _) hI.le)⟩
set_option maxRecDepth 20000 in
theorem sargassoref1_Four.c (μ : Store) (w0 : World) (hμ : Agr μ w0) (x0 : List Int) (u0 : Value) (k0 : List Value) (hx0 : Els (RI .u8) 1 x0 k0) (ho0 : RowOK μ w0 5 1 u0 x0.length k0) (x1 : Int) (hx1 : InR .u32 x1) (r : List Int) (H : sargassoref1_Four.f x0 x1 = some r) :
    Calls Tryd.prog 14 [u0, .int .u32 x1].toArray w0 (fun e w' => ∃ v, e = .returned v ∧ ∃ (v0 : Value) (c0 : List Value), v = v0 ∧ Els (RI .u8) 1 r c0 ∧ Iv w0 (row 5 1 u0 x0.length k0).foot μ μ [row 5 1 v0 r.length c0] w') := by
  refine enter Tryd.func14 rfl Tryd.ntmps14 rfl fun a hA => ?_
  have hI := ho0.start hμ
  have H := bI H
  refine w_seq fun _ hN1 => w_reg <| sta hA rfl rfl fun a hA => ?_
  refine o_nil <| hN1 _ _ <| w_seq fun _ hN2 => w_reg <| stm hA rfl rfl fun a hA => 
    stm hA rfl rfl fun a hA => 
    stp hA (r_conv Tryd.underlying24 Tryd.underlying34 hA rfl) rfl fun a hA => ?_
  obtain ⟨r1, hr1, H⟩ := bB H
  refine o_call _ cf28 hA rfl (sargassoref1_little.c μ _ hI.agr x0 u0 k0 hx0 (hI.item (j := 0) rfl) (IntKind.u64.wrap x1) (wrap_in _ _) 4 (in_lit .i64 4 rfl) r1 hr1) rfl fun v1 a w hz1 hA => ?_
  obtain ⟨_, cs1, rfl, hE1, hi1⟩ := hz1
  have hI := hI.call1 0 rfl hi1
  refine sta hA rfl rfl fun a hA => ?_
  refine o_nil <| hN2 _ _ <| w_ret ?_
  obtain rfl := sJ H
  exact ret1 hA Tryd.results14 rfl ⟨_, rfl, v1, cs1, rfl, hE1, (hI.less (Store.le.refl _) hI.le)⟩
end Go.Proofs.YtkfpmcplfodikaaDoor.T
namespace Go.Proofs.YtkfpmcplfodikaaDoor.T
open Go Go.Proofs Go.Proofs.YtkfpmcplfodikaaDoor.K
set_option linter.unusedVariables false
set_option linter.unusedSimpArgs false
noncomputable def digest_begin.f : Option (List Int) := some ([1779033703, 3144134277, 1013904242, 2773480762, 1359893119, 2600822924, 528734635, 1541459225])
noncomputable def digest_Writer_state.f (x0 : digestWriter) : Option (List Int) := (if x0.n < 64 then ((digest_begin.f).bind fun r1 => some r1) else some x0.s)
noncomputable def digest_turn.f (x0 : Int) (x1 : Int) : Option Int := ((math_bits_RotateLeft32.f x0 (IntKind.i64.wrap (0 - x1))).bind fun r1 => some r1)
noncomputable def digest_spread.s0 (x0 : List Int) : (Int × (List Int)) → Option ((Int × (List Int)) ⊕ (List Int)) := fun (s1, s2) => (if s1 < 64 then (((if s1 < 16 then (if 0 ≤ (IntKind.i64.wrap (4 * s1)) ∧ (IntKind.i64.wrap (4 * s1)) ≤ (x0.length : Int) then (if 0 < (((x0.take ((x0.length : Int)).toNat).drop (IntKind.i64.wrap (4 * s1)).toNat).length : Int) then (if 1 < (((x0.take ((x0.length : Int)).toNat).drop (IntKind.i64.wrap (4 * s1)).toNat).length : Int) then (if 2 < (((x0.take ((x0.length : Int)).toNat).drop (IntKind.i64.wrap (4 * s1)).toNat).length : Int) then (if 3 < (((x0.take ((x0.length : Int)).toNat).drop (IntKind.i64.wrap (4 * s1)).toNat).length : Int) then (if 0 ≤ s1 ∧ s1 < 64 then some (s2.set s1.toNat (bOr .u32 (bOr .u32 (bOr .u32 (sL .u32 (IntKind.u32.wrap (((x0.take ((x0.length : Int)).toNat).drop (IntKind.i64.wrap (4 * s1)).toNat).getD (0 : Int).toNat 0)) 24) (sL .u32 (IntKind.u32.wrap (((x0.take ((x0.length : Int)).toNat).drop (IntKind.i64.wrap (4 * s1)).toNat).getD (1 : Int).toNat 0)) 16)) (sL .u32 (IntKind.u32.wrap (((x0.take ((x0.length : Int)).toNat).drop (IntKind.i64.wrap (4 * s1)).toNat).getD (2 : Int).toNat 0)) 8)) (IntKind.u32.wrap (((x0.take ((x0.length : Int)).toNat).drop (IntKind.i64.wrap (4 * s1)).toNat).getD (3 : Int).toNat 0)))) else none) else none) else none) else none) else none) else none) else (if 0 ≤ IntKind.i64.wrap (s1 - 2) ∧ IntKind.i64.wrap (s1 - 2) < 64 then (if 0 ≤ IntKind.i64.wrap (s1 - 15) ∧ IntKind.i64.wrap (s1 - 15) < 64 then (if 0 ≤ IntKind.i64.wrap (s1 - 7) ∧ IntKind.i64.wrap (s1 - 7) < 64 then (if 0 ≤ IntKind.i64.wrap (s1 - 16) ∧ IntKind.i64.wrap (s1 - 16) < 64 then ((digest_turn.f (s2.getD (IntKind.i64.wrap (s1 - 2)).toNat 0) 17).bind fun r1 => ((digest_turn.f (s2.getD (IntKind.i64.wrap (s1 - 2)).toNat 0) 19).bind fun r2 => ((digest_turn.f (s2.getD (IntKind.i64.wrap (s1 - 15)).toNat 0) 7).bind fun r3 => ((digest_turn.f (s2.getD (IntKind.i64.wrap (s1 - 15)).toNat 0) 18).bind fun r4 => (if 0 ≤ s1 ∧ s1 < 64 then some (s2.set s1.toNat (IntKind.u32.wrap ((IntKind.u32.wrap ((IntKind.u32.wrap ((bXor .u32 (bXor .u32 r1 r2) (sR .u32 (s2.getD (IntKind.i64.wrap (s1 - 2)).toNat 0) 10)) + (s2.getD (IntKind.i64.wrap (s1 - 7)).toNat 0))) + (bXor .u32 (bXor .u32 r3 r4) (sR .u32 (s2.getD (IntKind.i64.wrap (s1 - 15)).toNat 0) 3)))) + (s2.getD (IntKind.i64.wrap (s1 - 16)).toNat 0)))) else none))))) else none) else none) else none) else none))).bind fun c2 => some (.inl (IntKind.i64.wrap (s1 + 1), c2))) else some (.inr s2))
noncomputable def digest_spread.f (x0 : List Int) : Option (List Int) := ((loopO (digest_spread.s0 x0) (0, (List.replicate 64 0))).bind fun c1 => some c1)
def digest_keys.lit0 : List Int := [1116352408, 1899447441, 3049323471, 3921009573, 961987163, 1508970993, 2453635748, 2870763221, 3624381080, 310598401, 607225278, 1426881987, 1925078388, 2162078206, 2614888103, 3248222580, 3835390401, 4022224774, 264347078, 604807628, 770255983, 1249150122, 1555081692, 1996064986, 2554220882, 2821834349, 2952996808, 3210313671, 3336571891, 3584528711, 113926993, 338241895, 666307205, 773529912, 1294757372, 1396182291, 1695183700, 1986661051, 2177026350, 2456956037, 2730485921, 2820302411, 3259730800, 3345764771, 3516065817, 3600352804, 4094571909, 275423344, 430227734, 506948616, 659060556, 883997877, 958139571, 1322822218, 1537002063, 1747873779, 1955562222, 2024104815, 2227730452, 2361852424, 2428436474, 2756734187, 3204031479, 3329325298]
theorem digest_keys.lit0_in : ∀ x ∈ digest_keys.lit0, InR .u32 x := all_in (by kernel_rfl)
noncomputable def digest_keys.f : Option (List Int) := some digest_keys.lit0
noncomputable def digest_mix.s1 (c1 : List Int) : (Int × (List Int)) → Option ((Int × (List Int)) ⊕ (List Int)) := fun (s3, s4) => (if s3 < 8 then (if 0 ≤ s3 ∧ s3 < 8 then some (.inl (IntKind.i64.wrap (s3 + 1), s4.set s3.toNat (IntKind.u32.wrap ((s4.getD s3.toNat 0) + (c1.getD s3.toNat 0))))) else none) else some (.inr s4))
noncomputable def digest_mix.s0 (r1 : List Int) (r2 : List Int) : (Int × (List Int)) → Option ((Int × (List Int)) ⊕ (List Int)) := fun (s1, s2) => (if s1 < 64 then ((digest_turn.f (s2.getD (4 : Int).toNat 0) 6).bind fun r3 => ((digest_turn.f (s2.getD (4 : Int).toNat 0) 11).bind fun r4 => ((digest_turn.f (s2.getD (4 : Int).toNat 0) 25).bind fun r5 => (if 0 ≤ s1 ∧ s1 < 64 then ((digest_turn.f (s2.getD (0 : Int).toNat 0) 2).bind fun r6 => ((digest_turn.f (s2.getD (0 : Int).toNat 0) 13).bind fun r7 => ((digest_turn.f (s2.getD (0 : Int).toNat 0) 22).bind fun r8 => some (.inl (IntKind.i64.wrap (s1 + 1), ([IntKind.u32.wrap ((IntKind.u32.wrap ((IntKind.u32.wrap ((IntKind.u32.wrap ((IntKind.u32.wrap ((s2.getD (7 : Int).toNat 0) + (bXor .u32 (bXor .u32 r3 r4) r5))) + (bXor .u32 (bAnd .u32 (s2.getD (4 : Int).toNat 0) (s2.getD (5 : Int).toNat 0)) (bAnd .u32 (bNot .u32 (s2.getD (4 : Int).toNat 0)) (s2.getD (6 : Int).toNat 0))))) + (r2.getD s1.toNat 0))) + (r1.getD s1.toNat 0))) + (IntKind.u32.wrap ((bXor .u32 (bXor .u32 r6 r7) r8) + (bXor .u32 (bXor .u32 (bAnd .u32 (s2.getD (0 : Int).toNat 0) (s2.getD (1 : Int).toNat 0)) (bAnd .u32 (s2.getD (0 : Int).toNat 0) (s2.getD (2 : Int).toNat 0))) (bAnd .u32 (s2.getD (1 : Int).toNat 0) (s2.getD (2 : Int).toNat 0)))))), s2.getD (0 : Int).toNat 0, s2.getD (1 : Int).toNat 0, s2.getD (2 : Int).toNat 0, IntKind.u32.wrap ((s2.getD (3 : Int).toNat 0) + (IntKind.u32.wrap ((IntKind.u32.wrap ((IntKind.u32.wrap ((IntKind.u32.wrap ((s2.getD (7 : Int).toNat 0) + (bXor .u32 (bXor .u32 r3 r4) r5))) + (bXor .u32 (bAnd .u32 (s2.getD (4 : Int).toNat 0) (s2.getD (5 : Int).toNat 0)) (bAnd .u32 (bNot .u32 (s2.getD (4 : Int).toNat 0)) (s2.getD (6 : Int).toNat 0))))) + (r2.getD s1.toNat 0))) + (r1.getD s1.toNat 0)))), s2.getD (4 : Int).toNat 0, s2.getD (5 : Int).toNat 0, s2.getD (6 : Int).toNat 0] : List Int)))))) else none)))) else some (.inr s2))
noncomputable def digest_mix.f (x0 : List Int) (x1 : List Int) : Option (List Int) := ((digest_spread.f x1).bind fun r1 => ((digest_keys.f).bind fun r2 => ((loopO (digest_mix.s0 r1 r2) (0, x0)).bind fun c1 => ((loopO (digest_mix.s1 c1) (0, x0)).bind fun c2 => some c2))))
noncomputable def digest_Writer_Write.s0 : (Int × (List Int) × (List Int)) → Option ((Int × (List Int) × (List Int)) ⊕ (Int × (List Int) × (List Int))) := fun (s1, s2, s3) => (if (IntKind.i64.wrap (s1 + 64)) ≤ (s3.length : Int) then (if 0 ≤ s1 ∧ s1 ≤ (IntKind.i64.wrap (s1 + 64)) ∧ (IntKind.i64.wrap (s1 + 64)) ≤ (s3.length : Int) then ((digest_mix.f s2 ((s3.take (IntKind.i64.wrap (s1 + 64)).toNat).drop (s1).toNat)).bind fun r2 => some (.inl (IntKind.i64.wrap (s1 + 64), r2, s3))) else none) else some (.inr (s1, s2, s3)))
noncomputable def digest_Writer_Write.f (x0 : digestWriter) (x1 : List Int) : Option digestWriter := ((digest_Writer_state.f (⟨x0.s, x0.rest, x0.n⟩ : digestWriter)).bind fun r1 => (if x0.rest.length + x1.length ≤ 140737488355328 then ((loopO (digest_Writer_Write.s0) (0, r1, x0.rest ++ x1)).bind fun (c1, c2, c3) => (if 0 ≤ c1 ∧ c1 ≤ (c3.length : Int) then ((bytes_Clone.f ((c3.take ((c3.length : Int)).toNat).drop (c1).toNat)).bind fun r3 => some (⟨c2, r3, IntKind.i64.wrap (x0.n + (x1.length : Int))⟩ : digestWriter)) else none)) else none))
noncomputable def digest_Writer_Sum.s4 (c4 : List Int) (s7 : Int) : (Int × (List Int)) → Option ((Int × (List Int)) ⊕ (List Int)) := fun (s9, s10) => (if s9 < 4 then (if 0 ≤ (IntKind.i64.wrap (24 - (IntKind.i64.wrap (8 * s9)))) then (if 0 ≤ IntKind.i64.wrap ((IntKind.i64.wrap (4 * s7)) + s9) ∧ IntKind.i64.wrap ((IntKind.i64.wrap (4 * s7)) + s9) < 32 then some (.inl (IntKind.i64.wrap (s9 + 1), s10.set (IntKind.i64.wrap ((IntKind.i64.wrap (4 * s7)) + s9)).toNat (IntKind.u8.wrap (sR .u32 (c4.getD s7.toNat 0) (IntKind.i64.wrap (24 - (IntKind.i64.wrap (8 * s9)))))))) else none) else none) else some (.inr s10))
noncomputable def digest_Writer_Sum.s3 (c4 : List Int) : (Int × (List Int)) → Option ((Int × (List Int)) ⊕ (List Int)) := fun (s7, s8) => (if s7 < 8 then (((if 0 ≤ s7 ∧ s7 < 8 then loopO (digest_Writer_Sum.s4 c4 s7) (0, s8) else none)).bind fun c6 => some (.inl (IntKind.i64.wrap (s7 + 1), c6))) else some (.inr s8))
noncomputable def digest_Writer_Sum.s2 : ((List Int) × Int × (List Int)) → Option (((List Int) × Int × (List Int)) ⊕ ((List Int) × (List Int))) := fun (s4, s5, s6) => (if s5 < (s4.length : Int) then (if 0 ≤ s5 ∧ s5 ≤ (IntKind.i64.wrap (s5 + 64)) ∧ (IntKind.i64.wrap (s5 + 64)) ≤ (s4.length : Int) then ((digest_mix.f s6 ((s4.take (IntKind.i64.wrap (s5 + 64)).toNat).drop (s5).toNat)).bind fun r3 => some (.inl (s4, IntKind.i64.wrap (s5 + 64), r3))) else none) else some (.inr (s4, s6)))
noncomputable def digest_Writer_Sum.s1 (x0 : digestWriter) : ((List Int) × Int) → Option (((List Int) × Int) ⊕ (List Int)) := fun (s2, s3) => (if 0 ≤ s3 then (if 0 ≤ (IntKind.i64.wrap (8 * s3)) then (if s2.length + 1 ≤ 140737488355328 then some (.inl (s2 ++ ([IntKind.u8.wrap (sR .u64 (sL .u64 (IntKind.u64.wrap x0.n) 3) (IntKind.i64.wrap (8 * s3)))] : List Int), IntKind.i64.wrap (s3 - 1))) else none) else none) else some (.inr s2))
noncomputable def digest_Writer_Sum.s0 : (List Int) → Option ((List Int) ⊕ (List Int)) := fun s1 => (if (Int.tmod (s1.length : Int) 64) ≠ 56 then (if s1.length + 1 ≤ 140737488355328 then some (.inl (s1 ++ ([0] : List Int))) else none) else some (.inr s1))
noncomputable def digest_Writer_Sum.f (x0 : digestWriter) : Option (List Int) := ((bytes_Clone.f x0.rest).bind fun r1 => (if r1.length + 1 ≤ 140737488355328 then ((loopO (digest_Writer_Sum.s0) (r1 ++ ([128] : List Int))).bind fun c1 => ((loopO (digest_Writer_Sum.s1 x0) (c1, 7)).bind fun c2 => ((digest_Writer_state.f (⟨x0.s, x0.rest, x0.n⟩ : digestWriter)).bind fun r2 => ((loopO (digest_Writer_Sum.s2) (c2, 0, r2)).bind fun (c3, c4) => ((loopO (digest_Writer_Sum.s3 c4) (0, (List.replicate 32 0))).bind fun c5 => some c5))))) else none))
noncomputable def digest_Sha.f (x0 : List Int) : Option (List Int) := ((digest_Writer_Write.f (⟨(List.replicate 8 0), ([] : List Int), 0⟩ : digestWriter) x0).bind fun r1 => ((digest_Writer_Sum.f (⟨r1.s, r1.rest, r1.n⟩ : digestWriter)).bind fun r2 => some r2))
noncomputable def digest_Twice.f (x0 : List Int) : Option (List Int) := ((digest_Sha.f x0).bind fun r1 => ((digest_Sha.f r1).bind fun r2 => some r2))
end Go.Proofs.YtkfpmcplfodikaaDoor.T
namespace Go.Proofs.YtkfpmcplfodikaaDoor.T
open Go Go.Proofs Go.Proofs.YtkfpmcplfodikaaDoor.K
set_option linter.unusedVariables false
set_option linter.unusedSimpArgs false
set_option maxRecDepth 20000 in
theorem digest_begin.c (μ : Store) (w0 : World) (hμ : Agr μ w0) (r : List Int) (H : digest_begin.f = some r) :
    Calls Tryd.prog 67 [].toArray w0 (fun e w' => ∃ v, e = .returned v ∧ v = .agg [av .u32 8 r].flatten.toArray ∧ Arr .u32 8 r ∧ Iv w0 [] μ μ [] w') := by
  refine enter Tryd.func67 rfl Tryd.ntmps67 rfl fun a hA => ?_
  have hI := Iv.start hμ
  have H := bI H
  refine w_seq fun _ hN1 => w_reg <| o_new [av .u32 8 (List.replicate 8 0)] zr102 hI hA rfl fun g1 a w hA hI hg1 => ?_
  refine o_nil <| hN1 _ _ <| w_seq fun _ hN2 => w_reg <| stp hA (r_bldA (cs := [av .u32 8 ([1779033703, 3144134277, 1013904242, 2773480762, 1359893119, 2600822924, 528734635, 1541459225])].flatten.toArray) zr102 Tryd.underlying102 sz24 hA rfl (by kernel_rfl)) rfl fun a hA => 
    o_st (j := 0) [] [av .u32 8 (List.replicate 8 0)] [av .u32 8 ([1779033703, 3144134277, 1013904242, 2773480762, 1359893119, 2600822924, 528734635, 1541459225])] [] sz102 rfl rfl (fl_cons (one_av _ _ _) fl_nil) hI rfl hA rfl rfl rfl rfl fun w hI => ?_
  refine o_nil <| hN2 _ _ <| w_ret ?_
  obtain rfl := sJ H
  exact retc Tryd.underlying102 rfl sz102 rfl hI (j := 0) rfl hA Tryd.results67 rfl ⟨_, rfl, rfl, (arr_lit rfl (by simp only [List.forall_mem_cons]; exact ⟨(in_lit .u32 1779033703 rfl), (in_lit .u32 3144134277 rfl), (in_lit .u32 1013904242 rfl), (in_lit .u32 2773480762 rfl), (in_lit .u32 1359893119 rfl), (in_lit .u32 2600822924 rfl), (in_lit .u32 528734635 rfl), (in_lit .u32 1541459225 rfl), by simp⟩)), hI.forget0⟩
set_option maxRecDepth 20000 in
theorem digest_Writer_state.c (μ : Store) (w0 : World) (hμ : Agr μ w0) (x0 : digestWriter) (vp1 : Value) (cp1 : List Value) (g0 : Nat) (hp1 : Arr .u32 8 x0.s) (hp2 : Els (RI .u8) 1 x0.rest cp1) (hp3 : InR .i64 x0.n) (ho0 : Its μ w0 [cel g0 [av .u32 8 x0.s, [vp1], [.int .i64 x0.n]] 104, row 5 1 vp1 x0.rest.length cp1]) (r : List Int) (H : digest_Writer_state.f x0 = some r) :
    Calls Tryd.prog 65 [.pointer (some ⟨g0, 0, none⟩)].toArray w0 (fun e w' => ∃ v, e = .returned v ∧ v = .agg [av .u32 8 r].flatten.toArray ∧ Arr .u32 8 r ∧ Iv w0 (many [cel g0 [av .u32 8 x0.s, [vp1], [.int .i64 x0.n]] 104, row 5 1 vp1 x0.rest.length cp1]).foot μ μ [cel g0 [av .u32 8 x0.s, [vp1], [.int .i64 x0.n]] 104, row 5 1 vp1 x0.rest.length cp1] w') := by
  refine enter Tryd.func65 rfl Tryd.ntmps65 rfl fun a hA => ?_
  have hI := Iv.startN hμ ho0
  have H := bI H
  refine w_seq fun _ hN1 => w_reg <| o_new [av .u32 8 (List.replicate 8 0)] zr102 hI hA rfl fun g1 a w hA hI hg1 => ?_
  refine o_nil <| hN1 _ _ <| w_seq fun _ hN2 => w_seq fun _ hN3 => w_reg <| stm hA rfl rfl fun a hA => 
    stp hA (r_nilc hA rfl) rfl fun a hA => 
    stp hA (r_fd (k := 9) Tryd.underlying104 rfl sz2 hA rfl rfl) rfl fun a hA => 
    stp hA (r_ld1 (j := 1) [av .u32 8 x0.s, [vp1]] [] Tryd.underlying2 rfl hI rfl hA rfl rfl) rfl fun a hA => 
    stp hA (r_lss hA rfl rfl) rfl fun a hA => ?_
  refine o_nil <| hN3 _ _ <| w_cond hA rfl (fun hc1 => ?_) (fun hc1 => ?_)
  · obtain ⟨hc1, H⟩ := dT H hc1
    refine w_seq fun _ hN4 => w_reg ?_
    obtain ⟨r1, hr1, H⟩ := bB H
    refine o_callp (u := .agg [av .u32 8 r1].flatten.toArray) cf67 hA rfl hI (digest_begin.c μ _ hI.agr  r1 hr1) rfl fun a w hz1 hI hA => 
      o_st (j := 0) [] [av .u32 8 (List.replicate 8 0)] [av .u32 8 r1] [] sz102 rfl rfl (fl_cons (one_av _ _ _) fl_nil) hI rfl hA rfl rfl rfl rfl fun w hI => ?_
    refine o_nil <| hN4 _ _ <| w_ret ?_
    obtain rfl := sJ H
    exact retc Tryd.underlying102 rfl sz102 rfl hI (j := 0) rfl hA Tryd.results65 rfl ⟨_, rfl, rfl, hz1, ((hI.sl [1, 2] rfl).less (Store.le.refl _) hI.le)⟩
  · obtain ⟨hc1, H⟩ := dF H hc1
    refine w_skip <| hN2 _ _ <| w_seq fun _ hN5 => w_reg <| stm hA rfl rfl fun a hA => 
      stp hA (r_nilc hA rfl) rfl fun a hA => 
      stp hA (r_fd (k := 0) Tryd.underlying104 rfl sz102 hA rfl rfl) rfl fun a hA => 
      stp hA (r_ldA (j := 1) [] [av .u32 8 x0.s] [[vp1], [.int .i64 x0.n]] Tryd.underlying102 rfl sz102 rfl hI rfl hA rfl rfl) rfl fun a hA => 
      o_st (j := 0) [] [av .u32 8 (List.replicate 8 0)] [av .u32 8 x0.s] [] sz102 rfl rfl (fl_cons (one_av _ _ _) fl_nil) hI rfl hA rfl rfl rfl rfl fun w hI => ?_
    refine o_nil <| hN5 _ _ <| w_ret ?_
    obtain rfl := sJ H
    exact retc Tryd.underlying102 rfl sz102 rfl hI (j := 0) rfl hA Tryd.results65 rfl ⟨_, rfl, rfl, hp1, ((hI.sl [1, 2] rfl).less (Store.le.refl _) hI.le)⟩
set_option maxRecDepth 20000 in
theorem digest_turn.c (μ : Store) (w0 : World) (hμ : Agr μ w0) (x0 : Int) (hx0 : InR .u32 x0) (x1 : Int) (hx1 : InR .i64 x1) (r : Int) (H : digest_turn.f x0 x1 = some r) :
    Calls Tryd.prog 70 [.int .u32 x0, .int .i64 x1].toArray w0 (fun e w' => ∃ v, e = .returned v ∧ v = .int .u32 r ∧ InR .u32 r ∧ Iv w0 [] μ μ [] w') := by
  refine enter Tryd.func70 rfl Tryd.ntmps70 rfl fun a hA => ?_
  have hI := Iv.start hμ
  have H := bI H
  refine w_seq fun _ hN1 => w_reg <| sta hA rfl rfl fun a hA => ?_
  refine o_nil <| hN1 _ _ <| w_seq fun _ hN2 => w_reg <| stm hA rfl rfl fun a hA => 
    stm hA rfl rfl fun a hA => 
    stp hA (r_neg hA rfl) rfl fun a hA => ?_
  obtain ⟨r1, hr1, H⟩ := bB H
  refine o_callp (u := .int .u32 r1) cf71 hA rfl hI (math_bits_RotateLeft32.c μ _ hI.agr x0 hx0 (IntKind.i64.wrap (0 - x1)) (wrap_in _ _) r1 hr1) rfl fun a w hz1 hI hA => 
    sta hA rfl rfl fun a hA => ?_
  refine o_nil <| hN2 _ _ <| w_ret ?_
  obtain rfl := sJ H
  exact ret1 hA Tryd.results70 rfl ⟨_, rfl, rfl, hz1, hI.forget0⟩
set_option maxRecDepth 20000 in
theorem digest_spread.c (μ : Store) (w0 : World) (hμ : Agr μ w0) (x0 : List Int) (u0 : Value) (hx0 : Slc (RI .u8) 1 μ u0 x0) (r : List Int) (H : digest_spread.f x0 = some r) :
    Calls Tryd.prog 68 [u0].toArray w0 (fun e w' => ∃ v, e = .returned v ∧ v = .agg [av .u32 64 r].flatten.toArray ∧ Arr .u32 64 r ∧ Iv w0 [] μ μ [] w') := by
  refine enter Tryd.func68 rfl Tryd.ntmps68 rfl fun a hA => ?_
  have hI := Iv.start hμ
  have H := bI H
  refine w_seq fun _ hN1 => w_reg <| o_new [av .u32 64 (List.replicate 64 0)] zr115 hI hA rfl fun g1 a w hA hI hg1 => ?_
  refine o_nil <| hN1 _ _ <| w_seq fun _ hN2 => w_reg <| o_new [av .u32 64 (List.replicate 64 0)] zr115 hI hA rfl fun g2 a w hA hI hg2 => ?_
  refine o_nil <| hN2 _ _ ?_
  obtain ⟨c1, hz1, Hk1⟩ := bB H
  refine w_cut (fun a w => Arr .u32 64 c1 ∧ Fr a 80 [(2, .pointer (some ⟨g1, 0, none⟩)), (3, .pointer (some ⟨g2, 0, none⟩))] ∧ Iv w0 [] μ μ [cel g2 [av .u32 64 c1] 115, cel g1 [av .u32 64 (List.replicate 64 0)] 115] w) ?_ ?_
  · have H := bI hz1
    refine w_seq fun _ hN3 => w_reg <| stm hA rfl rfl fun a hA => ?_
    refine o_nil <| hN3 _ _ <| w_block ?_
    obtain ⟨z1, hz2, Hk2⟩ := bind_some H
    obtain ⟨n1, hn1⟩ := loopO_some hz2
    refine w_loop (fun n a w => ∃ (s1 : Int) (s2 : List Int), loopN (digest_spread.s0 x0) n (s1, s2) = some z1 ∧ InR .i64 s1 ∧ Arr .u32 64 s2 ∧ Fr a 80 [(0, u0), (2, .pointer (some ⟨g1, 0, none⟩)), (3, .pointer (some ⟨g2, 0, none⟩)), (8, .int .i64 s1)] ∧ Iv w0 [] μ μ [cel g2 [av .u32 64 s2] 115, cel g1 [av .u32 64 (List.replicate 64 0)] 115] w) n1 ⟨0, (List.replicate 64 0), hn1, (in_lit .i64 0 rfl), (arr_zero _ _), hA.sub ⟨rfl, rfl, rfl, rfl, trivial⟩, hI⟩ ?_
    clear hA hI
    rintro n a w ⟨s1, s2, hn1, ws1, ws2, hA, hI⟩
    obtain ⟨m1, rfl, H⟩ := loopN_bind hn1
    clear hn1
    refine w_seq fun _ hN4 => w_reg <| stp hA (r_lss hA rfl rfl) rfl fun a hA => ?_
    refine o_nil <| hN4 _ _ <| w_seq fun _ hN5 => w_cond hA rfl (fun hc1 => ?_) (fun hc1 => ?_)
    · obtain ⟨hc1, H⟩ := dT H hc1
      refine w_skip <| hN5 _ _ ?_
      obtain ⟨c2, hz3, Hk3⟩ := bB H
      refine w_cut (fun a w => Arr .u32 64 c2 ∧ Fr a 80 [(0, u0), (2, .pointer (some ⟨g1, 0, none⟩)), (3, .pointer (some ⟨g2, 0, none⟩)), (8, .int .i64 s1), (9, .bool (decide (s1 < 64)))] ∧ Iv w0 [] μ μ [cel g2 [av .u32 64 c2] 115, cel g1 [av .u32 64 (List.replicate 64 0)] 115] w) ?_ ?_
      · have H := bI hz3
        refine w_block <| w_seq fun _ hN6 => w_reg <| stm hA rfl rfl fun a hA => 
          sta hA rfl rfl fun a hA => ?_
        refine o_nil <| hN6 _ _ <| w_seq fun _ hN7 => w_seq fun _ hN8 => w_reg <| stm hA rfl rfl fun a hA => 
          stp hA (r_lss hA rfl rfl) rfl fun a hA => ?_
        refine o_nil <| hN8 _ _ <| w_cond hA rfl (fun hc2 => ?_) (fun hc2 => ?_)
        · obtain ⟨hc2, H⟩ := dT H hc2
          refine w_seq fun _ hN9 => w_reg <| stm hA rfl rfl fun a hA => 
            stm hA rfl rfl fun a hA => 
            stp hA (r_mul hA rfl rfl) rfl fun a hA => ?_
          obtain ⟨hb1, H⟩ := bG H
          obtain ⟨v1, hS1, hr1⟩ := r_sl (P := Tryd.prog) (t := 40) (x := .tmp 13) (l := (some (.tmp 15))) (h := none) (i := IntKind.i64.wrap (4 * s1)) (j := (x0.length : Int)) Tryd.underlying40 sz5 hx0 hA rfl rfl rfl (by have hq := hb1; omega) (by have hq := hb1; omega) (by have hq := hb1; omega)
          refine stp hA (hr1 _ _ _ _ _ _) rfl fun a hA => 
            sta hA rfl rfl fun a hA => ?_
          refine o_nil <| hN9 _ _ <| w_seq fun _ hN10 => ?_
          refine w_anyS [] mo (fun w (h : Iv w0 [] μ μ [cel g2 [av .u32 64 s2] 115, cel g1 [av .u32 64 (List.replicate 64 0)] 115] w) => (h.sl [1] rfl : Iv w0 [] μ μ [cel g1 [av .u32 64 (List.replicate 64 0)] 115] w)) hI fun w hI => ?_
          refine gE 0 hA rfl (.inr (hI.sl [1] rfl)) (fun _ => r_mv hA rfl) fun a hA => ?_
          refine gE 1 hA rfl (.inr (hI.sl [1] rfl)) (fun _ => r_mv hA rfl) fun a hA => ?_
          obtain ⟨hb2, H⟩ := bG H
          obtain ⟨_, he1, _, hat1⟩ := Slc.elem1 hS1 (getD_some 0 (by decide) hb2)
          obtain ⟨rfl, hw1⟩ := he1
          obtain ⟨_, hsl1⟩ := Slc.sv hS1
          refine gE 2 hA rfl (.inr (hI.sl [1] rfl)) (fun _ => r_six1 Tryd.underlying40 sz5 hsl1 hA rfl rfl (by decide) hb2) fun a hA => ?_
          refine gT 3 hA rfl (hI.sl [1] rfl) (fun w hI => r_ldm1 [] [] Tryd.underlying5 rfl hI.agr hat1 hA rfl rfl) fun a hA => ?_
          refine gE 4 hA rfl (.inr (hI.sl [1] rfl)) (fun _ => r_conv Tryd.underlying5 Tryd.underlying24 hA rfl) fun a hA => ?_
          refine gE 5 hA rfl (.inr (hI.sl [1] rfl)) (fun _ => r_shl hA rfl rfl (by decide)) fun a hA => ?_
          refine gE 6 hA rfl (.inr (hI.sl [1] rfl)) (fun _ => r_mv hA rfl) fun a hA => ?_
          obtain ⟨hb3, H⟩ := bG H
          obtain ⟨_, he2, _, hat2⟩ := Slc.elem1 hS1 (getD_some 0 (by decide) hb3)
          obtain ⟨rfl, hw2⟩ := he2
          obtain ⟨_, hsl2⟩ := Slc.sv hS1
          refine gE 7 hA rfl (.inr (hI.sl [1] rfl)) (fun _ => r_six1 Tryd.underlying40 sz5 hsl2 hA rfl rfl (by decide) hb3) fun a hA => ?_
          refine gT 8 hA rfl (hI.sl [1] rfl) (fun w hI => r_ldm1 [] [] Tryd.underlying5 rfl hI.agr hat2 hA rfl rfl) fun a hA => ?_
          refine gE 9 hA rfl (.inr (hI.sl [1] rfl)) (fun _ => r_conv Tryd.underlying5 Tryd.underlying24 hA rfl) fun a hA => ?_
          refine gE 10 hA rfl (.inr (hI.sl [1] rfl)) (fun _ => r_shl hA rfl rfl (by decide)) fun a hA => ?_
          refine gE 11 hA rfl (.inr (hI.sl [1] rfl)) (fun _ => r_or hA rfl rfl) fun a hA => ?_
          refine gE 12 hA rfl (.inr (hI.sl [1] rfl)) (fun _ => r_mv hA rfl) fun a hA => ?_
          obtain ⟨hb4, H⟩ := bG H
          obtain ⟨_, he3, _, hat3⟩ := Slc.elem1 hS1 (getD_some 0 (by decide) hb4)
          obtain ⟨rfl, hw3⟩ := he3
          obtain ⟨_, hsl3⟩ := Slc.sv hS1
          refine gE 13 hA rfl (.inr (hI.sl [1] rfl)) (fun _ => r_six1 Tryd.underlying40 sz5 hsl3 hA rfl rfl (by decide) hb4) fun a hA => ?_
          refine gT 14 hA rfl (hI.sl [1] rfl) (fun w hI => r_ldm1 [] [] Tryd.underlying5 rfl hI.agr hat3 hA rfl rfl) fun a hA => ?_
          refine gE 15 hA rfl (.inr (hI.sl [1] rfl)) (fun _ => r_conv Tryd.underlying5 Tryd.underlying24 hA rfl) fun a hA => ?_
          refine gE 16 hA rfl (.inr (hI.sl [1] rfl)) (fun _ => r_shl hA rfl rfl (by decide)) fun a hA => ?_
          refine gE 17 hA rfl (.inr (hI.sl [1] rfl)) (fun _ => r_or hA rfl rfl) fun a hA => ?_
          refine gE 18 hA rfl (.inr (hI.sl [1] rfl)) (fun _ => r_mv hA rfl) fun a hA => ?_
          obtain ⟨hb5, H⟩ := bG H
          obtain ⟨_, he4, _, hat4⟩ := Slc.elem1 hS1 (getD_some 0 (by decide) hb5)
          obtain ⟨rfl, hw4⟩ := he4
          obtain ⟨_, hsl4⟩ := Slc.sv hS1
          refine gE 19 hA rfl (.inr (hI.sl [1] rfl)) (fun _ => r_six1 Tryd.underlying40 sz5 hsl4 hA rfl rfl (by decide) hb5) fun a hA => ?_
          refine gT 20 hA rfl (hI.sl [1] rfl) (fun w hI => r_ldm1 [] [] Tryd.underlying5 rfl hI.agr hat4 hA rfl rfl) fun a hA => ?_
          refine gE 21 hA rfl (.inr (hI.sl [1] rfl)) (fun _ => r_conv Tryd.underlying5 Tryd.underlying24 hA rfl) fun a hA => ?_
          refine gE 22 hA rfl (.inr (hI.sl [1] rfl)) (fun _ => r_or hA rfl rfl) fun a hA => ?_
          obtain ⟨hb6, H⟩ := bG H
          refine gE 23 hA rfl (.inr (hI.sl [1] rfl)) (fun _ => r_ixar1 Tryd.underlying115 sz24 hA rfl rfl hb6.1 hb6.2) fun a hA => ?_
          refine gF 24 rfl ?_
          refine o_stE (j := 0) [] [] sz24 ws2.1 hI rfl hA rfl rfl rfl (by omega) fun w hI => ?_
          refine o_nil <| ⟨(.inr (hI.sl [1] rfl)), ?_⟩
          refine gN <| hN10 _ _ <| w_exit rfl ?_
          cases sJ H
          exact ⟨(arr_set ws2 _ (wrap_in _ _)), hA.sub ⟨rfl, rfl, rfl, rfl, rfl, trivial⟩, hI⟩
        · obtain ⟨hc2, H⟩ := dF H hc2
          refine w_skip <| hN7 _ _ <| w_seq fun _ hN11 => ?_
          refine w_draw mo (by kernel_rfl) hI ?_
          refine qtp hA (fun _ hI => r_mv hA rfl) rfl fun a hA => 
            qtp hA (fun _ hI => r_sub hA rfl rfl) rfl fun a hA => ?_
          obtain ⟨hb7, H⟩ := bG H
          refine qtp hA (fun _ hI => r_ixar1 Tryd.underlying115 sz24 hA rfl rfl hb7.1 hb7.2) rfl fun a hA => 
            qtp hA (fun _ hI => r_ldE (j := 0) [] [] Tryd.underlying24 rfl hI rfl hA rfl rfl (by omega)) rfl fun a hA => 
            qtp hA (fun _ hI => r_mv hA rfl) rfl fun a hA => 
            qtp hA (fun _ hI => r_sub hA rfl rfl) rfl fun a hA => ?_
          obtain ⟨hb8, H⟩ := bG H
          refine qtp hA (fun _ hI => r_ixar1 Tryd.underlying115 sz24 hA rfl rfl hb8.1 hb8.2) rfl fun a hA => 
            qtp hA (fun _ hI => r_ldE (j := 0) [] [] Tryd.underlying24 rfl hI rfl hA rfl rfl (by omega)) rfl fun a hA => 
            qtp hA (fun _ hI => r_as hA rfl) rfl fun a hA => 
            qtp hA (fun _ hI => r_as hA rfl) rfl fun a hA => ?_
          refine q_nil fun w hI => ?_
          refine hN11 _ _ ?_
          refine w_any [29] mo hI fun w hI => ?_
          refine gE 0 hA rfl (.inr hI) (fun _ => r_mv hA rfl) fun a hA => ?_
          refine gE 1 hA rfl (.inr hI) (fun _ => r_mv hA rfl) fun a hA => ?_
          refine gE 3 hA rfl (.inr hI) (fun _ => r_mv hA rfl) fun a hA => ?_
          refine gE 6 hA rfl (.inr hI) (fun _ => r_mv hA rfl) fun a hA => ?_
          refine gE 7 hA rfl (.inr hI) (fun _ => r_shr hA rfl rfl (by decide)) fun a hA => ?_
          refine gE 9 hA rfl (.inr hI) (fun _ => r_mv hA rfl) fun a hA => ?_
          refine gE 10 hA rfl (.inr hI) (fun _ => r_sub hA rfl rfl) fun a hA => ?_
          obtain ⟨hb9, H⟩ := bG H
          refine gE 11 hA rfl (.inr hI) (fun _ => r_ixar1 Tryd.underlying115 sz24 hA rfl rfl hb9.1 hb9.2) fun a hA => ?_
          refine gT 12 hA rfl hI (fun w hI => r_ldE (j := 0) [] [] Tryd.underlying24 rfl hI rfl hA rfl rfl (by omega)) fun a hA => ?_
          refine gE 14 hA rfl (.inr hI) (fun _ => r_mv hA rfl) fun a hA => ?_
          refine gE 16 hA rfl (.inr hI) (fun _ => r_mv hA rfl) fun a hA => ?_
          refine gE 19 hA rfl (.inr hI) (fun _ => r_mv hA rfl) fun a hA => ?_
          refine gE 20 hA rfl (.inr hI) (fun _ => r_shr hA rfl rfl (by decide)) fun a hA => ?_
          refine gE 23 hA rfl (.inr hI) (fun _ => r_mv hA rfl) fun a hA => ?_
          refine gE 24 hA rfl (.inr hI) (fun _ => r_sub hA rfl rfl) fun a hA => ?_
          obtain ⟨hb10, H⟩ := bG H
          refine gE 25 hA rfl (.inr hI) (fun _ => r_ixar1 Tryd.underlying115 sz24 hA rfl rfl hb10.1 hb10.2) fun a hA => ?_
          refine gT 26 hA rfl hI (fun w hI => r_ldE (j := 0) [] [] Tryd.underlying24 rfl hI rfl hA rfl rfl (by omega)) fun a hA => ?_
          refine gF 2 rfl ?_
          obtain ⟨r1, hr2, H⟩ := bB H
          refine o_callp (u := .int .u32 r1) cf70 hA rfl hI (digest_turn.c μ _ hI.agr (s2.getD (IntKind.i64.wrap (s1 - 2)).toNat 0) (arr_get ws2 _) 17 (in_lit .i64 17 rfl) r1 hr2) rfl fun a w hz4 hI hA => ?_
          refine o_nil <| ⟨(.inr hI), ?_⟩
          refine gF 4 rfl ?_
          obtain ⟨r2, hr3, H⟩ := bB H
          refine o_callp (u := .int .u32 r2) cf70 hA rfl hI (digest_turn.c μ _ hI.agr (s2.getD (IntKind.i64.wrap (s1 - 2)).toNat 0) (arr_get ws2 _) 19 (in_lit .i64 19 rfl) r2 hr3) rfl fun a w hz5 hI hA => ?_
          refine o_nil <| ⟨(.inr hI), ?_⟩
          refine gE 5 hA rfl (.inr hI) (fun _ => r_xor hA rfl rfl) fun a hA => ?_
          refine gE 8 hA rfl (.inr hI) (fun _ => r_xor hA rfl rfl) fun a hA => ?_
          refine gE 13 hA rfl (.inr hI) (fun _ => r_add hA rfl rfl) fun a hA => ?_
          refine gF 15 rfl ?_
          obtain ⟨r3, hr4, H⟩ := bB H
          refine o_callp (u := .int .u32 r3) cf70 hA rfl hI (digest_turn.c μ _ hI.agr (s2.getD (IntKind.i64.wrap (s1 - 15)).toNat 0) (arr_get ws2 _) 7 (in_lit .i64 7 rfl) r3 hr4) rfl fun a w hz6 hI hA => ?_
          refine o_nil <| ⟨(.inr hI), ?_⟩
          refine gF 17 rfl ?_
          obtain ⟨r4, hr5, H⟩ := bB H
          refine o_callp (u := .int .u32 r4) cf70 hA rfl hI (digest_turn.c μ _ hI.agr (s2.getD (IntKind.i64.wrap (s1 - 15)).toNat 0) (arr_get ws2 _) 18 (in_lit .i64 18 rfl) r4 hr5) rfl fun a w hz7 hI hA => ?_
          refine o_nil <| ⟨(.inr hI), ?_⟩
          refine gE 18 hA rfl (.inr hI) (fun _ => r_xor hA rfl rfl) fun a hA => ?_
          refine gE 21 hA rfl (.inr hI) (fun _ => r_xor hA rfl rfl) fun a hA => ?_
          refine gE 22 hA rfl (.inr hI) (fun _ => r_add hA rfl rfl) fun a hA => ?_
          refine gE 27 hA rfl (.inr hI) (fun _ => r_add hA rfl rfl) fun a hA => ?_
          obtain ⟨hb11, H⟩ := bG H
          refine gE 28 hA rfl (.inr hI) (fun _ => r_ixar1 Tryd.underlying115 sz24 hA rfl rfl hb11.1 hb11.2) fun a hA => ?_
          refine gF 29 rfl ?_
          refine o_stE (j := 0) [] [] sz24 ws2.1 hI rfl hA rfl rfl rfl (by omega) fun w hI => ?_
          refine o_nil <| ⟨(.inl (by kernel_rfl)), ?_⟩
          refine gN ?_
          cases sJ H
          exact ⟨(arr_set ws2 _ (wrap_in _ _)), hA.sub ⟨rfl, rfl, rfl, rfl, rfl, trivial⟩, hI⟩
      · rintro a w ⟨wc2, hA, hI⟩
        have H := Hk3
        refine w_reg <| stp hA (r_add hA rfl rfl) rfl fun a hA => 
          stm hA rfl rfl fun a hA => ?_
        refine o_nil <| ⟨m1, Nat.lt_succ_self _, IntKind.i64.wrap (s1 + 1), c2, H, (wrap_in _ _), wc2, hA.sub ⟨rfl, rfl, rfl, rfl, trivial⟩, hI⟩
    · obtain ⟨hc1, H⟩ := dF H hc1
      refine w_exit rfl ?_
      have H : some s2 = some z1 := H
      obtain rfl := sI H
      have H := Hk2
      cases sJ H
      exact ⟨ws2, hA.sub ⟨rfl, rfl, trivial⟩, hI⟩
  · rintro a w ⟨wc1, hA, hI⟩
    have H := Hk1
    refine w_seq fun _ hN12 => w_reg <| stp hA (r_ldA (j := 0) [] [av .u32 64 c1] [] Tryd.underlying115 rfl sz115 rfl hI rfl hA rfl rfl) rfl fun a hA => 
      o_st (j := 1) [] [av .u32 64 (List.replicate 64 0)] [av .u32 64 c1] [] sz115 rfl rfl (fl_cons (one_av _ _ _) fl_nil) hI rfl hA rfl rfl rfl rfl fun w hI => ?_
    refine o_nil <| hN12 _ _ <| w_ret ?_
    obtain rfl := sJ H
    exact retc Tryd.underlying115 rfl sz115 rfl hI (j := 1) rfl hA Tryd.results68 rfl ⟨_, rfl, rfl, wc1, hI.forget0⟩
set_option maxRecDepth 20000 in
theorem digest_keys.c (μ : Store) (w0 : World) (hμ : Agr μ w0) (r : List Int) (H : digest_keys.f = some r) :
    Calls Tryd.prog 69 [].toArray w0 (fun e w' => ∃ v, e = .returned v ∧ v = .agg [av .u32 64 r].flatten.toArray ∧ Arr .u32 64 r ∧ Iv w0 [] μ μ [] w') := by
  refine enter Tryd.func69 rfl Tryd.ntmps69 rfl fun a hA => ?_
  have hI := Iv.start hμ
  have H := bI H
  refine w_seq fun _ hN1 => w_reg <| o_new [av .u32 64 (List.replicate 64 0)] zr115 hI hA rfl fun g1 a w hA hI hg1 => ?_
  refine o_nil <| hN1 _ _ <| w_seq fun _ hN2 => w_reg <| stp hA (r_bldA (cs := [av .u32 64 digest_keys.lit0].flatten.toArray) (pv := numbered .u32 digest_keys.lit0) zr115 Tryd.underlying115 sz24 hA (by kernel_rfl) (by kernel_rfl)) rfl fun a hA => 
    o_st (j := 0) [] [av .u32 64 (List.replicate 64 0)] [av .u32 64 digest_keys.lit0] [] sz115 rfl rfl (fl_cons (one_av _ _ _) fl_nil) hI rfl hA rfl rfl rfl rfl fun w hI => ?_
  refine o_nil <| hN2 _ _ <| w_ret ?_
  obtain rfl := sJ H
  exact retc Tryd.underlying115 rfl sz115 rfl hI (j := 0) rfl hA Tryd.results69 rfl ⟨_, rfl, rfl, (arr_lit (by kernel_rfl) digest_keys.lit0_in), hI.forget0⟩
set_option maxRecDepth 20000 in
theorem digest_mix.c (μ : Store) (w0 : World) (hμ : Agr μ w0) (x0 : List Int) (hx0 : Arr .u32 8 x0) (x1 : List Int) (u1 : Value) (hx1 : Slc (RI .u8) 1 μ u1 x1) (r : List Int) (H : digest_mix.f x0 x1 = some r) :
    Calls Tryd.prog 66 [.agg [av .u32 8 x0].flatten.toArray, u1].toArray w0 (fun e w' => ∃ v, e = .returned v ∧ v = .agg [av .u32 8 r].flatten.toArray ∧ Arr .u32 8 r ∧ Iv w0 [] μ μ [] w') := by
  refine enter Tryd.func66 rfl Tryd.ntmps66 rfl fun a hA => ?_
  have hI := Iv.start hμ
  have H := bI H
  refine w_seq fun _ hN1 => w_reg <| o_box [av .u32 8 x0] hI hA rfl rfl rfl fun g1 a w hA hI hg1 => 
    o_new [av .u32 8 (List.replicate 8 0)] zr102 hI hA rfl fun g2 a w hA hI hg2 => ?_
  refine o_nil <| hN1 _ _ <| w_seq fun _ hN2 => w_reg <| stm hA rfl rfl fun a hA => ?_
  obtain ⟨r1, hr1, H⟩ := bB H
  refine o_callp (u := .agg [av .u32 64 r1].flatten.toArray) cf68 hA rfl hI (digest_spread.c μ _ hI.agr x1 u1 hx1 r1 hr1) rfl fun a w hz1 hI hA => ?_
  obtain ⟨r2, hr2, H⟩ := bB H
  refine o_callp (u := .agg [av .u32 64 r2].flatten.toArray) cf69 hA rfl hI (digest_keys.c μ _ hI.agr  r2 hr2) rfl fun a w hz2 hI hA => 
    o_new [av .u32 64 (List.replicate 64 0)] zr115 hI hA rfl fun g3 a w hA hI hg3 => 
    o_new [av .u32 64 (List.replicate 64 0)] zr115 hI hA rfl fun g4 a w hA hI hg4 => 
    o_st (j := 1) [] [av .u32 64 (List.replicate 64 0)] [av .u32 64 r1] [] sz115 rfl rfl (fl_cons (one_av _ _ _) fl_nil) hI rfl hA rfl rfl rfl rfl fun w hI => 
    o_st (j := 0) [] [av .u32 64 (List.replicate 64 0)] [av .u32 64 r2] [] sz115 rfl rfl (fl_cons (one_av _ _ _) fl_nil) hI rfl hA rfl rfl rfl rfl fun w hI => ?_
  refine o_nil <| hN2 _ _ <| w_seq fun _ hN3 => w_reg <| stp hA (r_ldA (j := 3) [] [av .u32 8 x0] [] Tryd.underlying102 rfl sz102 rfl hI rfl hA rfl rfl) rfl fun a hA => 
    o_new [av .u32 8 (List.replicate 8 0)] zr102 hI hA rfl fun g5 a w hA hI hg5 => 
    o_st (j := 0) [] [av .u32 8 (List.replicate 8 0)] [av .u32 8 x0] [] sz102 rfl rfl (fl_cons (one_av _ _ _) fl_nil) hI rfl hA rfl rfl rfl rfl fun w hI => ?_
  refine o_nil <| hN3 _ _ ?_
  obtain ⟨c1, hz3, Hk1⟩ := bB H
  refine w_cut (fun a w => Arr .u32 8 c1 ∧ Fr a 111 [(2, .pointer (some ⟨g1, 0, none⟩)), (4, .pointer (some ⟨g2, 0, none⟩)), (7, .pointer (some ⟨g5, 0, none⟩))] ∧ Iv w0 [] μ μ [cel g5 [av .u32 8 c1] 102, cel g4 [av .u32 64 r2] 115, cel g3 [av .u32 64 r1] 115, cel g2 [av .u32 8 (List.replicate 8 0)] 102, cel g1 [av .u32 8 x0] 102] w) ?_ ?_
  · have H := bI hz3
    refine w_seq fun _ hN4 => w_reg <| stm hA rfl rfl fun a hA => ?_
    refine o_nil <| hN4 _ _ <| w_block ?_
    obtain ⟨z1, hz4, Hk2⟩ := bind_some H
    obtain ⟨n1, hn1⟩ := loopO_some hz4
    refine w_loop (fun n a w => ∃ (s1 : Int) (s2 : List Int), loopN (digest_mix.s0 r1 r2) n (s1, s2) = some z1 ∧ InR .i64 s1 ∧ Arr .u32 8 s2 ∧ Fr a 111 [(2, .pointer (some ⟨g1, 0, none⟩)), (4, .pointer (some ⟨g2, 0, none⟩)), (5, .pointer (some ⟨g3, 0, none⟩)), (6, .pointer (some ⟨g4, 0, none⟩)), (7, .pointer (some ⟨g5, 0, none⟩)), (18, .int .i64 s1)] ∧ Iv w0 [] μ μ [cel g5 [av .u32 8 s2] 102, cel g4 [av .u32 64 r2] 115, cel g3 [av .u32 64 r1] 115, cel g2 [av .u32 8 (List.replicate 8 0)] 102, cel g1 [av .u32 8 x0] 102] w) n1 ⟨0, x0, hn1, (in_lit .i64 0 rfl), hx0, hA.sub ⟨rfl, rfl, rfl, rfl, rfl, rfl, trivial⟩, hI⟩ ?_
    clear hA hI
    rintro n a w ⟨s1, s2, hn1, ws1, ws2, hA, hI⟩
    obtain ⟨m1, rfl, H⟩ := loopN_bind hn1
    clear hn1
    refine w_seq fun _ hN5 => w_reg <| stp hA (r_lss hA rfl rfl) rfl fun a hA => ?_
    refine o_nil <| hN5 _ _ <| w_seq fun _ hN6 => w_cond hA rfl (fun hc1 => ?_) (fun hc1 => ?_)
    · obtain ⟨hc1, H⟩ := dT H hc1
      refine w_skip <| hN6 _ _ <| w_seq fun _ hN7 => w_block <| w_seq fun _ hN8 => w_reg <| stm hA rfl rfl fun a hA => 
        sta hA rfl rfl fun a hA => ?_
      refine o_nil <| hN8 _ _ <| w_seq fun _ hN9 => ?_
      refine w_draw mo (by kernel_rfl) hI ?_
      refine qtp hA (fun _ hI => r_ixar1 Tryd.underlying102 sz24 hA rfl rfl (by decide) (by decide)) rfl fun a hA => 
        qtp hA (fun _ hI => r_ldE (j := 0) [] [] Tryd.underlying24 rfl hI rfl hA rfl rfl (by decide)) rfl fun a hA => 
        qtp hA (fun _ hI => r_ixar1 Tryd.underlying102 sz24 hA rfl rfl (by decide) (by decide)) rfl fun a hA => 
        qtp hA (fun _ hI => r_ldE (j := 0) [] [] Tryd.underlying24 rfl hI rfl hA rfl rfl (by decide)) rfl fun a hA => 
        qtp hA (fun _ hI => r_as hA rfl) rfl fun a hA => 
        qtp hA (fun _ hI => r_as hA rfl) rfl fun a hA => ?_
      refine q_nil fun w hI => ?_
      refine hN9 _ _ <| w_seq fun _ hN10 => ?_
      refine w_draw mo (by kernel_rfl) hI ?_
      refine qtp hA (fun _ hI => r_ixar1 Tryd.underlying102 sz24 hA rfl rfl (by decide) (by decide)) rfl fun a hA => 
        qtp hA (fun _ hI => r_ldE (j := 0) [] [] Tryd.underlying24 rfl hI rfl hA rfl rfl (by decide)) rfl fun a hA => 
        qtp hA (fun _ hI => r_mv hA rfl) rfl fun a hA => ?_
      obtain ⟨r3, hr3, H⟩ := bB H
      refine qcall (v := .int .u32 r3) cf70 hA rfl (fun _ hI => plq (digest_turn.c μ _ hI.agr (s2.getD (4 : Int).toNat 0) (arr_get ws2 _) 6 (in_lit .i64 6 rfl) r3 hr3) hI) rfl fun a hA => 
        qtp hA (fun _ hI => r_mv hA rfl) rfl fun a hA => ?_
      obtain ⟨r4, hr4, H⟩ := bB H
      refine qcall (v := .int .u32 r4) cf70 hA rfl (fun _ hI => plq (digest_turn.c μ _ hI.agr (s2.getD (4 : Int).toNat 0) (arr_get ws2 _) 11 (in_lit .i64 11 rfl) r4 hr4) hI) rfl fun a hA => 
        qtp hA (fun _ hI => r_xor hA rfl rfl) rfl fun a hA => 
        qtp hA (fun _ hI => r_mv hA rfl) rfl fun a hA => ?_
      obtain ⟨r5, hr5, H⟩ := bB H
      refine qcall (v := .int .u32 r5) cf70 hA rfl (fun _ hI => plq (digest_turn.c μ _ hI.agr (s2.getD (4 : Int).toNat 0) (arr_get ws2 _) 25 (in_lit .i64 25 rfl) r5 hr5) hI) rfl fun a hA => 
        qtp hA (fun _ hI => r_xor hA rfl rfl) rfl fun a hA => 
        qtp hA (fun _ hI => r_add hA rfl rfl) rfl fun a hA => 
        qtp hA (fun _ hI => r_mv hA rfl) rfl fun a hA => 
        qtp hA (fun _ hI => r_ixar1 Tryd.underlying102 sz24 hA rfl rfl (by decide) (by decide)) rfl fun a hA => 
        qtp hA (fun _ hI => r_ldE (j := 0) [] [] Tryd.underlying24 rfl hI rfl hA rfl rfl (by decide)) rfl fun a hA => 
        qtp hA (fun _ hI => r_and hA rfl rfl) rfl fun a hA => 
        qtp hA (fun _ hI => r_mv hA rfl) rfl fun a hA => 
        qtp hA (fun _ hI => r_inv hA rfl) rfl fun a hA => 
        qtp hA (fun _ hI => r_ixar1 Tryd.underlying102 sz24 hA rfl rfl (by decide) (by decide)) rfl fun a hA => 
        qtp hA (fun _ hI => r_ldE (j := 0) [] [] Tryd.underlying24 rfl hI rfl hA rfl rfl (by decide)) rfl fun a hA => 
        qtp hA (fun _ hI => r_and hA rfl rfl) rfl fun a hA => 
        qtp hA (fun _ hI => r_xor hA rfl rfl) rfl fun a hA => 
        qtp hA (fun _ hI => r_add hA rfl rfl) rfl fun a hA => 
        qtp hA (fun _ hI => r_mv hA rfl) rfl fun a hA => ?_
      obtain ⟨hb1, H⟩ := bG H
      refine qtp hA (fun _ hI => r_ixar1 Tryd.underlying115 sz24 hA rfl rfl hb1.1 hb1.2) rfl fun a hA => 
        qtp hA (fun _ hI => r_ldE (j := 1) [] [] Tryd.underlying24 rfl hI rfl hA rfl rfl (by omega)) rfl fun a hA => 
        qtp hA (fun _ hI => r_add hA rfl rfl) rfl fun a hA => 
        qtp hA (fun _ hI => r_mv hA rfl) rfl fun a hA => 
        qtp hA (fun _ hI => r_ixar1 Tryd.underlying115 sz24 hA rfl rfl hb1.1 hb1.2) rfl fun a hA => 
        qtp hA (fun _ hI => r_ldE (j := 2) [] [] Tryd.underlying24 rfl hI rfl hA rfl rfl (by omega)) rfl fun a hA => 
        qtp hA (fun _ hI => r_add hA rfl rfl) rfl fun a hA => 
        qtp hA (fun _ hI => r_as hA rfl) rfl fun a hA => ?_
      refine q_nil fun w hI => ?_
      refine hN10 _ _ <| w_seq fun _ hN11 => ?_
      refine w_draw mo (by kernel_rfl) hI ?_
      refine qtp hA (fun _ hI => r_mv hA rfl) rfl fun a hA => ?_
      obtain ⟨r6, hr6, H⟩ := bB H
      refine qcall (v := .int .u32 r6) cf70 hA rfl (fun _ hI => plq (digest_turn.c μ _ hI.agr (s2.getD (0 : Int).toNat 0) (arr_get ws2 _) 2 (in_lit .i64 2 rfl) r6 hr6) hI) rfl fun a hA => 
        qtp hA (fun _ hI => r_mv hA rfl) rfl fun a hA => ?_
      obtain ⟨r7, hr7, H⟩ := bB H
      refine qcall (v := .int .u32 r7) cf70 hA rfl (fun _ hI => plq (digest_turn.c μ _ hI.agr (s2.getD (0 : Int).toNat 0) (arr_get ws2 _) 13 (in_lit .i64 13 rfl) r7 hr7) hI) rfl fun a hA => 
        qtp hA (fun _ hI => r_xor hA rfl rfl) rfl fun a hA => 
        qtp hA (fun _ hI => r_mv hA rfl) rfl fun a hA => ?_
      obtain ⟨r8, hr8, H⟩ := bB H
      refine qcall (v := .int .u32 r8) cf70 hA rfl (fun _ hI => plq (digest_turn.c μ _ hI.agr (s2.getD (0 : Int).toNat 0) (arr_get ws2 _) 22 (in_lit .i64 22 rfl) r8 hr8) hI) rfl fun a hA => 
        qtp hA (fun _ hI => r_xor hA rfl rfl) rfl fun a hA => 
        qtp hA (fun _ hI => r_mv hA rfl) rfl fun a hA => 
        qtp hA (fun _ hI => r_ixar1 Tryd.underlying102 sz24 hA rfl rfl (by decide) (by decide)) rfl fun a hA => 
        qtp hA (fun _ hI => r_ldE (j := 0) [] [] Tryd.underlying24 rfl hI rfl hA rfl rfl (by decide)) rfl fun a hA => 
        qtp hA (fun _ hI => r_and hA rfl rfl) rfl fun a hA => 
        qtp hA (fun _ hI => r_mv hA rfl) rfl fun a hA => 
        qtp hA (fun _ hI => r_ixar1 Tryd.underlying102 sz24 hA rfl rfl (by decide) (by decide)) rfl fun a hA => 
        qtp hA (fun _ hI => r_ldE (j := 0) [] [] Tryd.underlying24 rfl hI rfl hA rfl rfl (by decide)) rfl fun a hA => 
        qtp hA (fun _ hI => r_and hA rfl rfl) rfl fun a hA => 
        qtp hA (fun _ hI => r_xor hA rfl rfl) rfl fun a hA => 
        qtp hA (fun _ hI => r_ixar1 Tryd.underlying102 sz24 hA rfl rfl (by decide) (by decide)) rfl fun a hA => 
        qtp hA (fun _ hI => r_ldE (j := 0) [] [] Tryd.underlying24 rfl hI rfl hA rfl rfl (by decide)) rfl fun a hA => 
        qtp hA (fun _ hI => r_ixar1 Tryd.underlying102 sz24 hA rfl rfl (by decide) (by decide)) rfl fun a hA => 
        qtp hA (fun _ hI => r_ldE (j := 0) [] [] Tryd.underlying24 rfl hI rfl hA rfl rfl (by decide)) rfl fun a hA => 
        qtp hA (fun _ hI => r_and hA rfl rfl) rfl fun a hA => 
        qtp hA (fun _ hI => r_xor hA rfl rfl) rfl fun a hA => 
        qtp hA (fun _ hI => r_add hA rfl rfl) rfl fun a hA => 
        qtp hA (fun _ hI => r_as hA rfl) rfl fun a hA => ?_
      refine q_nil fun w hI => ?_
      refine hN11 _ _ <| w_reg <| stm hA rfl rfl fun a hA => 
        stm hA rfl rfl fun a hA => 
        stp hA (r_add hA rfl rfl) rfl fun a hA => 
        stm hA rfl rfl fun a hA => 
        stp hA (r_ixar1 Tryd.underlying102 sz24 hA rfl rfl (by decide) (by decide)) rfl fun a hA => 
        stp hA (r_ldE (j := 0) [] [] Tryd.underlying24 rfl hI rfl hA rfl rfl (by decide)) rfl fun a hA => 
        stp hA (r_ixar1 Tryd.underlying102 sz24 hA rfl rfl (by decide) (by decide)) rfl fun a hA => 
        stp hA (r_ldE (j := 0) [] [] Tryd.underlying24 rfl hI rfl hA rfl rfl (by decide)) rfl fun a hA => 
        stp hA (r_ixar1 Tryd.underlying102 sz24 hA rfl rfl (by decide) (by decide)) rfl fun a hA => 
        stp hA (r_ldE (j := 0) [] [] Tryd.underlying24 rfl hI rfl hA rfl rfl (by decide)) rfl fun a hA => 
        stm hA rfl rfl fun a hA => 
        stp hA (r_add hA rfl rfl) rfl fun a hA => 
        stm hA rfl rfl fun a hA => 
        stp hA (r_ixar1 Tryd.underlying102 sz24 hA rfl rfl (by decide) (by decide)) rfl fun a hA => 
        stp hA (r_ldE (j := 0) [] [] Tryd.underlying24 rfl hI rfl hA rfl rfl (by decide)) rfl fun a hA => 
        stp hA (r_ixar1 Tryd.underlying102 sz24 hA rfl rfl (by decide) (by decide)) rfl fun a hA => 
        stp hA (r_ldE (j := 0) [] [] Tryd.underlying24 rfl hI rfl hA rfl rfl (by decide)) rfl fun a hA => 
        stp hA (r_bldA (cs := [av .u32 8 ([IntKind.u32.wrap ((IntKind.u32.wrap ((IntKind.u32.wrap ((IntKind.u32.wrap ((IntKind.u32.wrap ((s2.getD (7 : Int).toNat 0) + (bXor .u32 (bXor .u32 r3 r4) r5))) + (bXor .u32 (bAnd .u32 (s2.getD (4 : Int).toNat 0) (s2.getD (5 : Int).toNat 0)) (bAnd .u32 (bNot .u32 (s2.getD (4 : Int).toNat 0)) (s2.getD (6 : Int).toNat 0))))) + (r2.getD s1.toNat 0))) + (r1.getD s1.toNat 0))) + (IntKind.u32.wrap ((bXor .u32 (bXor .u32 r6 r7) r8) + (bXor .u32 (bXor .u32 (bAnd .u32 (s2.getD (0 : Int).toNat 0) (s2.getD (1 : Int).toNat 0)) (bAnd .u32 (s2.getD (0 : Int).toNat 0) (s2.getD (2 : Int).toNat 0))) (bAnd .u32 (s2.getD (1 : Int).toNat 0) (s2.getD (2 : Int).toNat 0)))))), s2.getD (0 : Int).toNat 0, s2.getD (1 : Int).toNat 0, s2.getD (2 : Int).toNat 0, IntKind.u32.wrap ((s2.getD (3 : Int).toNat 0) + (IntKind.u32.wrap ((IntKind.u32.wrap ((IntKind.u32.wrap ((IntKind.u32.wrap ((s2.getD (7 : Int).toNat 0) + (bXor .u32 (bXor .u32 r3 r4) r5))) + (bXor .u32 (bAnd .u32 (s2.getD (4 : Int).toNat 0) (s2.getD (5 : Int).toNat 0)) (bAnd .u32 (bNot .u32 (s2.getD (4 : Int).toNat 0)) (s2.getD (6 : Int).toNat 0))))) + (r2.getD s1.toNat 0))) + (r1.getD s1.toNat 0)))), s2.getD (4 : Int).toNat 0, s2.getD (5 : Int).toNat 0, s2.getD (6 : Int).toNat 0])].flatten.toArray) zr102 Tryd.underlying102 sz24 hA rfl (by kernel_rfl)) rfl fun a hA => 
        o_st (j := 0) [] [av .u32 8 s2] [av .u32 8 ([IntKind.u32.wrap ((IntKind.u32.wrap ((IntKind.u32.wrap ((IntKind.u32.wrap ((IntKind.u32.wrap ((s2.getD (7 : Int).toNat 0) + (bXor .u32 (bXor .u32 r3 r4) r5))) + (bXor .u32 (bAnd .u32 (s2.getD (4 : Int).toNat 0) (s2.getD (5 : Int).toNat 0)) (bAnd .u32 (bNot .u32 (s2.getD (4 : Int).toNat 0)) (s2.getD (6 : Int).toNat 0))))) + (r2.getD s1.toNat 0))) + (r1.getD s1.toNat 0))) + (IntKind.u32.wrap ((bXor .u32 (bXor .u32 r6 r7) r8) + (bXor .u32 (bXor .u32 (bAnd .u32 (s2.getD (0 : Int).toNat 0) (s2.getD (1 : Int).toNat 0)) (bAnd .u32 (s2.getD (0 : Int).toNat 0) (s2.getD (2 : Int).toNat 0))) (bAnd .u32 (s2.getD (1 : Int).toNat 0) (s2.getD (2 : Int).toNat 0)))))), s2.getD (0 : Int).toNat 0, s2.getD (1 : Int).toNat 0, s2.getD (2 : Int).toNat 0, IntKind.u32.wrap ((s2.getD (3 : Int).toNat 0) + (IntKind.u32.wrap ((IntKind.u32.wrap ((IntKind.u32.wrap ((IntKind.u32.wrap ((s2.getD (7 : Int).toNat 0) + (bXor .u32 (bXor .u32 r3 r4) r5))) + (bXor .u32 (bAnd .u32 (s2.getD (4 : Int).toNat 0) (s2.getD (5 : Int).toNat 0)) (bAnd .u32 (bNot .u32 (s2.getD (4 : Int).toNat 0)) (s2.getD (6 : Int).toNat 0))))) + (r2.getD s1.toNat 0))) + (r1.getD s1.toNat 0)))), s2.getD (4 : Int).toNat 0, s2.getD (5 : Int).toNat 0, s2.getD (6 : Int).toNat 0])] [] sz102 rfl rfl (fl_cons (one_av _ _ _) fl_nil) hI rfl hA rfl rfl rfl rfl fun w hI => ?_
      refine o_nil <| hN7 _ _ <| w_reg <| stp hA (r_add hA rfl rfl) rfl fun a hA => 
        stm hA rfl rfl fun a hA => ?_
      refine o_nil <| ⟨m1, Nat.lt_succ_self _, IntKind.i64.wrap (s1 + 1), [IntKind.u32.wrap ((IntKind.u32.wrap ((IntKind.u32.wrap ((IntKind.u32.wrap ((IntKind.u32.wrap ((s2.getD (7 : Int).toNat 0) + (bXor .u32 (bXor .u32 r3 r4) r5))) + (bXor .u32 (bAnd .u32 (s2.getD (4 : Int).toNat 0) (s2.getD (5 : Int).toNat 0)) (bAnd .u32 (bNot .u32 (s2.getD (4 : Int).toNat 0)) (s2.getD (6 : Int).toNat 0))))) + (r2.getD s1.toNat 0))) + (r1.getD s1.toNat 0))) + (IntKind.u32.wrap ((bXor .u32 (bXor .u32 r6 r7) r8) + (bXor .u32 (bXor .u32 (bAnd .u32 (s2.getD (0 : Int).toNat 0) (s2.getD (1 : Int).toNat 0)) (bAnd .u32 (s2.getD (0 : Int).toNat 0) (s2.getD (2 : Int).toNat 0))) (bAnd .u32 (s2.getD (1 : Int).toNat 0) (s2.getD (2 : Int).toNat 0)))))), s2.getD (0 : Int).toNat 0, s2.getD (1 : Int).toNat 0, s2.getD (2 : Int).toNat 0, IntKind.u32.wrap ((s2.getD (3 : Int).toNat 0) + (IntKind.u32.wrap ((IntKind.u32.wrap ((IntKind.u32.wrap ((IntKind.u32.wrap ((s2.getD (7 : Int).toNat 0) + (bXor .u32 (bXor .u32 r3 r4) r5))) + (bXor .u32 (bAnd .u32 (s2.getD (4 : Int).toNat 0) (s2.getD (5 : Int).toNat 0)) (bAnd .u32 (bNot .u32 (s2.getD (4 : Int).toNat 0)) (s2.getD (6 : Int).toNat 0))))) + (r2.getD s1.toNat 0))) + (r1.getD s1.toNat 0)))), s2.getD (4 : Int).toNat 0, s2.getD (5 : Int).toNat 0, s2.getD (6 : Int).toNat 0], H, (wrap_in _ _), (arr_lit rfl (by simp only [List.forall_mem_cons]; exact ⟨(wrap_in _ _), (arr_get ws2 _), (arr_get ws2 _), (arr_get ws2 _), (wrap_in _ _), (arr_get ws2 _), (arr_get ws2 _), (arr_get ws2 _), by simp⟩)), hA.sub ⟨rfl, rfl, rfl, rfl, rfl, rfl, trivial⟩, hI⟩
    · obtain ⟨hc1, H⟩ := dF H hc1
      refine w_exit rfl ?_
      have H : some s2 = some z1 := H
      obtain rfl := sI H
      have H := Hk2
      cases sJ H
      exact ⟨ws2, hA.sub ⟨rfl, rfl, rfl, trivial⟩, hI⟩
  · rintro a w ⟨wc1, hA, hI⟩
    have H := Hk1
    obtain ⟨c2, hz11, Hk3⟩ := bB H
    refine w_cut (fun a w => Arr .u32 8 c2 ∧ Fr a 111 [(2, .pointer (some ⟨g1, 0, none⟩)), (4, .pointer (some ⟨g2, 0, none⟩))] ∧ Iv w0 [] μ μ [cel g5 [av .u32 8 c1] 102, cel g4 [av .u32 64 r2] 115, cel g3 [av .u32 64 r1] 115, cel g2 [av .u32 8 (List.replicate 8 0)] 102, cel g1 [av .u32 8 c2] 102] w) ?_ ?_
    · have H := bI hz11
      refine w_seq fun _ hN12 => w_reg <| stm hA rfl rfl fun a hA => ?_
      refine o_nil <| hN12 _ _ <| w_block ?_
      obtain ⟨z2, hz12, Hk4⟩ := bind_some H
      obtain ⟨n2, hn2⟩ := loopO_some hz12
      refine w_loop (fun n a w => ∃ (s3 : Int) (s4 : List Int), loopN (digest_mix.s1 c1) n (s3, s4) = some z2 ∧ InR .i64 s3 ∧ Arr .u32 8 s4 ∧ Fr a 111 [(2, .pointer (some ⟨g1, 0, none⟩)), (4, .pointer (some ⟨g2, 0, none⟩)), (7, .pointer (some ⟨g5, 0, none⟩)), (98, .int .i64 s3)] ∧ Iv w0 [] μ μ [cel g5 [av .u32 8 c1] 102, cel g4 [av .u32 64 r2] 115, cel g3 [av .u32 64 r1] 115, cel g2 [av .u32 8 (List.replicate 8 0)] 102, cel g1 [av .u32 8 s4] 102] w) n2 ⟨0, x0, hn2, (in_lit .i64 0 rfl), hx0, hA.sub ⟨rfl, rfl, rfl, rfl, trivial⟩, hI⟩ ?_
      clear hA hI
      rintro n a w ⟨s3, s4, hn2, ws3, ws4, hA, hI⟩
      obtain ⟨m2, rfl, H⟩ := loopN_bind hn2
      clear hn2
      refine w_seq fun _ hN13 => w_reg <| stp hA (r_lss hA rfl rfl) rfl fun a hA => ?_
      refine o_nil <| hN13 _ _ <| w_seq fun _ hN14 => w_cond hA rfl (fun hc2 => ?_) (fun hc2 => ?_)
      · obtain ⟨hc2, H⟩ := dT H hc2
        refine w_skip <| hN14 _ _ <| w_seq fun _ hN15 => w_block <| w_seq fun _ hN16 => w_reg <| stm hA rfl rfl fun a hA => 
          sta hA rfl rfl fun a hA => ?_
        refine o_nil <| hN16 _ _ ?_
        refine w_any [8] mo hI fun w hI => ?_
        refine gE 0 hA rfl (.inr hI) (fun _ => r_mv hA rfl) fun a hA => ?_
        obtain ⟨hb2, H⟩ := bG H
        refine gE 1 hA rfl (.inr hI) (fun _ => r_ixar1 Tryd.underlying102 sz24 hA rfl rfl hb2.1 hb2.2) fun a hA => ?_
        refine gT 2 hA rfl hI (fun w hI => r_ldE (j := 4) [] [] Tryd.underlying24 rfl hI rfl hA rfl rfl (by omega)) fun a hA => ?_
        refine gE 3 hA rfl (.inr hI) (fun _ => r_mv hA rfl) fun a hA => ?_
        refine gE 4 hA rfl (.inr hI) (fun _ => r_ixar1 Tryd.underlying102 sz24 hA rfl rfl hb2.1 hb2.2) fun a hA => ?_
        refine gT 5 hA rfl hI (fun w hI => r_ldE (j := 0) [] [] Tryd.underlying24 rfl hI rfl hA rfl rfl (by omega)) fun a hA => ?_
        refine gE 6 hA rfl (.inr hI) (fun _ => r_add hA rfl rfl) fun a hA => ?_
        refine gE 7 hA rfl (.inr hI) (fun _ => r_ixar1 Tryd.underlying102 sz24 hA rfl rfl hb2.1 hb2.2) fun a hA => ?_
        refine gF 8 rfl ?_
        refine o_stE (j := 4) [] [] sz24 ws4.1 hI rfl hA rfl rfl rfl (by omega) fun w hI => ?_
        refine o_nil <| ⟨(.inl (by kernel_rfl)), ?_⟩
        refine gN <| hN15 _ _ <| w_reg <| stp hA (r_add hA rfl rfl) rfl fun a hA => 
          stm hA rfl rfl fun a hA => ?_
        refine o_nil <| ⟨m2, Nat.lt_succ_self _, IntKind.i64.wrap (s3 + 1), s4.set s3.toNat (IntKind.u32.wrap ((s4.getD s3.toNat 0) + (c1.getD s3.toNat 0))), H, (wrap_in _ _), (arr_set ws4 _ (wrap_in _ _)), hA.sub ⟨rfl, rfl, rfl, rfl, trivial⟩, hI⟩
      · obtain ⟨hc2, H⟩ := dF H hc2
        refine w_exit rfl ?_
        have H : some s4 = some z2 := H
        obtain rfl := sI H
        have H := Hk4
        cases sJ H
        exact ⟨ws4, hA.sub ⟨rfl, rfl, trivial⟩, hI⟩
    · rintro a w ⟨wc2, hA, hI⟩
      have H := Hk3
      refine w_seq fun _ hN17 => w_reg <| stp hA (r_ldA (j := 4) [] [av .u32 8 c2] [] Tryd.underlying102 rfl sz102 rfl hI rfl hA rfl rfl) rfl fun a hA => 
        o_st (j := 3) [] [av .u32 8 (List.replicate 8 0)] [av .u32 8 c2] [] sz102 rfl rfl (fl_cons (one_av _ _ _) fl_nil) hI rfl hA rfl rfl rfl rfl fun w hI => ?_
      refine o_nil <| hN17 _ _ <| w_ret ?_
      obtain rfl := sJ H
      exact retc Tryd.underlying102 rfl sz102 rfl hI (j := 3) rfl hA Tryd.results66 rfl ⟨_, rfl, rfl, wc2, hI.forget0⟩
set_option maxRecDepth 20000 in
theorem digest_Writer_Write.c (μ : Store) (w0 : World) (hμ : Agr μ w0) (x0 : digestWriter) (vp1 : Value) (cp1 : List Value) (g0 : Nat) (hp1 : Arr .u32 8 x0.s) (hp2 : Els (RI .u8) 1 x0.rest cp1) (hp3 : InR .i64 x0.n) (ho0 : Its μ w0 [cel g0 [av .u32 8 x0.s, [vp1], [.int .i64 x0.n]] 104, row 5 1 vp1 x0.rest.length cp1]) (x1 : List Int) (u1 : Value) (hx1 : Slc (RI .u8) 1 μ u1 x1) (r : digestWriter) (H : digest_Writer_Write.f x0 x1 = some r) :
    Calls Tryd.prog 57 [.pointer (some ⟨g0, 0, none⟩), u1].toArray w0 (fun e w' => ∃ v, e = .returned v ∧ ∃ (vp_1 : Value) (cp_1 : List Value), v = .tuple #[] ∧ Arr .u32 8 r.s ∧ Els (RI .u8) 1 r.rest cp_1 ∧ InR .i64 r.n ∧ Iv w0 (many [cel g0 [av .u32 8 x0.s, [vp1], [.int .i64 x0.n]] 104, row 5 1 vp1 x0.rest.length cp1]).foot μ μ [cel g0 [av .u32 8 r.s, [vp_1], [.int .i64 r.n]] 104, row 5 1 vp_1 r.rest.length cp_1] w') := by
  refine enter Tryd.func57 rfl Tryd.ntmps57 rfl fun a hA => ?_
  have hI := Iv.startN hμ ho0
  have H := bI H
  refine w_seq fun _ hN1 => w_reg <| stm hA rfl rfl fun a hA => ?_
  obtain ⟨r1, hr1, H⟩ := bB H
  refine o_call _ cf65 hA rfl (digest_Writer_state.c μ _ hI.agr (⟨x0.s, x0.rest, x0.n⟩ : digestWriter) vp1 cp1 g0 hp1 hp2 hp3 (hI.handN 2) r1 hr1) rfl fun v1 a w hz1 hA => ?_
  obtain ⟨rfl, hw1, hi1⟩ := hz1
  have hI := hI.back2 hi1
  refine o_new [av .u32 8 (List.replicate 8 0)] zr102 hI hA rfl fun g1 a w hA hI hg1 => 
    o_st (j := 0) [] [av .u32 8 (List.replicate 8 0)] [av .u32 8 r1] [] sz102 rfl rfl (fl_cons (one_av _ _ _) fl_nil) hI rfl hA rfl rfl rfl rfl fun w hI => ?_
  refine o_nil <| hN1 _ _ <| w_seq fun _ hN2 => w_reg <| stm hA rfl rfl fun a hA => 
    stp hA (r_nilc hA rfl) rfl fun a hA => 
    stp hA (r_fd (k := 9) Tryd.underlying104 rfl sz2 hA rfl rfl) rfl fun a hA => 
    stp hA (r_ld1 (j := 1) [av .u32 8 x0.s, [vp1]] [] Tryd.underlying2 rfl hI rfl hA rfl rfl) rfl fun a hA => 
    stm hA rfl rfl fun a hA => ?_
  obtain ⟨_, hsl1⟩ := Slc.sv hx1
  refine stp hA (r_slen Tryd.underlying40 hsl1 hA rfl) rfl fun a hA => 
    stp hA (r_add hA rfl rfl) rfl fun a hA => 
    stp hA (r_nilc hA rfl) rfl fun a hA => 
    stp hA (r_fd (k := 9) Tryd.underlying104 rfl sz2 hA rfl rfl) rfl fun a hA => 
    o_st (j := 1) [av .u32 8 x0.s, [vp1]] [[.int .i64 x0.n]] [[.int .i64 (IntKind.i64.wrap (x0.n + (x1.length : Int)))]] [] sz2 rfl rfl (fl_cons (oneC rfl) fl_nil) hI rfl hA rfl rfl rfl rfl fun w hI => ?_
  refine o_nil <| hN2 _ _ <| w_seq fun _ hN3 => w_reg <| stm hA rfl rfl fun a hA => 
    stm hA rfl rfl fun a hA => 
    stp hA (r_nilc hA rfl) rfl fun a hA => 
    stp hA (r_fd (k := 8) Tryd.underlying104 rfl sz40 hA rfl rfl) rfl fun a hA => 
    stp hA (r_ld1 (j := 1) [av .u32 8 x0.s] [[.int .i64 (IntKind.i64.wrap (x0.n + (x1.length : Int)))]] Tryd.underlying40 rfl hI rfl hA rfl rfl) rfl fun a hA => 
    stm hA rfl rfl fun a hA => ?_
  obtain ⟨cs1, hE1, hsv1⟩ : Slc (RI .u8) 1 μ u1 x1 := id (hx1)
  obtain ⟨hb1, H⟩ := bG H
  have hE2 := hp2.app hE1
  refine o_appG (xs := (x0.rest : List Int)) (ys := (x1 : List Int)) (M := 140737488355328) 2 te5 Tryd.underlying40 hI rfl hA rfl rfl (src_sl hI.agr hsv1 hE1.len) hE1.len (hE1.ones (one_RI _)) hb1 rfl fun v2 a w hA hI => 
    stp hA (r_nilc hA rfl) rfl fun a hA => 
    stp hA (r_fd (k := 8) Tryd.underlying104 rfl sz40 hA rfl rfl) rfl fun a hA => ?_
  have hone := own_one hI (j := 2) rfl
  have hcel := own_cell hI (j := 2) rfl
  refine o_st (j := 1) [av .u32 8 x0.s] [[vp1]] [[v2]] [[.int .i64 (IntKind.i64.wrap (x0.n + (x1.length : Int)))]] sz40 rfl rfl (by intro c hc; simp at hc; subst hc; exact hone) hI rfl hA rfl rfl hcel rfl fun w hI => ?_
  refine o_nil <| hN3 _ _ <| w_seq fun _ hN4 => w_reg <| sta hA rfl rfl fun a hA => ?_
  refine o_nil <| hN4 _ _ ?_
  obtain ⟨⟨c1, c2, c3⟩, hz2, Hk1⟩ := bB H
  refine w_cut (fun a w => ∃ (μ1 : Store) (vvc3 : Value), μ.le μ1 ∧ InR .i64 c1 ∧ Arr .u32 8 c2 ∧ Slc (RI .u8) 1 μ1 vvc3 c3 ∧ Fr a 60 [(0, .pointer (some ⟨g0, 0, none⟩)), (4, .pointer (some ⟨g1, 0, none⟩)), (5, .int .i64 c1)] ∧ Iv w0 (many [cel g0 [av .u32 8 x0.s, [vp1], [.int .i64 x0.n]] 104, row 5 1 vp1 x0.rest.length cp1]).foot μ μ1 [cel g1 [av .u32 8 c2] 102, cel g0 [av .u32 8 x0.s, [vvc3], [.int .i64 (IntKind.i64.wrap (x0.n + (x1.length : Int)))]] 104] w) ?_ ?_
  · have H := bI hz2
    refine w_block ?_
    obtain ⟨μ2, hle2, hsv2, hI⟩ := hI.freezeRow 2 rfl
    have hS1 : Slc (RI .u8) 1 μ2 v2 (x0.rest ++ x1) := ⟨_, hE2, hsv2⟩
    obtain ⟨z1, hz3, Hk2⟩ := bind_some H
    obtain ⟨n1, hn1⟩ := loopO_some hz3
    refine w_loop (fun n a w => ∃ (s1 : Int) (s2 : List Int) (s3 : List Int) (μ3 : Store) (vvs3 : Value), loopN (digest_Writer_Write.s0) n (s1, s2, s3) = some z1 ∧ μ2.le μ3 ∧ InR .i64 s1 ∧ Arr .u32 8 s2 ∧ Slc (RI .u8) 1 μ3 vvs3 s3 ∧ Fr a 60 [(0, .pointer (some ⟨g0, 0, none⟩)), (4, .pointer (some ⟨g1, 0, none⟩)), (5, .int .i64 s1)] ∧ Iv w0 (many [cel g0 [av .u32 8 x0.s, [vp1], [.int .i64 x0.n]] 104, row 5 1 vp1 x0.rest.length cp1]).foot μ μ3 [cel g1 [av .u32 8 s2] 102, cel g0 [av .u32 8 x0.s, [vvs3], [.int .i64 (IntKind.i64.wrap (x0.n + (x1.length : Int)))]] 104] w) n1 ⟨0, r1, x0.rest ++ x1, μ2, v2, hn1, (Store.le.refl _), (in_lit .i64 0 rfl), hw1, hS1, hA.sub ⟨rfl, rfl, rfl, trivial⟩, hI⟩ ?_
    clear hA hI
    rintro n a w ⟨s1, s2, s3, μ3, vvs3, hn1, hle3, ws1, ws2, ws3, hA, hI⟩
    obtain ⟨m1, rfl, H⟩ := loopN_bind hn1
    clear hn1
    refine w_seq fun _ hN5 => w_seq fun _ hN6 => w_reg <| stm hA rfl rfl fun a hA => 
      stp hA (r_add hA rfl rfl) rfl fun a hA => 
      stm hA rfl rfl fun a hA => 
      stp hA (r_nilc hA rfl) rfl fun a hA => 
      stp hA (r_fd (k := 8) Tryd.underlying104 rfl sz40 hA rfl rfl) rfl fun a hA => 
      stp hA (r_ld1 (j := 1) [av .u32 8 x0.s] [[.int .i64 (IntKind.i64.wrap (x0.n + (x1.length : Int)))]] Tryd.underlying40 rfl hI rfl hA rfl rfl) rfl fun a hA => ?_
    obtain ⟨_, hsl2⟩ := Slc.sv ws3
    refine stp hA (r_slen Tryd.underlying40 hsl2 hA rfl) rfl fun a hA => 
      stp hA (r_leq hA rfl rfl) rfl fun a hA => ?_
    refine o_nil <| hN6 _ _ <| w_cond hA rfl (fun hc1 => ?_) (fun hc1 => ?_)
    · obtain ⟨hc1, H⟩ := dT H hc1
      refine w_skip <| hN5 _ _ <| w_seq fun _ hN7 => w_block ?_
      refine w_any [10] mo hI fun w hI => ?_
      refine gT 0 hA rfl hI (fun w hI => r_ldA (j := 0) [] [av .u32 8 s2] [] Tryd.underlying102 rfl sz102 rfl hI rfl hA rfl rfl) fun a hA => ?_
      refine gE 1 hA rfl (.inr hI) (fun _ => r_mv hA rfl) fun a hA => ?_
      refine gE 2 hA rfl (.inr hI) (fun _ => r_nilc hA rfl) fun a hA => ?_
      refine gE 3 hA rfl (.inr hI) (fun _ => r_fd (k := 8) Tryd.underlying104 rfl sz40 hA rfl rfl) fun a hA => ?_
      refine gT 4 hA rfl hI (fun w hI => r_ld1 (j := 1) [av .u32 8 x0.s] [[.int .i64 (IntKind.i64.wrap (x0.n + (x1.length : Int)))]] Tryd.underlying40 rfl hI rfl hA rfl rfl) fun a hA => ?_
      refine gE 5 hA rfl (.inr hI) (fun _ => r_mv hA rfl) fun a hA => ?_
      refine gE 6 hA rfl (.inr hI) (fun _ => r_mv hA rfl) fun a hA => ?_
      refine gE 7 hA rfl (.inr hI) (fun _ => r_add hA rfl rfl) fun a hA => ?_
      obtain ⟨hb2, H⟩ := bG H
      obtain ⟨v3, hS2, hr2⟩ := r_sl (P := Tryd.prog) (t := 40) (x := .tmp 40) (l := (some (.tmp 41))) (h := (some (.tmp 43))) (i := s1) (j := IntKind.i64.wrap (s1 + 64)) Tryd.underlying40 sz5 ws3 hA rfl rfl rfl (by have hq := hb2; omega) (by have hq := hb2; omega) (by have hq := hb2; omega)
      refine gE 8 hA rfl (.inr hI) (fun _ => hr2 _ _ _ _ _ _) fun a hA => ?_
      refine gF 9 rfl ?_
      obtain ⟨r2, hr3, H⟩ := bB H
      refine o_callp (u := .agg [av .u32 8 r2].flatten.toArray) cf66 hA rfl hI (digest_mix.c μ3 _ hI.agr s2 ws2 ((s3.take (IntKind.i64.wrap (s1 + 64)).toNat).drop (s1).toNat) v3 hS2 r2 hr3) rfl fun a w hz4 hI hA => ?_
      refine o_nil <| ⟨(.inr hI), ?_⟩
      refine gF 10 rfl ?_
      refine o_st (j := 0) [] [av .u32 8 s2] [av .u32 8 r2] [] sz102 rfl rfl (fl_cons (one_av _ _ _) fl_nil) hI rfl hA rfl rfl rfl rfl fun w hI => ?_
      refine o_nil <| ⟨(.inl (by kernel_rfl)), ?_⟩
      refine gN <| hN7 _ _ <| w_reg <| stm hA rfl rfl fun a hA => 
        stp hA (r_add hA rfl rfl) rfl fun a hA => 
        sta hA rfl rfl fun a hA => ?_
      refine o_nil <| ⟨m1, Nat.lt_succ_self _, IntKind.i64.wrap (s1 + 64), r2, s3, μ3, vvs3, H, hle3, (wrap_in _ _), hz4, ws3, hA.sub ⟨rfl, rfl, rfl, trivial⟩, hI⟩
    · obtain ⟨hc1, H⟩ := dF H hc1
      refine w_exit rfl ?_
      have H : some (s1, s2, s3) = some z1 := H
      obtain rfl := sI H
      have H := Hk2
      cases sJ H
      exact ⟨μ3, vvs3, (hle2.trans hle3), ws1, ws2, ws3, hA.sub ⟨rfl, rfl, rfl, trivial⟩, hI⟩
  · rintro a w ⟨μ1, vvc3, hle1, wc1, wc2, wc3, hA, hI⟩
    have H := Hk1
    refine w_any [12, 15] mo hI fun w hI => ?_
    refine gE 0 hA rfl (.inr hI) (fun _ => r_mv hA rfl) fun a hA => ?_
    refine gE 1 hA rfl (.inr hI) (fun _ => r_mv hA rfl) fun a hA => ?_
    refine gT 2 hA rfl hI (fun w hI => r_ldA (j := 0) [] [av .u32 8 c2] [] Tryd.underlying102 rfl sz102 rfl hI rfl hA rfl rfl) fun a hA => ?_
    refine gE 3 hA rfl (.inr hI) (fun _ => r_mv hA rfl) fun a hA => ?_
    refine gE 4 hA rfl (.inr hI) (fun _ => r_nilc hA rfl) fun a hA => ?_
    refine gE 5 hA rfl (.inr hI) (fun _ => r_fd (k := 8) Tryd.underlying104 rfl sz40 hA rfl rfl) fun a hA => ?_
    refine gT 6 hA rfl hI (fun w hI => r_ld1 (j := 1) [av .u32 8 x0.s] [[.int .i64 (IntKind.i64.wrap (x0.n + (x1.length : Int)))]] Tryd.underlying40 rfl hI rfl hA rfl rfl) fun a hA => ?_
    refine gE 7 hA rfl (.inr hI) (fun _ => r_mv hA rfl) fun a hA => ?_
    obtain ⟨hb3, H⟩ := bG H
    obtain ⟨v4, hS3, hr4⟩ := r_sl (P := Tryd.prog) (t := 40) (x := .tmp 52) (l := (some (.tmp 53))) (h := none) (i := c1) (j := (c3.length : Int)) Tryd.underlying40 sz5 wc3 hA rfl rfl rfl (by have hq := hb3; omega) (by have hq := hb3; omega) (by have hq := hb3; omega)
    refine gE 8 hA rfl (.inr hI) (fun _ => hr4 _ _ _ _ _ _) fun a hA => ?_
    refine gF 9 rfl ?_
    obtain ⟨r3, hr5, H⟩ := bB H
    refine o_call _ cf56 hA rfl (bytes_Clone.c μ1 _ hI.agr ((c3.take ((c3.length : Int)).toNat).drop (c1).toNat) v4 hS3 r3 hr5) rfl fun v5 a w hz5 hA => ?_
    obtain ⟨_, cs3, rfl, hE3, hi2⟩ := hz5
    have hI := hI.call hi2
    refine o_nil <| ⟨(.inr (hI.sl [1, 2] rfl)), ?_⟩
    refine gE 10 hA rfl (.inr (hI.sl [1, 2] rfl)) (fun _ => r_nilc hA rfl) fun a hA => ?_
    refine gE 11 hA rfl (.inr (hI.sl [1, 2] rfl)) (fun _ => r_fd (k := 0) Tryd.underlying104 rfl sz102 hA rfl rfl) fun a hA => ?_
    refine gF 12 rfl ?_
    refine o_st (j := 2) [] [av .u32 8 x0.s] [av .u32 8 c2] [[vvc3], [.int .i64 (IntKind.i64.wrap (x0.n + (x1.length : Int)))]] sz102 rfl rfl (fl_cons (one_av _ _ _) fl_nil) hI rfl hA rfl rfl rfl rfl fun w hI => ?_
    refine o_nil <| ⟨(.inl (by kernel_rfl)), ?_⟩
    refine gE 13 hA rfl (.inl (by kernel_rfl)) (fun _ => r_nilc hA rfl) fun a hA => ?_
    refine gE 14 hA rfl (.inl (by kernel_rfl)) (fun _ => r_fd (k := 8) Tryd.underlying104 rfl sz40 hA rfl rfl) fun a hA => ?_
    refine gF 15 rfl ?_
    have hone := own_one hI (j := 0) rfl
    have hcel := own_cell hI (j := 0) rfl
    refine o_st (j := 2) [av .u32 8 c2] [[vvc3]] [[v5]] [[.int .i64 (IntKind.i64.wrap (x0.n + (x1.length : Int)))]] sz40 rfl rfl (by intro c hc; simp at hc; subst hc; exact hone) hI rfl hA rfl rfl hcel rfl fun w hI => ?_
    refine o_nil <| ⟨(.inl (by kernel_rfl)), ?_⟩
    refine gN ?_
    obtain rfl := sJ H
    exact ret0 hA Tryd.results57 ⟨_, rfl, v5, cs3, rfl, wc2, hE3, (wrap_in _ _), ((hI.sl [2, 0] rfl).less (Store.le.refl _) hI.le)⟩
set_option maxRecDepth 20000 in
theorem digest_Writer_Sum.c (μ : Store) (w0 : World) (hμ : Agr μ w0) (x0 : digestWriter) (vp1 : Value) (cp1 : List Value) (g0 : Nat) (hp1 : Arr .u32 8 x0.s) (hp2 : Els (RI .u8) 1 x0.rest cp1) (hp3 : InR .i64 x0.n) (ho0 : Its μ w0 [cel g0 [av .u32 8 x0.s, [vp1], [.int .i64 x0.n]] 104, row 5 1 vp1 x0.rest.length cp1]) (r : List Int) (H : digest_Writer_Sum.f x0 = some r) :
    Calls Tryd.prog 58 [.pointer (some ⟨g0, 0, none⟩)].toArray w0 (fun e w' => ∃ v, e = .returned v ∧ v = .agg [av .u8 32 r].flatten.toArray ∧ Arr .u8 32 r ∧ Iv w0 (many [cel g0 [av .u32 8 x0.s, [vp1], [.int .i64 x0.n]] 104, row 5 1 vp1 x0.rest.length cp1]).foot μ μ [cel g0 [av .u32 8 x0.s, [vp1], [.int .i64 x0.n]] 104, row 5 1 vp1 x0.rest.length cp1] w') := by
  refine enter Tryd.func58 rfl Tryd.ntmps58 rfl fun a hA => ?_
  have hI := Iv.startN hμ ho0
  have H := bI H
  refine w_seq fun _ hN1 => w_reg <| o_new [av .u8 32 (List.replicate 32 0)] zr26 hI hA rfl fun g1 a w hA hI hg1 => ?_
  refine o_nil <| hN1 _ _ <| w_seq fun _ hN2 => w_reg <| stm hA rfl rfl fun a hA => 
    stp hA (r_nilc hA rfl) rfl fun a hA => 
    stp hA (r_fd (k := 8) Tryd.underlying104 rfl sz40 hA rfl rfl) rfl fun a hA => 
    stp hA (r_ld1 (j := 1) [av .u32 8 x0.s] [[.int .i64 x0.n]] Tryd.underlying40 rfl hI rfl hA rfl rfl) rfl fun a hA => ?_
  obtain ⟨r1, hr1, H⟩ := bB H
  refine o_callW (fun w v w' => ∃ (v0 : Value) (c0 : List Value), v = v0 ∧ Els (RI .u8) 1 r1 c0 ∧ Iv w [] μ μ [row 5 1 v0 r1.length c0] w') cf56 hA rfl ((by obtain ⟨μ1, hle1, hsv1, hI⟩ := hI.freezeRow 2 rfl; have hS1 : Slc (RI .u8) 1 μ1 vp1 x0.rest := ⟨_, hp2, hsv1⟩; exact (bytes_Clone.c μ1 _ hI.agr x0.rest vp1 hS1 r1 hr1).mono fun _ _ ⟨v, he, b0, b1, hv, f0, hi⟩ => ⟨v, he, b0, b1, hv, f0, hi.low hle1⟩)) rfl fun v1 a w hz1 hA => ?_
  obtain ⟨_, cs1, rfl, hE1, hi1⟩ := hz1
  have hI := hI.call hi1
  have hE2 : Els (RI .u8) 1 ([128] : List Int) _ := (Els.cons (c := [[.int .u8 128]].flatten) ⟨rfl, (in_lit .u8 128 rfl)⟩ rfl Els.nil)
  refine o_bsl ([[.int .u8 128]].flatten ++ ([])) te5 zr5 Tryd.underlying40 hI hA rfl rfl rfl rfl (by kernel_rfl) rfl fun g2 a w hA hI => ?_
  generalize hcs : ([[.int .u8 128]].flatten ++ ([]) : List Value) = cs2 at hE2 hI
  clear hcs
  obtain ⟨hb1, H⟩ := bG H
  have hE4 := hE1.app hE2
  refine o_appG (xs := (r1 : List Int)) (ys := (([128] : List Int) : List Int)) (M := 140737488355328) 1 te5 Tryd.underlying40 hI rfl hA rfl rfl (src_row hI (j := 0) rfl) hE2.len (hE2.ones (one_RI _)) hb1 rfl fun v2 a w hA hI => 
    sta hA rfl rfl fun a hA => ?_
  refine o_nil <| hN2 _ _ ?_
  obtain ⟨c1, hz2, Hk1⟩ := bB H
  refine w_cut (fun a w => ∃ (vvc1 : Value) (ccc1 : List Value), Els (RI .u8) 1 c1 ccc1 ∧ Fr a 79 [(0, .pointer (some ⟨g0, 0, none⟩)), (2, .pointer (some ⟨g1, 0, none⟩)), (3, vvc1)] ∧ Iv w0 (many [cel g0 [av .u32 8 x0.s, [vp1], [.int .i64 x0.n]] 104, row 5 1 vp1 x0.rest.length cp1]).foot μ μ [row 5 1 vvc1 c1.length ccc1, row 5 1 (.slice (some ⟨g2, 0, none⟩) 1 1) ([128] : List Int).length cs2, cel g1 [av .u8 32 (List.replicate 32 0)] 26, cel g0 [av .u32 8 x0.s, [vp1], [.int .i64 x0.n]] 104, row 5 1 vp1 x0.rest.length cp1] w) ?_ ?_
  · have H := bI hz2
    refine w_block ?_
    obtain ⟨z1, hz3, Hk2⟩ := bind_some H
    obtain ⟨n1, hn1⟩ := loopO_some hz3
    refine w_loop (fun n a w => ∃ (s1 : List Int) (vvs1 : Value) (ccs1 : List Value), loopN (digest_Writer_Sum.s0) n s1 = some z1 ∧ Els (RI .u8) 1 s1 ccs1 ∧ Fr a 79 [(0, .pointer (some ⟨g0, 0, none⟩)), (2, .pointer (some ⟨g1, 0, none⟩)), (3, vvs1)] ∧ Iv w0 (many [cel g0 [av .u32 8 x0.s, [vp1], [.int .i64 x0.n]] 104, row 5 1 vp1 x0.rest.length cp1]).foot μ μ [row 5 1 (.slice (some ⟨g2, 0, none⟩) 1 1) ([128] : List Int).length cs2, row 5 1 vvs1 s1.length ccs1, cel g1 [av .u8 32 (List.replicate 32 0)] 26, cel g0 [av .u32 8 x0.s, [vp1], [.int .i64 x0.n]] 104, row 5 1 vp1 x0.rest.length cp1] w) n1 ⟨r1 ++ ([128] : List Int), v2, cs1 ++ cs2, hn1, hE4, hA.sub ⟨rfl, rfl, rfl, trivial⟩, hI⟩ ?_
    clear hA hI
    rintro n a w ⟨s1, vvs1, ccs1, hn1, ws1, hA, hI⟩
    obtain ⟨m1, rfl, H⟩ := loopN_bind hn1
    clear hn1
    refine w_seq fun _ hN3 => w_seq fun _ hN4 => w_reg <| stm hA rfl rfl fun a hA => ?_
    have hlen1 := Iv.row_in hI (j := 1) rfl
    refine stp hA (r_rlen (xs := 0) Tryd.underlying40 hI (j := 1) rfl hA rfl) rfl fun a hA => 
      stp hA (r_rem hA rfl rfl (by decide)) rfl fun a hA => 
      stp hA (r_neq hA rfl rfl) rfl fun a hA => ?_
    refine o_nil <| hN4 _ _ <| w_cond hA rfl (fun hc1 => ?_) (fun hc1 => ?_)
    · obtain ⟨hc1, H⟩ := dT H hc1
      refine w_skip <| hN3 _ _ <| w_block <| w_reg <| stm hA rfl rfl fun a hA => ?_
      have hE5 : Els (RI .u8) 1 ([0] : List Int) _ := (Els.cons (c := [[.int .u8 0]].flatten) ⟨rfl, (in_lit .u8 0 rfl)⟩ rfl Els.nil)
      refine o_bsl ([[.int .u8 0]].flatten ++ ([])) te5 zr5 Tryd.underlying40 hI hA rfl rfl rfl rfl (by kernel_rfl) rfl fun g3 a w hA hI => ?_
      generalize hcs : ([[.int .u8 0]].flatten ++ ([]) : List Value) = cs5 at hE5 hI
      clear hcs
      obtain ⟨hb2, H⟩ := bG H
      have hE7 := ws1.app hE5
      refine o_appG (xs := (s1 : List Int)) (ys := (([0] : List Int) : List Int)) (M := 140737488355328) 2 te5 Tryd.underlying40 hI rfl hA rfl rfl (src_row hI (j := 0) rfl) hE5.len (hE5.ones (one_RI _)) hb2 rfl fun v3 a w hA hI => 
        sta hA rfl rfl fun a hA => ?_
      refine o_nil <| ⟨m1, Nat.lt_succ_self _, s1 ++ ([0] : List Int), v3, ccs1 ++ cs5, H, hE7, hA.sub ⟨rfl, rfl, rfl, trivial⟩, (hI.sl [1, 2, 3, 4, 5] rfl)⟩
    · obtain ⟨hc1, H⟩ := dF H hc1
      refine w_exit rfl ?_
      have H : some s1 = some z1 := H
      obtain rfl := sI H
      have H := Hk2
      cases sJ H
      exact ⟨vvs1, ccs1, ws1, hA.sub ⟨rfl, rfl, rfl, trivial⟩, (hI.sl [1, 0, 2, 3, 4] rfl)⟩
  · rintro a w ⟨vvc1, ccc1, wc1, hA, hI⟩
    have H := Hk1
    obtain ⟨c2, hz4, Hk3⟩ := bB H
    refine w_cut (fun a w => ∃ (vvc2 : Value) (ccc2 : List Value), Els (RI .u8) 1 c2 ccc2 ∧ Fr a 79 [(0, .pointer (some ⟨g0, 0, none⟩)), (2, .pointer (some ⟨g1, 0, none⟩)), (3, vvc2)] ∧ Iv w0 (many [cel g0 [av .u32 8 x0.s, [vp1], [.int .i64 x0.n]] 104, row 5 1 vp1 x0.rest.length cp1]).foot μ μ [row 5 1 vvc2 c2.length ccc2, row 5 1 (.slice (some ⟨g2, 0, none⟩) 1 1) ([128] : List Int).length cs2, cel g1 [av .u8 32 (List.replicate 32 0)] 26, cel g0 [av .u32 8 x0.s, [vp1], [.int .i64 x0.n]] 104, row 5 1 vp1 x0.rest.length cp1] w) ?_ ?_
    · have H := bI hz4
      refine w_seq fun _ hN5 => w_reg <| sta hA rfl rfl fun a hA => ?_
      refine o_nil <| hN5 _ _ <| w_block ?_
      obtain ⟨z2, hz5, Hk4⟩ := bind_some H
      obtain ⟨n2, hn2⟩ := loopO_some hz5
      refine w_loop (fun n a w => ∃ (s2 : List Int) (s3 : Int) (vvs2 : Value) (ccs2 : List Value), loopN (digest_Writer_Sum.s1 x0) n (s2, s3) = some z2 ∧ Els (RI .u8) 1 s2 ccs2 ∧ InR .i64 s3 ∧ Fr a 79 [(0, .pointer (some ⟨g0, 0, none⟩)), (2, .pointer (some ⟨g1, 0, none⟩)), (3, vvs2), (4, .int .i64 s3)] ∧ Iv w0 (many [cel g0 [av .u32 8 x0.s, [vp1], [.int .i64 x0.n]] 104, row 5 1 vp1 x0.rest.length cp1]).foot μ μ [row 5 1 vvs2 s2.length ccs2, row 5 1 (.slice (some ⟨g2, 0, none⟩) 1 1) ([128] : List Int).length cs2, cel g1 [av .u8 32 (List.replicate 32 0)] 26, cel g0 [av .u32 8 x0.s, [vp1], [.int .i64 x0.n]] 104, row 5 1 vp1 x0.rest.length cp1] w) n2 ⟨c1, 7, vvc1, ccc1, hn2, wc1, (in_lit .i64 7 rfl), hA.sub ⟨rfl, rfl, rfl, rfl, trivial⟩, hI⟩ ?_
      clear hA hI
      rintro n a w ⟨s2, s3, vvs2, ccs2, hn2, ws2, ws3, hA, hI⟩
      obtain ⟨m2, rfl, H⟩ := loopN_bind hn2
      clear hn2
      refine w_seq fun _ hN6 => w_seq fun _ hN7 => w_reg <| stm hA rfl rfl fun a hA => 
        stp hA (r_geq hA rfl rfl) rfl fun a hA => ?_
      refine o_nil <| hN7 _ _ <| w_cond hA rfl (fun hc2 => ?_) (fun hc2 => ?_)
      · obtain ⟨hc2, H⟩ := dT H hc2
        refine w_skip <| hN6 _ _ <| w_seq fun _ hN8 => w_block <| w_reg <| stm hA rfl rfl fun a hA => 
          stm hA rfl rfl fun a hA => 
          stp hA (r_nilc hA rfl) rfl fun a hA => 
          stp hA (r_fd (k := 9) Tryd.underlying104 rfl sz2 hA rfl rfl) rfl fun a hA => 
          stp hA (r_ld1 (j := 3) [av .u32 8 x0.s, [vp1]] [] Tryd.underlying2 rfl hI rfl hA rfl rfl) rfl fun a hA => 
          stp hA (r_conv Tryd.underlying2 Tryd.underlying34 hA rfl) rfl fun a hA => 
          stp hA (r_shl hA rfl rfl (by decide)) rfl fun a hA => 
          stm hA rfl rfl fun a hA => 
          stp hA (r_mul hA rfl rfl) rfl fun a hA => ?_
        obtain ⟨hb3, H⟩ := bG H
        refine stp hA (r_shr hA rfl rfl hb3) rfl fun a hA => 
          stp hA (r_conv Tryd.underlying34 Tryd.underlying5 hA rfl) rfl fun a hA => ?_
        have hE8 : Els (RI .u8) 1 ([IntKind.u8.wrap (sR .u64 (sL .u64 (IntKind.u64.wrap x0.n) 3) (IntKind.i64.wrap (8 * s3)))] : List Int) _ := (Els.cons (c := [[.int .u8 (IntKind.u8.wrap (sR .u64 (sL .u64 (IntKind.u64.wrap x0.n) 3) (IntKind.i64.wrap (8 * s3))))]].flatten) ⟨rfl, (wrap_in _ _)⟩ rfl Els.nil)
        refine o_bsl ([[.int .u8 (IntKind.u8.wrap (sR .u64 (sL .u64 (IntKind.u64.wrap x0.n) 3) (IntKind.i64.wrap (8 * s3))))]].flatten ++ ([])) te5 zr5 Tryd.underlying40 hI hA rfl rfl rfl rfl (by kernel_rfl) rfl fun g4 a w hA hI => ?_
        generalize hcs : ([[.int .u8 (IntKind.u8.wrap (sR .u64 (sL .u64 (IntKind.u64.wrap x0.n) 3) (IntKind.i64.wrap (8 * s3))))]].flatten ++ ([]) : List Value) = cs8 at hE8 hI
        clear hcs
        obtain ⟨hb4, H⟩ := bG H
        have hE10 := ws2.app hE8
        refine o_appG (xs := (s2 : List Int)) (ys := (([IntKind.u8.wrap (sR .u64 (sL .u64 (IntKind.u64.wrap x0.n) 3) (IntKind.i64.wrap (8 * s3)))] : List Int) : List Int)) (M := 140737488355328) 1 te5 Tryd.underlying40 hI rfl hA rfl rfl (src_row hI (j := 0) rfl) hE8.len (hE8.ones (one_RI _)) hb4 rfl fun v4 a w hA hI => 
          sta hA rfl rfl fun a hA => ?_
        refine o_nil <| hN8 _ _ <| w_reg <| stm hA rfl rfl fun a hA => 
          stp hA (r_sub hA rfl rfl) rfl fun a hA => 
          sta hA rfl rfl fun a hA => ?_
        refine o_nil <| ⟨m2, Nat.lt_succ_self _, s2 ++ ([IntKind.u8.wrap (sR .u64 (sL .u64 (IntKind.u64.wrap x0.n) 3) (IntKind.i64.wrap (8 * s3)))] : List Int), IntKind.i64.wrap (s3 - 1), v4, ccs2 ++ cs8, H, hE10, (wrap_in _ _), hA.sub ⟨rfl, rfl, rfl, rfl, trivial⟩, (hI.sl [1, 2, 3, 4, 5] rfl)⟩
      · obtain ⟨hc2, H⟩ := dF H hc2
        refine w_exit rfl ?_
        have H : some s2 = some z2 := H
        obtain rfl := sI H
        have H := Hk4
        cases sJ H
        exact ⟨vvs2, ccs2, ws2, hA.sub ⟨rfl, rfl, rfl, trivial⟩, hI⟩
    · rintro a w ⟨vvc2, ccc2, wc2, hA, hI⟩
      have H := Hk3
      refine w_seq fun _ hN9 => w_reg <| stm hA rfl rfl fun a hA => ?_
      obtain ⟨r2, hr2, H⟩ := bB H
      have hI := hI.sl [3, 4, 0, 1, 2] rfl
      refine o_call _ cf65 hA rfl (digest_Writer_state.c μ _ hI.agr (⟨x0.s, x0.rest, x0.n⟩ : digestWriter) vp1 cp1 g0 hp1 hp2 hp3 (hI.handN 2) r2 hr2) rfl fun v5 a w hz6 hA => ?_
      obtain ⟨rfl, hw1, hi2⟩ := hz6
      have hI := hI.back2 hi2
      refine o_new [av .u32 8 (List.replicate 8 0)] zr102 hI hA rfl fun g5 a w hA hI hg5 => 
        o_st (j := 0) [] [av .u32 8 (List.replicate 8 0)] [av .u32 8 r2] [] sz102 rfl rfl (fl_cons (one_av _ _ _) fl_nil) hI rfl hA rfl rfl rfl rfl fun w hI => ?_
      refine o_nil <| hN9 _ _ ?_
      obtain ⟨⟨c3, c4⟩, hz7, Hk5⟩ := bB H
      refine w_cut (fun a w => ∃ (μ2 : Store) (vvc3 : Value), μ.le μ2 ∧ Slc (RI .u8) 1 μ2 vvc3 c3 ∧ Arr .u32 8 c4 ∧ Fr a 79 [(2, .pointer (some ⟨g1, 0, none⟩)), (3, vvc3), (5, .pointer (some ⟨g5, 0, none⟩))] ∧ Iv w0 (many [cel g0 [av .u32 8 x0.s, [vp1], [.int .i64 x0.n]] 104, row 5 1 vp1 x0.rest.length cp1]).foot μ μ2 [cel g5 [av .u32 8 c4] 102, cel g0 [av .u32 8 x0.s, [vp1], [.int .i64 x0.n]] 104, row 5 1 vp1 x0.rest.length cp1, row 5 1 (.slice (some ⟨g2, 0, none⟩) 1 1) ([128] : List Int).length cs2, cel g1 [av .u8 32 (List.replicate 32 0)] 26] w) ?_ ?_
      · have H := bI hz7
        refine w_seq fun _ hN10 => w_reg <| sta hA rfl rfl fun a hA => ?_
        refine o_nil <| hN10 _ _ <| w_block ?_
        obtain ⟨μ3, hle3, hsv5, hI⟩ := hI.freezeRow 3 rfl
        have hS2 : Slc (RI .u8) 1 μ3 vvc2 c2 := ⟨_, wc2, hsv5⟩
        obtain ⟨z3, hz8, Hk6⟩ := bind_some H
        obtain ⟨n3, hn3⟩ := loopO_some hz8
        refine w_loop (fun n a w => ∃ (s4 : List Int) (s5 : Int) (s6 : List Int) (μ4 : Store) (vvs4 : Value), loopN (digest_Writer_Sum.s2) n (s4, s5, s6) = some z3 ∧ μ3.le μ4 ∧ Slc (RI .u8) 1 μ4 vvs4 s4 ∧ InR .i64 s5 ∧ Arr .u32 8 s6 ∧ Fr a 79 [(2, .pointer (some ⟨g1, 0, none⟩)), (3, vvs4), (5, .pointer (some ⟨g5, 0, none⟩)), (6, .int .i64 s5)] ∧ Iv w0 (many [cel g0 [av .u32 8 x0.s, [vp1], [.int .i64 x0.n]] 104, row 5 1 vp1 x0.rest.length cp1]).foot μ μ4 [cel g5 [av .u32 8 s6] 102, cel g0 [av .u32 8 x0.s, [vp1], [.int .i64 x0.n]] 104, row 5 1 vp1 x0.rest.length cp1, row 5 1 (.slice (some ⟨g2, 0, none⟩) 1 1) ([128] : List Int).length cs2, cel g1 [av .u8 32 (List.replicate 32 0)] 26] w) n3 ⟨c2, 0, r2, μ3, vvc2, hn3, (Store.le.refl _), hS2, (in_lit .i64 0 rfl), hw1, hA.sub ⟨rfl, rfl, rfl, rfl, trivial⟩, hI⟩ ?_
        clear hA hI
        rintro n a w ⟨s4, s5, s6, μ4, vvs4, hn3, hle4, ws4, ws5, ws6, hA, hI⟩
        obtain ⟨m3, rfl, H⟩ := loopN_bind hn3
        clear hn3
        refine w_seq fun _ hN11 => w_seq fun _ hN12 => w_reg <| stm hA rfl rfl fun a hA => 
          stm hA rfl rfl fun a hA => ?_
        obtain ⟨_, hsl1⟩ := Slc.sv ws4
        refine stp hA (r_slen Tryd.underlying40 hsl1 hA rfl) rfl fun a hA => 
          stp hA (r_lss hA rfl rfl) rfl fun a hA => ?_
        refine o_nil <| hN12 _ _ <| w_cond hA rfl (fun hc3 => ?_) (fun hc3 => ?_)
        · obtain ⟨hc3, H⟩ := dT H hc3
          refine w_skip <| hN11 _ _ <| w_seq fun _ hN13 => w_block ?_
          refine w_any [7] mo hI fun w hI => ?_
          refine gT 0 hA rfl hI (fun w hI => r_ldA (j := 0) [] [av .u32 8 s6] [] Tryd.underlying102 rfl sz102 rfl hI rfl hA rfl rfl) fun a hA => ?_
          refine gE 1 hA rfl (.inr hI) (fun _ => r_mv hA rfl) fun a hA => ?_
          refine gE 2 hA rfl (.inr hI) (fun _ => r_mv hA rfl) fun a hA => ?_
          refine gE 3 hA rfl (.inr hI) (fun _ => r_mv hA rfl) fun a hA => ?_
          refine gE 4 hA rfl (.inr hI) (fun _ => r_add hA rfl rfl) fun a hA => ?_
          obtain ⟨hb5, H⟩ := bG H
          obtain ⟨v6, hS3, hr3⟩ := r_sl (P := Tryd.prog) (t := 40) (x := .tmp 51) (l := (some (.tmp 52))) (h := (some (.tmp 54))) (i := s5) (j := IntKind.i64.wrap (s5 + 64)) Tryd.underlying40 sz5 ws4 hA rfl rfl rfl (by have hq := hb5; omega) (by have hq := hb5; omega) (by have hq := hb5; omega)
          refine gE 5 hA rfl (.inr hI) (fun _ => hr3 _ _ _ _ _ _) fun a hA => ?_
          refine gF 6 rfl ?_
          obtain ⟨r3, hr4, H⟩ := bB H
          refine o_callp (u := .agg [av .u32 8 r3].flatten.toArray) cf66 hA rfl hI (digest_mix.c μ4 _ hI.agr s6 ws6 ((s4.take (IntKind.i64.wrap (s5 + 64)).toNat).drop (s5).toNat) v6 hS3 r3 hr4) rfl fun a w hz9 hI hA => ?_
          refine o_nil <| ⟨(.inr hI), ?_⟩
          refine gF 7 rfl ?_
          refine o_st (j := 0) [] [av .u32 8 s6] [av .u32 8 r3] [] sz102 rfl rfl (fl_cons (one_av _ _ _) fl_nil) hI rfl hA rfl rfl rfl rfl fun w hI => ?_
          refine o_nil <| ⟨(.inl (by kernel_rfl)), ?_⟩
          refine gN <| hN13 _ _ <| w_reg <| stm hA rfl rfl fun a hA => 
            stp hA (r_add hA rfl rfl) rfl fun a hA => 
            sta hA rfl rfl fun a hA => ?_
          refine o_nil <| ⟨m3, Nat.lt_succ_self _, s4, IntKind.i64.wrap (s5 + 64), r3, μ4, vvs4, H, hle4, ws4, (wrap_in _ _), hz9, hA.sub ⟨rfl, rfl, rfl, rfl, trivial⟩, hI⟩
        · obtain ⟨hc3, H⟩ := dF H hc3
          refine w_exit rfl ?_
          have H : some (s4, s6) = some z3 := H
          obtain rfl := sI H
          have H := Hk6
          cases sJ H
          exact ⟨μ4, vvs4, (hle3.trans hle4), ws4, ws6, hA.sub ⟨rfl, rfl, rfl, trivial⟩, hI⟩
      · rintro a w ⟨μ2, vvc3, hle2, wc3, wc4, hA, hI⟩
        have H := Hk5
        refine w_seq fun _ hN14 => w_reg <| o_new [av .u8 32 (List.replicate 32 0)] zr26 hI hA rfl fun g6 a w hA hI hg6 => ?_
        refine o_nil <| hN14 _ _ ?_
        obtain ⟨c5, hz10, Hk7⟩ := bB H
        refine w_cut (fun a w => Arr .u8 32 c5 ∧ Fr a 79 [(2, .pointer (some ⟨g1, 0, none⟩)), (7, .pointer (some ⟨g6, 0, none⟩))] ∧ Iv w0 (many [cel g0 [av .u32 8 x0.s, [vp1], [.int .i64 x0.n]] 104, row 5 1 vp1 x0.rest.length cp1]).foot μ μ2 [cel g6 [av .u8 32 c5] 26, cel g5 [av .u32 8 c4] 102, cel g0 [av .u32 8 x0.s, [vp1], [.int .i64 x0.n]] 104, row 5 1 vp1 x0.rest.length cp1, row 5 1 (.slice (some ⟨g2, 0, none⟩) 1 1) ([128] : List Int).length cs2, cel g1 [av .u8 32 (List.replicate 32 0)] 26] w) ?_ ?_
        · have H := bI hz10
          refine w_seq fun _ hN15 => w_reg <| stp hA (r_ldA (j := 1) [] [av .u32 8 c4] [] Tryd.underlying102 rfl sz102 rfl hI rfl hA rfl rfl) rfl fun a hA => 
            stm hA rfl rfl fun a hA => ?_
          refine o_nil <| hN15 _ _ <| w_block ?_
          obtain ⟨z4, hz11, Hk8⟩ := bind_some H
          obtain ⟨n4, hn4⟩ := loopO_some hz11
          refine w_loop (fun n a w => ∃ (s7 : Int) (s8 : List Int), loopN (digest_Writer_Sum.s3 c4) n (s7, s8) = some z4 ∧ InR .i64 s7 ∧ Arr .u8 32 s8 ∧ Fr a 79 [(2, .pointer (some ⟨g1, 0, none⟩)), (7, .pointer (some ⟨g6, 0, none⟩)), (57, .agg [av .u32 8 c4].flatten.toArray), (58, .int .i64 s7)] ∧ Iv w0 (many [cel g0 [av .u32 8 x0.s, [vp1], [.int .i64 x0.n]] 104, row 5 1 vp1 x0.rest.length cp1]).foot μ μ2 [cel g6 [av .u8 32 s8] 26, cel g5 [av .u32 8 c4] 102, cel g0 [av .u32 8 x0.s, [vp1], [.int .i64 x0.n]] 104, row 5 1 vp1 x0.rest.length cp1, row 5 1 (.slice (some ⟨g2, 0, none⟩) 1 1) ([128] : List Int).length cs2, cel g1 [av .u8 32 (List.replicate 32 0)] 26] w) n4 ⟨0, (List.replicate 32 0), hn4, (in_lit .i64 0 rfl), (arr_zero _ _), hA.sub ⟨rfl, rfl, rfl, rfl, trivial⟩, hI⟩ ?_
          clear hA hI
          rintro n a w ⟨s7, s8, hn4, ws7, ws8, hA, hI⟩
          obtain ⟨m4, rfl, H⟩ := loopN_bind hn4
          clear hn4
          refine w_seq fun _ hN16 => w_reg <| stp hA (r_lss hA rfl rfl) rfl fun a hA => ?_
          refine o_nil <| hN16 _ _ <| w_seq fun _ hN17 => w_cond hA rfl (fun hc4 => ?_) (fun hc4 => ?_)
          · obtain ⟨hc4, H⟩ := dT H hc4
            refine w_skip <| hN17 _ _ ?_
            obtain ⟨c6, hz12, Hk9⟩ := bB H
            refine w_cut (fun a w => Arr .u8 32 c6 ∧ Fr a 79 [(2, .pointer (some ⟨g1, 0, none⟩)), (7, .pointer (some ⟨g6, 0, none⟩)), (57, .agg [av .u32 8 c4].flatten.toArray), (58, .int .i64 s7), (59, .bool (decide (s7 < 8)))] ∧ Iv w0 (many [cel g0 [av .u32 8 x0.s, [vp1], [.int .i64 x0.n]] 104, row 5 1 vp1 x0.rest.length cp1]).foot μ μ2 [cel g6 [av .u8 32 c6] 26, cel g5 [av .u32 8 c4] 102, cel g0 [av .u32 8 x0.s, [vp1], [.int .i64 x0.n]] 104, row 5 1 vp1 x0.rest.length cp1, row 5 1 (.slice (some ⟨g2, 0, none⟩) 1 1) ([128] : List Int).length cs2, cel g1 [av .u8 32 (List.replicate 32 0)] 26] w) ?_ ?_
            · have H := bI hz12
              refine w_block <| w_seq fun _ hN18 => w_reg <| stm hA rfl rfl fun a hA => ?_
              obtain ⟨hb6, H⟩ := bG H
              refine stp hA (r_aidx Tryd.underlying102 Tryd.underlying24 sz24 hA rfl rfl hb6.1 hb6.2) rfl fun a hA => 
                sta hA rfl rfl fun a hA => 
                sta hA rfl rfl fun a hA => ?_
              refine o_nil <| hN18 _ _ <| w_seq fun _ hN19 => w_reg <| stm hA rfl rfl fun a hA => ?_
              refine o_nil <| hN19 _ _ <| w_block ?_
              obtain ⟨z5, hz13, Hk10⟩ := bind_some H
              obtain ⟨n5, hn5⟩ := loopO_some hz13
              refine w_loop (fun n a w => ∃ (s9 : Int) (s10 : List Int), loopN (digest_Writer_Sum.s4 c4 s7) n (s9, s10) = some z5 ∧ InR .i64 s9 ∧ Arr .u8 32 s10 ∧ Fr a 79 [(2, .pointer (some ⟨g1, 0, none⟩)), (7, .pointer (some ⟨g6, 0, none⟩)), (8, .int .i64 s7), (9, .int .u32 (c4.getD s7.toNat 0)), (57, .agg [av .u32 8 c4].flatten.toArray), (58, .int .i64 s7), (59, .bool (decide (s7 < 8))), (62, .int .i64 s9)] ∧ Iv w0 (many [cel g0 [av .u32 8 x0.s, [vp1], [.int .i64 x0.n]] 104, row 5 1 vp1 x0.rest.length cp1]).foot μ μ2 [cel g6 [av .u8 32 s10] 26, cel g5 [av .u32 8 c4] 102, cel g0 [av .u32 8 x0.s, [vp1], [.int .i64 x0.n]] 104, row 5 1 vp1 x0.rest.length cp1, row 5 1 (.slice (some ⟨g2, 0, none⟩) 1 1) ([128] : List Int).length cs2, cel g1 [av .u8 32 (List.replicate 32 0)] 26] w) n5 ⟨0, s8, hn5, (in_lit .i64 0 rfl), ws8, hA.sub ⟨rfl, rfl, rfl, rfl, rfl, rfl, rfl, rfl, trivial⟩, hI⟩ ?_
              clear hA hI
              rintro n a w ⟨s9, s10, hn5, ws9, ws10, hA, hI⟩
              obtain ⟨m5, rfl, H⟩ := loopN_bind hn5
              clear hn5
              refine w_seq fun _ hN20 => w_reg <| stp hA (r_lss hA rfl rfl) rfl fun a hA => ?_
              refine o_nil <| hN20 _ _ <| w_seq fun _ hN21 => w_cond hA rfl (fun hc5 => ?_) (fun hc5 => ?_)
              · obtain ⟨hc5, H⟩ := dT H hc5
                refine w_skip <| hN21 _ _ <| w_seq fun _ hN22 => w_block <| w_seq fun _ hN23 => w_reg <| stm hA rfl rfl fun a hA => 
                  sta hA rfl rfl fun a hA => ?_
                refine o_nil <| hN23 _ _ <| w_reg <| stm hA rfl rfl fun a hA => 
                  stp hA (r_mul hA rfl rfl) rfl fun a hA => 
                  stm hA rfl rfl fun a hA => 
                  stp hA (r_add hA rfl rfl) rfl fun a hA => 
                  stm hA rfl rfl fun a hA => 
                  stm hA rfl rfl fun a hA => 
                  stp hA (r_mul hA rfl rfl) rfl fun a hA => 
                  stp hA (r_sub hA rfl rfl) rfl fun a hA => ?_
                obtain ⟨hb7, H⟩ := bG H
                refine stp hA (r_shr hA rfl rfl hb7) rfl fun a hA => 
                  stp hA (r_conv Tryd.underlying24 Tryd.underlying5 hA rfl) rfl fun a hA => ?_
                obtain ⟨hb8, H⟩ := bG H
                refine stp hA (r_ixar1 Tryd.underlying26 sz5 hA rfl rfl hb8.1 hb8.2) rfl fun a hA => 
                  o_stE (j := 0) [] [] sz5 ws10.1 hI rfl hA rfl rfl rfl (by omega) fun w hI => ?_
                refine o_nil <| hN22 _ _ <| w_reg <| stp hA (r_add hA rfl rfl) rfl fun a hA => 
                  stm hA rfl rfl fun a hA => ?_
                refine o_nil <| ⟨m5, Nat.lt_succ_self _, IntKind.i64.wrap (s9 + 1), s10.set (IntKind.i64.wrap ((IntKind.i64.wrap (4 * s7)) + s9)).toNat (IntKind.u8.wrap (sR .u32 (c4.getD s7.toNat 0) (IntKind.i64.wrap (24 - (IntKind.i64.wrap (8 * s9)))))), H, (wrap_in _ _), (arr_set ws10 _ (wrap_in _ _)), hA.sub ⟨rfl, rfl, rfl, rfl, rfl, rfl, rfl, rfl, trivial⟩, hI⟩
              · obtain ⟨hc5, H⟩ := dF H hc5
                refine w_exit rfl ?_
                have H : some s10 = some z5 := H
                obtain rfl := sI H
                have H := Hk10
                cases sJ H
                exact ⟨ws10, hA.sub ⟨rfl, rfl, rfl, rfl, rfl, trivial⟩, hI⟩
            · rintro a w ⟨wc6, hA, hI⟩
              have H := Hk9
              refine w_reg <| stp hA (r_add hA rfl rfl) rfl fun a hA => 
                stm hA rfl rfl fun a hA => ?_
              refine o_nil <| ⟨m4, Nat.lt_succ_self _, IntKind.i64.wrap (s7 + 1), c6, H, (wrap_in _ _), wc6, hA.sub ⟨rfl, rfl, rfl, rfl, trivial⟩, hI⟩
          · obtain ⟨hc4, H⟩ := dF H hc4
            refine w_exit rfl ?_
            have H : some s8 = some z4 := H
            obtain rfl := sI H
            have H := Hk8
            cases sJ H
            exact ⟨ws8, hA.sub ⟨rfl, rfl, trivial⟩, hI⟩
        · rintro a w ⟨wc5, hA, hI⟩
          have H := Hk7
          refine w_seq fun _ hN24 => w_reg <| stp hA (r_ldA (j := 0) [] [av .u8 32 c5] [] Tryd.underlying26 rfl sz26 rfl hI rfl hA rfl rfl) rfl fun a hA => 
            o_st (j := 5) [] [av .u8 32 (List.replicate 32 0)] [av .u8 32 c5] [] sz26 rfl rfl (fl_cons (one_av _ _ _) fl_nil) hI rfl hA rfl rfl rfl rfl fun w hI => ?_
          refine o_nil <| hN24 _ _ <| w_ret ?_
          obtain rfl := sJ H
          exact retc Tryd.underlying26 rfl sz26 rfl hI (j := 5) rfl hA Tryd.results58 rfl ⟨_, rfl, rfl, wc5, ((hI.sl [2, 3] rfl).less (Store.le.refl _) hI.le)⟩
set_option maxRecDepth 20000 in
theorem digest_Sha.c (μ : Store) (w0 : World) (hμ : Agr μ w0) (x0 : List Int) (u0 : Value) (hx0 : Slc (RI .u8) 1 μ u0 x0) (r : List Int) (H : digest_Sha.f x0 = some r) :
    Calls Tryd.prog 38 [u0].toArray w0 (fun e w' => ∃ v, e = .returned v ∧ v = .agg [av .u8 32 r].flatten.toArray ∧ Arr .u8 32 r ∧ Iv w0 [] μ μ [] w') := by
  refine enter Tryd.func38 rfl Tryd.ntmps38 rfl fun a hA => ?_
  have hI := Iv.start hμ
  have H := bI H
  refine w_seq fun _ hN1 => w_reg <| o_new [av .u8 32 (List.replicate 32 0)] zr26 hI hA rfl fun g1 a w hA hI hg1 => ?_
  refine o_nil <| hN1 _ _ <| w_seq fun _ hN2 => w_reg <| o_new [av .u32 8 (List.replicate 8 0), [(.slice none 0 0)], [.int .i64 0]] zr104 hI hA rfl fun g2 a w hA hI hg2 => ?_
  refine o_nil <| hN2 _ _ <| w_seq fun _ hN3 => w_reg <| stm hA rfl rfl fun a hA => ?_
  have hI := hI.nilRow 5 1
  obtain ⟨r1, hr1, H⟩ := bB H
  have hI := hI.sl [1, 0, 2] rfl
  refine o_call _ cf57 hA rfl (digest_Writer_Write.c μ _ hI.agr (⟨(List.replicate 8 0), ([] : List Int), 0⟩ : digestWriter) (.slice none 0 0) [] g2 (arr_zero _ _) (Els.nil (RE := (RI .u8)) (sz := 1)) (in_lit .i64 0 rfl) (hI.handN 2) x0 u0 hx0 r1 hr1) rfl fun v1 a w hz1 hA => ?_
  obtain ⟨vp1, cp1, rfl, hp1, hp2, hp3, hi1⟩ := hz1
  have hI := hI.back2 hi1
  refine o_nil <| hN3 _ _ <| w_seq fun _ hN4 => w_reg ?_
  obtain ⟨r2, hr2, H⟩ := bB H
  refine o_call _ cf58 hA rfl (digest_Writer_Sum.c μ _ hI.agr (⟨r1.s, r1.rest, r1.n⟩ : digestWriter) vp1 cp1 g2 hp1 hp2 hp3 (hI.handN 2) r2 hr2) rfl fun v2 a w hz2 hA => ?_
  obtain ⟨rfl, hw1, hi2⟩ := hz2
  have hI := hI.back2 hi2
  refine o_st (j := 2) [] [av .u8 32 (List.replicate 32 0)] [av .u8 32 r2] [] sz26 rfl rfl (fl_cons (one_av _ _ _) fl_nil) hI rfl hA rfl rfl rfl rfl fun w hI => ?_
  refine o_nil <| hN4 _ _ <| w_ret ?_
  obtain rfl := sJ H
  exact retc Tryd.underlying26 rfl sz26 rfl hI (j := 2) rfl hA Tryd.results38 rfl ⟨_, rfl, rfl, hw1, hI.forget0⟩
set_option maxRecDepth 20000 in
theorem digest_Twice.c (μ : Store) (w0 : World) (hμ : Agr μ w0) (x0 : List Int) (u0 : Value) (hx0 : Slc (RI .u8) 1 μ u0 x0) (r : List Int) (H : digest_Twice.f x0 = some r) :
    Calls Tryd.prog 39 [u0].toArray w0 (fun e w' => ∃ v, e = .returned v ∧ v = .agg [av .u8 32 r].flatten.toArray ∧ Arr .u8 32 r ∧ Iv w0 [] μ μ [] w') := by
  refine enter Tryd.func39 rfl Tryd.ntmps39 rfl fun a hA => ?_
  have hI := Iv.start hμ
  have H := bI H
  refine w_seq fun _ hN1 => w_reg <| o_new [av .u8 32 (List.replicate 32 0)] zr26 hI hA rfl fun g1 a w hA hI hg1 => ?_
  refine o_nil <| hN1 _ _ <| w_seq fun _ hN2 => w_reg <| stm hA rfl rfl fun a hA => ?_
  obtain ⟨r1, hr1, H⟩ := bB H
  refine o_callp (u := .agg [av .u8 32 r1].flatten.toArray) cf38 hA rfl hI (digest_Sha.c μ _ hI.agr x0 u0 hx0 r1 hr1) rfl fun a w hz1 hI hA => 
    o_new [av .u8 32 (List.replicate 32 0)] zr26 hI hA rfl fun g2 a w hA hI hg2 => 
    o_st (j := 0) [] [av .u8 32 (List.replicate 32 0)] [av .u8 32 r1] [] sz26 rfl rfl (fl_cons (one_av _ _ _) fl_nil) hI rfl hA rfl rfl rfl rfl fun w hI => ?_
  refine o_nil <| hN2 _ _ <| w_seq fun _ hN3 => w_reg <| stp hA (r_slv (i := 0) (j := 32) Tryd.underlying26 sz5 hA rfl rfl rfl (by decide) (by decide) (by decide) (by decide) rfl) rfl fun a hA => ?_
  obtain ⟨r2, hr2, H⟩ := bB H
  refine o_callp (u := .agg [av .u8 32 r2].flatten.toArray) cf38 hA rfl hI ((by obtain ⟨μ1, hle1, hat1, hI⟩ := hI.freezeCel 0 rfl; have hS1 : Slc (RI .u8) 1 μ1 (.slice (some ⟨g2, 0, none⟩) 32 32) (r1) := slc_view0 [] [] hat1 hz1 rfl (by decide); exact low_plain hle1 (digest_Sha.c μ1 _ hI.agr r1 (.slice (some ⟨g2, 0, none⟩) 32 32) hS1 r2 hr2))) rfl fun a w hz2 hI hA => 
    o_st (j := 1) [] [av .u8 32 (List.replicate 32 0)] [av .u8 32 r2] [] sz26 rfl rfl (fl_cons (one_av _ _ _) fl_nil) hI rfl hA rfl rfl rfl rfl fun w hI => ?_
  refine o_nil <| hN3 _ _ <| w_ret ?_
  obtain rfl := sJ H
  exact retc Tryd.underlying26 rfl sz26 rfl hI (j := 1) rfl hA Tryd.results39 rfl ⟨_, rfl, rfl, hz2, hI.forget0⟩
end Go.Proofs.YtkfpmcplfodikaaDoor.T
namespace Go.Proofs.YtkfpmcplfodikaaDoor.T
open Go Go.Proofs Go.Proofs.YtkfpmcplfodikaaDoor.K
set_option linter.unusedVariables false
set_option linter.unusedSimpArgs false
def slices_Grow_byte_byte.f (x1 : Int) : Option (List Int) := if 0 ≤ x1 ∧ x1 ≤ 140737488355328 then some [] else none
noncomputable def slices_Concat_byte_byte.s1 (x0 : List (List Int)) : ((List Int) × Int) → Option (((List Int) × Int) ⊕ (List Int)) := fun (s3, s4) => (if s4 < (x0.length : Int) then (if 0 ≤ s4 ∧ s4 < (x0.length : Int) then (if s3.length + (x0.getD s4.toNat []).length ≤ 140737488355328 then some (.inl (s3 ++ (x0.getD s4.toNat []), IntKind.i64.wrap (s4 + 1))) else none) else none) else some (.inr s3))
noncomputable def slices_Concat_byte_byte.s0 (x0 : List (List Int)) : (Int × Int) → Option ((Int × Int) ⊕ Int) := fun (s1, s2) => (if s2 < (x0.length : Int) then (((if 0 ≤ s2 ∧ s2 < (x0.length : Int) then (if (IntKind.i64.wrap (s1 + ((x0.getD s2.toNat []).length : Int))) < 0 then none else some (IntKind.i64.wrap (s1 + ((x0.getD s2.toNat []).length : Int)))) else none)).bind fun c2 => some (.inl (c2, IntKind.i64.wrap (s2 + 1)))) else some (.inr s1))
noncomputable def slices_Concat_byte_byte.f (x0 : List (List Int)) : Option (List Int) := ((loopO (slices_Concat_byte_byte.s0 x0) (0, 0)).bind fun c1 => ((slices_Grow_byte_byte.f c1).bind fun r1 => ((loopO (slices_Concat_byte_byte.s1 x0) (r1, 0)).bind fun c3 => some c3)))
noncomputable def head_Check.f (x0 : Head) : Option Er := (((if x0.Work = 0 then some true else some (decide (16777216 < x0.Work)))).bind fun c1 => (if c1 = true then some xErrRange else some (Er.b 0)))
noncomputable def head_Bytes.f (x0 : Head) : Option (List Int) := ((compact_Four.f ([]) x0.Version).bind fun r1 => ((slices_Concat_byte_byte.f ([r1, x0.Prev, x0.Root] : List (List Int))).bind fun r2 => ((compact_Four.f r2 x0.Time).bind fun r3 => ((compact_Four.f r3 x0.Work).bind fun r4 => ((compact_Four.f r4 x0.Nonce).bind fun r5 => some r5)))))
noncomputable def spend_Null.f : Option Point := some (⟨(List.replicate 32 0), 4294967295⟩ : Point)
noncomputable def spend_IsNull.f (x0 : Point) : Option Bool := ((spend_Null.f).bind fun r1 => some (decide (x0.Tx = r1.Tx ∧ x0.N = r1.N)))
noncomputable def spend_Lock.f (x0 : List Int) : Option (List Int) := ((digest_Sha.f x0).bind fun r1 => some r1)
noncomputable def sargassoref1_Null.f : Option Point := some (⟨(List.replicate 32 0), 4294967295⟩ : Point)
end Go.Proofs.YtkfpmcplfodikaaDoor.T
