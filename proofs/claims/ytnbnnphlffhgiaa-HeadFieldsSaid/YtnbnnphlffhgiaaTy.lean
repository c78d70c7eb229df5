/- A helper of this seat's claims: printed by gen.py. It proves no statement by itself. -/
import Derived.Test.YtnbnnphlffhgiaaProg
import Derived.Test.YtnbnnphlffhgiaaN
namespace Go.Proofs.Ytnbnnphlffhgiaa.T
open Go Go.Proofs Go.Proofs.Ytnbnnphlffhgiaa.K
set_option linter.unusedVariables false
set_option linter.unusedSimpArgs false
theorem mo : Try.prog.follows .mixedOrders = true := by kernel_rfl
theorem sz2 : (Try.prog.info? 2).map (·.size) = some 1 := by kernel_rfl
theorem sz3 : (Try.prog.info? 3).map (·.size) = some 1 := by kernel_rfl
theorem sz4 : (Try.prog.info? 4).map (·.size) = some 1 := by kernel_rfl
theorem sz5 : (Try.prog.info? 5).map (·.size) = some 1 := by kernel_rfl
theorem sz22 : (Try.prog.info? 22).map (·.size) = some 1 := by kernel_rfl
theorem sz25 : (Try.prog.info? 25).map (·.size) = some 1 := by kernel_rfl
theorem sz26 : (Try.prog.info? 26).map (·.size) = some 8 := by kernel_rfl
theorem sz33 : (Try.prog.info? 33).map (·.size) = some 32 := by kernel_rfl
theorem sz45 : (Try.prog.info? 45).map (·.size) = some 1 := by kernel_rfl
theorem sz57 : (Try.prog.info? 57).map (·.size) = some 33 := by kernel_rfl
theorem sz64 : (Try.prog.info? 64).map (·.size) = some 1 := by kernel_rfl
theorem sz65 : (Try.prog.info? 65).map (·.size) = some 1 := by kernel_rfl
theorem sz67 : (Try.prog.info? 67).map (·.size) = some 4 := by kernel_rfl
theorem sz71 : (Try.prog.info? 71).map (·.size) = some 35 := by kernel_rfl
theorem sz73 : (Try.prog.info? 73).map (·.size) = some 33 := by kernel_rfl
theorem sz76 : (Try.prog.info? 76).map (·.size) = some 68 := by kernel_rfl
theorem sz103 : (Try.prog.info? 103).map (·.size) = some 35 := by kernel_rfl
theorem sz124 : (Try.prog.info? 124).map (·.size) = some 64 := by kernel_rfl
theorem sh57 : Try.prog.stoodInHeld 57 = false := by kernel_rfl
theorem eg33 : Try.prog.eqGuardType Try.prog.depth 33 = false := by kernel_rfl
theorem eg57 : Try.prog.eqGuardType Try.prog.depth 57 = false := by kernel_rfl
theorem xc117 : (Try.f117.name == "runtime.NumGoroutine") = false ∧ Try.f117.body.isNone = true ∧ Extern.findNext Try.f117 = none := ⟨by kernel_rfl, by kernel_rfl, by kernel_rfl⟩
theorem xe117 : Extern.find Try.f117 = some Extern.BytealgCompare.compare := by kernel_rfl
theorem cf25 : CalleeF Try.prog 25 := ⟨Try.f25, Try.func25, by decide, rfl⟩
theorem cf26 : CalleeF Try.prog 26 := ⟨Try.f26, Try.func26, by decide, rfl⟩
theorem cf27 : CalleeF Try.prog 27 := ⟨Try.f27, Try.func27, by decide, rfl⟩
theorem cf28 : CalleeF Try.prog 28 := ⟨Try.f28, Try.func28, by decide, rfl⟩
theorem cf29 : CalleeF Try.prog 29 := ⟨Try.f29, Try.func29, by decide, rfl⟩
theorem cf30 : CalleeF Try.prog 30 := ⟨Try.f30, Try.func30, by decide, rfl⟩
theorem cf31 : CalleeF Try.prog 31 := ⟨Try.f31, Try.func31, by decide, rfl⟩
theorem cf32 : CalleeF Try.prog 32 := ⟨Try.f32, Try.func32, by decide, rfl⟩
theorem cf33 : CalleeF Try.prog 33 := ⟨Try.f33, Try.func33, by decide, rfl⟩
theorem cf34 : CalleeF Try.prog 34 := ⟨Try.f34, Try.func34, by decide, rfl⟩
theorem cf35 : CalleeF Try.prog 35 := ⟨Try.f35, Try.func35, by decide, rfl⟩
theorem cf36 : CalleeF Try.prog 36 := ⟨Try.f36, Try.func36, by decide, rfl⟩
theorem cf37 : CalleeF Try.prog 37 := ⟨Try.f37, Try.func37, by decide, rfl⟩
theorem cf38 : CalleeF Try.prog 38 := ⟨Try.f38, Try.func38, by decide, rfl⟩
theorem cf39 : CalleeF Try.prog 39 := ⟨Try.f39, Try.func39, by decide, rfl⟩
theorem cf40 : CalleeF Try.prog 40 := ⟨Try.f40, Try.func40, by decide, rfl⟩
theorem cf41 : CalleeF Try.prog 41 := ⟨Try.f41, Try.func41, by decide, rfl⟩
theorem cf42 : CalleeF Try.prog 42 := ⟨Try.f42, Try.func42, by decide, rfl⟩
theorem cf43 : CalleeF Try.prog 43 := ⟨Try.f43, Try.func43, by decide, rfl⟩
theorem cf44 : CalleeF Try.prog 44 := ⟨Try.f44, Try.func44, by decide, rfl⟩
theorem cf45 : CalleeF Try.prog 45 := ⟨Try.f45, Try.func45, by decide, rfl⟩
theorem cf46 : CalleeF Try.prog 46 := ⟨Try.f46, Try.func46, by decide, rfl⟩
theorem cf47 : CalleeF Try.prog 47 := ⟨Try.f47, Try.func47, by decide, rfl⟩
theorem cf48 : CalleeF Try.prog 48 := ⟨Try.f48, Try.func48, by decide, rfl⟩
theorem cf49 : CalleeF Try.prog 49 := ⟨Try.f49, Try.func49, by decide, rfl⟩
theorem cf50 : CalleeF Try.prog 50 := ⟨Try.f50, Try.func50, by decide, rfl⟩
theorem cf51 : CalleeF Try.prog 51 := ⟨Try.f51, Try.func51, by decide, rfl⟩
theorem cf52 : CalleeF Try.prog 52 := ⟨Try.f52, Try.func52, by decide, rfl⟩
theorem cf53 : CalleeF Try.prog 53 := ⟨Try.f53, Try.func53, by decide, rfl⟩
theorem cf54 : CalleeF Try.prog 54 := ⟨Try.f54, Try.func54, by decide, rfl⟩
theorem cf55 : CalleeF Try.prog 55 := ⟨Try.f55, Try.func55, by decide, rfl⟩
theorem cf56 : CalleeF Try.prog 56 := ⟨Try.f56, Try.func56, by decide, rfl⟩
theorem cf57 : CalleeF Try.prog 57 := ⟨Try.f57, Try.func57, by decide, rfl⟩
theorem cf58 : CalleeF Try.prog 58 := ⟨Try.f58, Try.func58, by decide, rfl⟩
theorem cf59 : CalleeF Try.prog 59 := ⟨Try.f59, Try.func59, by decide, rfl⟩
theorem cf60 : CalleeF Try.prog 60 := ⟨Try.f60, Try.func60, by decide, rfl⟩
theorem cf61 : CalleeF Try.prog 61 := ⟨Try.f61, Try.func61, by decide, rfl⟩
theorem cf62 : CalleeF Try.prog 62 := ⟨Try.f62, Try.func62, by decide, rfl⟩
theorem cf63 : CalleeF Try.prog 63 := ⟨Try.f63, Try.func63, by decide, rfl⟩
theorem cf64 : CalleeF Try.prog 64 := ⟨Try.f64, Try.func64, by decide, rfl⟩
theorem cf65 : CalleeF Try.prog 65 := ⟨Try.f65, Try.func65, by decide, rfl⟩
theorem cf67 : CalleeF Try.prog 67 := ⟨Try.f67, Try.func67, by decide, rfl⟩
theorem cf68 : CalleeF Try.prog 68 := ⟨Try.f68, Try.func68, by decide, rfl⟩
theorem cf69 : CalleeF Try.prog 69 := ⟨Try.f69, Try.func69, by decide, rfl⟩
theorem cf70 : CalleeF Try.prog 70 := ⟨Try.f70, Try.func70, by decide, rfl⟩
theorem cf71 : CalleeF Try.prog 71 := ⟨Try.f71, Try.func71, by decide, rfl⟩
theorem cf72 : CalleeF Try.prog 72 := ⟨Try.f72, Try.func72, by decide, rfl⟩
theorem cf73 : CalleeF Try.prog 73 := ⟨Try.f73, Try.func73, by decide, rfl⟩
theorem cf74 : CalleeF Try.prog 74 := ⟨Try.f74, Try.func74, by decide, rfl⟩
theorem cf75 : CalleeF Try.prog 75 := ⟨Try.f75, Try.func75, by decide, rfl⟩
theorem cf76 : CalleeF Try.prog 76 := ⟨Try.f76, Try.func76, by decide, rfl⟩
theorem cf77 : CalleeF Try.prog 77 := ⟨Try.f77, Try.func77, by decide, rfl⟩
theorem cf78 : CalleeF Try.prog 78 := ⟨Try.f78, Try.func78, by decide, rfl⟩
theorem cf79 : CalleeF Try.prog 79 := ⟨Try.f79, Try.func79, by decide, rfl⟩
theorem cf80 : CalleeF Try.prog 80 := ⟨Try.f80, Try.func80, by decide, rfl⟩
theorem cf81 : CalleeF Try.prog 81 := ⟨Try.f81, Try.func81, by decide, rfl⟩
theorem cf82 : CalleeF Try.prog 82 := ⟨Try.f82, Try.func82, by decide, rfl⟩
theorem cf83 : CalleeF Try.prog 83 := ⟨Try.f83, Try.func83, by decide, rfl⟩
theorem cf84 : CalleeF Try.prog 84 := ⟨Try.f84, Try.func84, by decide, rfl⟩
theorem cf85 : CalleeF Try.prog 85 := ⟨Try.f85, Try.func85, by decide, rfl⟩
theorem cf86 : CalleeF Try.prog 86 := ⟨Try.f86, Try.func86, by decide, rfl⟩
theorem cf87 : CalleeF Try.prog 87 := ⟨Try.f87, Try.func87, by decide, rfl⟩
theorem cf88 : CalleeF Try.prog 88 := ⟨Try.f88, Try.func88, by decide, rfl⟩
theorem cf89 : CalleeF Try.prog 89 := ⟨Try.f89, Try.func89, by decide, rfl⟩
theorem cf90 : CalleeF Try.prog 90 := ⟨Try.f90, Try.func90, by decide, rfl⟩
theorem cf91 : CalleeF Try.prog 91 := ⟨Try.f91, Try.func91, by decide, rfl⟩
theorem cf92 : CalleeF Try.prog 92 := ⟨Try.f92, Try.func92, by decide, rfl⟩
theorem cf93 : CalleeF Try.prog 93 := ⟨Try.f93, Try.func93, by decide, rfl⟩
theorem cf94 : CalleeF Try.prog 94 := ⟨Try.f94, Try.func94, by decide, rfl⟩
theorem cf95 : CalleeF Try.prog 95 := ⟨Try.f95, Try.func95, by decide, rfl⟩
theorem cf96 : CalleeF Try.prog 96 := ⟨Try.f96, Try.func96, by decide, rfl⟩
theorem cf97 : CalleeF Try.prog 97 := ⟨Try.f97, Try.func97, by decide, rfl⟩
theorem cf98 : CalleeF Try.prog 98 := ⟨Try.f98, Try.func98, by decide, rfl⟩
theorem cf99 : CalleeF Try.prog 99 := ⟨Try.f99, Try.func99, by decide, rfl⟩
theorem cf100 : CalleeF Try.prog 100 := ⟨Try.f100, Try.func100, by decide, rfl⟩
theorem cf101 : CalleeF Try.prog 101 := ⟨Try.f101, Try.func101, by decide, rfl⟩
theorem cf102 : CalleeF Try.prog 102 := ⟨Try.f102, Try.func102, by decide, rfl⟩
theorem cf103 : CalleeF Try.prog 103 := ⟨Try.f103, Try.func103, by decide, rfl⟩
theorem cf104 : CalleeF Try.prog 104 := ⟨Try.f104, Try.func104, by decide, rfl⟩
theorem cf105 : CalleeF Try.prog 105 := ⟨Try.f105, Try.func105, by decide, rfl⟩
theorem cf106 : CalleeF Try.prog 106 := ⟨Try.f106, Try.func106, by decide, rfl⟩
theorem cf107 : CalleeF Try.prog 107 := ⟨Try.f107, Try.func107, by decide, rfl⟩
theorem cf108 : CalleeF Try.prog 108 := ⟨Try.f108, Try.func108, by decide, rfl⟩
theorem cf109 : CalleeF Try.prog 109 := ⟨Try.f109, Try.func109, by decide, rfl⟩
theorem cf110 : CalleeF Try.prog 110 := ⟨Try.f110, Try.func110, by decide, rfl⟩
theorem cf111 : CalleeF Try.prog 111 := ⟨Try.f111, Try.func111, by decide, rfl⟩
theorem cf112 : CalleeF Try.prog 112 := ⟨Try.f112, Try.func112, by decide, rfl⟩
theorem cf113 : CalleeF Try.prog 113 := ⟨Try.f113, Try.func113, by decide, rfl⟩
theorem cf114 : CalleeF Try.prog 114 := ⟨Try.f114, Try.func114, by decide, rfl⟩
theorem cf115 : CalleeF Try.prog 115 := ⟨Try.f115, Try.func115, by decide, rfl⟩
theorem cf116 : CalleeF Try.prog 116 := ⟨Try.f116, Try.func116, by decide, rfl⟩
theorem cf118 : CalleeF Try.prog 118 := ⟨Try.f118, Try.func118, by decide, rfl⟩
theorem zr3 : ∃ z, (Try.prog.info? 3).map (·.zero) = some (some z) ∧ z.cells = ([[.int .i64 0]] : List (List Value)).flatten.toArray := ⟨.int .i64 0, by kernel_rfl, by kernel_rfl⟩
theorem zr5 : ∃ z, (Try.prog.info? 5).map (·.zero) = some (some z) ∧ z.cells = ([[.int .u8 0]] : List (List Value)).flatten.toArray := ⟨.int .u8 0, by kernel_rfl, by kernel_rfl⟩
theorem zr22 : ∃ z, (Try.prog.info? 22).map (·.zero) = some (some z) ∧ z.cells = ([[(.slice none 0 0)]] : List (List Value)).flatten.toArray := ⟨.slice none 0 0, by kernel_rfl, by kernel_rfl⟩
theorem zr25 : ∃ z, (Try.prog.info? 25).map (·.zero) = some (some z) ∧ z.cells = ([[.int .u32 0]] : List (List Value)).flatten.toArray := ⟨.int .u32 0, by kernel_rfl, by kernel_rfl⟩
theorem zr26 : ∃ z, (Try.prog.info? 26).map (·.zero) = some (some z) ∧ z.cells = ([av .u32 8 (List.replicate 8 0)] : List (List Value)).flatten.toArray := ⟨.agg #[.int .u32 0, .int .u32 0, .int .u32 0, .int .u32 0, .int .u32 0, .int .u32 0, .int .u32 0, .int .u32 0], by kernel_rfl, by kernel_rfl⟩
theorem zr28 : ∃ z, (Try.prog.info? 28).map (·.zero) = some (some z) ∧ z.cells = ([av .u32 8 (List.replicate 8 0), [(.slice none 0 0)], [.int .i64 0]] : List (List Value)).flatten.toArray := ⟨.agg #[.int .u32 0, .int .u32 0, .int .u32 0, .int .u32 0, .int .u32 0, .int .u32 0, .int .u32 0, .int .u32 0, .slice none 0 0, .int .i64 0], by kernel_rfl, by kernel_rfl⟩
theorem zr33 : ∃ z, (Try.prog.info? 33).map (·.zero) = some (some z) ∧ z.cells = ([av .u8 32 (List.replicate 32 0)] : List (List Value)).flatten.toArray := ⟨.agg #[.int .u8 0, .int .u8 0, .int .u8 0, .int .u8 0, .int .u8 0, .int .u8 0, .int .u8 0, .int .u8 0, .int .u8 0, .int .u8 0, .int .u8 0, .int .u8 0, .int .u8 0, .int .u8 0, .int .u8 0, .int .u8 0, .int .u8 0, .int .u8 0, .int .u8 0, .int .u8 0, .int .u8 0, .int .u8 0, .int .u8 0, .int .u8 0, .int .u8 0, .int .u8 0, .int .u8 0, .int .u8 0, .int .u8 0, .int .u8 0, .int .u8 0, .int .u8 0], by kernel_rfl, by kernel_rfl⟩
theorem zr45 : ∃ z, (Try.prog.info? 45).map (·.zero) = some (some z) ∧ z.cells = ([[.int .u64 0]] : List (List Value)).flatten.toArray := ⟨.int .u64 0, by kernel_rfl, by kernel_rfl⟩
theorem zr57 : ∃ z, (Try.prog.info? 57).map (·.zero) = some (some z) ∧ z.cells = ([av .u8 32 (List.replicate 32 0), [.int .u32 0]] : List (List Value)).flatten.toArray := ⟨.agg #[.int .u8 0, .int .u8 0, .int .u8 0, .int .u8 0, .int .u8 0, .int .u8 0, .int .u8 0, .int .u8 0, .int .u8 0, .int .u8 0, .int .u8 0, .int .u8 0, .int .u8 0, .int .u8 0, .int .u8 0, .int .u8 0, .int .u8 0, .int .u8 0, .int .u8 0, .int .u8 0, .int .u8 0, .int .u8 0, .int .u8 0, .int .u8 0, .int .u8 0, .int .u8 0, .int .u8 0, .int .u8 0, .int .u8 0, .int .u8 0, .int .u8 0, .int .u8 0, .int .u32 0], by kernel_rfl, by kernel_rfl⟩
theorem zr67 : ∃ z, (Try.prog.info? 67).map (·.zero) = some (some z) ∧ z.cells = ([[.int .u32 0], [(.slice none 0 0)], [(.slice none 0 0)], [.int .u32 0]] : List (List Value)).flatten.toArray := ⟨.agg #[.int .u32 0, .slice none 0 0, .slice none 0 0, .int .u32 0], by kernel_rfl, by kernel_rfl⟩
theorem zr71 : ∃ z, (Try.prog.info? 71).map (·.zero) = some (some z) ∧ z.cells = ([av .u8 32 (List.replicate 32 0), [.int .u32 0], [(.slice none 0 0)], [.int .u32 0]] : List (List Value)).flatten.toArray := ⟨.agg #[.int .u8 0, .int .u8 0, .int .u8 0, .int .u8 0, .int .u8 0, .int .u8 0, .int .u8 0, .int .u8 0, .int .u8 0, .int .u8 0, .int .u8 0, .int .u8 0, .int .u8 0, .int .u8 0, .int .u8 0, .int .u8 0, .int .u8 0, .int .u8 0, .int .u8 0, .int .u8 0, .int .u8 0, .int .u8 0, .int .u8 0, .int .u8 0, .int .u8 0, .int .u8 0, .int .u8 0, .int .u8 0, .int .u8 0, .int .u8 0, .int .u8 0, .int .u8 0, .int .u32 0, .slice none 0 0, .int .u32 0], by kernel_rfl, by kernel_rfl⟩
theorem zr73 : ∃ z, (Try.prog.info? 73).map (·.zero) = some (some z) ∧ z.cells = ([[.int .u64 0], av .u8 32 (List.replicate 32 0)] : List (List Value)).flatten.toArray := ⟨.agg #[.int .u64 0, .int .u8 0, .int .u8 0, .int .u8 0, .int .u8 0, .int .u8 0, .int .u8 0, .int .u8 0, .int .u8 0, .int .u8 0, .int .u8 0, .int .u8 0, .int .u8 0, .int .u8 0, .int .u8 0, .int .u8 0, .int .u8 0, .int .u8 0, .int .u8 0, .int .u8 0, .int .u8 0, .int .u8 0, .int .u8 0, .int .u8 0, .int .u8 0, .int .u8 0, .int .u8 0, .int .u8 0, .int .u8 0, .int .u8 0, .int .u8 0, .int .u8 0, .int .u8 0], by kernel_rfl, by kernel_rfl⟩
theorem zr76 : ∃ z, (Try.prog.info? 76).map (·.zero) = some (some z) ∧ z.cells = ([[.int .u32 0], av .u8 32 (List.replicate 32 0), av .u8 32 (List.replicate 32 0), [.int .u32 0], [.int .u32 0], [.int .u32 0]] : List (List Value)).flatten.toArray := ⟨.agg #[.int .u32 0, .int .u8 0, .int .u8 0, .int .u8 0, .int .u8 0, .int .u8 0, .int .u8 0, .int .u8 0, .int .u8 0, .int .u8 0, .int .u8 0, .int .u8 0, .int .u8 0, .int .u8 0, .int .u8 0, .int .u8 0, .int .u8 0, .int .u8 0, .int .u8 0, .int .u8 0, .int .u8 0, .int .u8 0, .int .u8 0, .int .u8 0, .int .u8 0, .int .u8 0, .int .u8 0, .int .u8 0, .int .u8 0, .int .u8 0, .int .u8 0, .int .u8 0, .int .u8 0, .int .u8 0, .int .u8 0, .int .u8 0, .int .u8 0, .int .u8 0, .int .u8 0, .int .u8 0, .int .u8 0, .int .u8 0, .int .u8 0, .int .u8 0, .int .u8 0, .int .u8 0, .int .u8 0, .int .u8 0, .int .u8 0, .int .u8 0, .int .u8 0, .int .u8 0, .int .u8 0, .int .u8 0, .int .u8 0, .int .u8 0, .int .u8 0, .int .u8 0, .int .u8 0, .int .u8 0, .int .u8 0, .int .u8 0, .int .u8 0, .int .u8 0, .int .u8 0, .int .u32 0, .int .u32 0, .int .u32 0], by kernel_rfl, by kernel_rfl⟩
theorem zr103 : ∃ z, (Try.prog.info? 103).map (·.zero) = some (some z) ∧ z.cells = ([[.int .u64 0], av .u8 32 (List.replicate 32 0), [.int .i64 0], [.bool false]] : List (List Value)).flatten.toArray := ⟨.agg #[.int .u64 0, .int .u8 0, .int .u8 0, .int .u8 0, .int .u8 0, .int .u8 0, .int .u8 0, .int .u8 0, .int .u8 0, .int .u8 0, .int .u8 0, .int .u8 0, .int .u8 0, .int .u8 0, .int .u8 0, .int .u8 0, .int .u8 0, .int .u8 0, .int .u8 0, .int .u8 0, .int .u8 0, .int .u8 0, .int .u8 0, .int .u8 0, .int .u8 0, .int .u8 0, .int .u8 0, .int .u8 0, .int .u8 0, .int .u8 0, .int .u8 0, .int .u8 0, .int .u8 0, .int .i64 0, .bool false], by kernel_rfl, by kernel_rfl⟩
theorem zr124 : ∃ z, (Try.prog.info? 124).map (·.zero) = some (some z) ∧ z.cells = ([av .u32 64 (List.replicate 64 0)] : List (List Value)).flatten.toArray := ⟨.agg #[.int .u32 0, .int .u32 0, .int .u32 0, .int .u32 0, .int .u32 0, .int .u32 0, .int .u32 0, .int .u32 0, .int .u32 0, .int .u32 0, .int .u32 0, .int .u32 0, .int .u32 0, .int .u32 0, .int .u32 0, .int .u32 0, .int .u32 0, .int .u32 0, .int .u32 0, .int .u32 0, .int .u32 0, .int .u32 0, .int .u32 0, .int .u32 0, .int .u32 0, .int .u32 0, .int .u32 0, .int .u32 0, .int .u32 0, .int .u32 0, .int .u32 0, .int .u32 0, .int .u32 0, .int .u32 0, .int .u32 0, .int .u32 0, .int .u32 0, .int .u32 0, .int .u32 0, .int .u32 0, .int .u32 0, .int .u32 0, .int .u32 0, .int .u32 0, .int .u32 0, .int .u32 0, .int .u32 0, .int .u32 0, .int .u32 0, .int .u32 0, .int .u32 0, .int .u32 0, .int .u32 0, .int .u32 0, .int .u32 0, .int .u32 0, .int .u32 0, .int .u32 0, .int .u32 0, .int .u32 0, .int .u32 0, .int .u32 0, .int .u32 0, .int .u32 0], by kernel_rfl, by kernel_rfl⟩
theorem te3 : TyE Try.prog 3 1 8 := TyE.of (by kernel_rfl) (by kernel_rfl) ⟨.int .i64 0, by kernel_rfl, by kernel_rfl⟩
theorem te5 : TyE Try.prog 5 1 1 := TyE.of (by kernel_rfl) (by kernel_rfl) ⟨.int .u8 0, by kernel_rfl, by kernel_rfl⟩
theorem te22 : TyE Try.prog 22 1 24 := TyE.of (by kernel_rfl) (by kernel_rfl) ⟨.slice none 0 0, by kernel_rfl, by kernel_rfl⟩
theorem te25 : TyE Try.prog 25 1 4 := TyE.of (by kernel_rfl) (by kernel_rfl) ⟨.int .u32 0, by kernel_rfl, by kernel_rfl⟩
theorem te33 : TyE Try.prog 33 32 32 := TyE.of (by kernel_rfl) (by kernel_rfl) ⟨.agg #[.int .u8 0, .int .u8 0, .int .u8 0, .int .u8 0, .int .u8 0, .int .u8 0, .int .u8 0, .int .u8 0, .int .u8 0, .int .u8 0, .int .u8 0, .int .u8 0, .int .u8 0, .int .u8 0, .int .u8 0, .int .u8 0, .int .u8 0, .int .u8 0, .int .u8 0, .int .u8 0, .int .u8 0, .int .u8 0, .int .u8 0, .int .u8 0, .int .u8 0, .int .u8 0, .int .u8 0, .int .u8 0, .int .u8 0, .int .u8 0, .int .u8 0, .int .u8 0], by kernel_rfl, by kernel_rfl⟩
theorem te45 : TyE Try.prog 45 1 8 := TyE.of (by kernel_rfl) (by kernel_rfl) ⟨.int .u64 0, by kernel_rfl, by kernel_rfl⟩
theorem te71 : TyE Try.prog 71 35 72 := TyE.of (by kernel_rfl) (by kernel_rfl) ⟨.agg #[.int .u8 0, .int .u8 0, .int .u8 0, .int .u8 0, .int .u8 0, .int .u8 0, .int .u8 0, .int .u8 0, .int .u8 0, .int .u8 0, .int .u8 0, .int .u8 0, .int .u8 0, .int .u8 0, .int .u8 0, .int .u8 0, .int .u8 0, .int .u8 0, .int .u8 0, .int .u8 0, .int .u8 0, .int .u8 0, .int .u8 0, .int .u8 0, .int .u8 0, .int .u8 0, .int .u8 0, .int .u8 0, .int .u8 0, .int .u8 0, .int .u8 0, .int .u8 0, .int .u32 0, .slice none 0 0, .int .u32 0], by kernel_rfl, by kernel_rfl⟩
theorem te73 : TyE Try.prog 73 33 40 := TyE.of (by kernel_rfl) (by kernel_rfl) ⟨.agg #[.int .u64 0, .int .u8 0, .int .u8 0, .int .u8 0, .int .u8 0, .int .u8 0, .int .u8 0, .int .u8 0, .int .u8 0, .int .u8 0, .int .u8 0, .int .u8 0, .int .u8 0, .int .u8 0, .int .u8 0, .int .u8 0, .int .u8 0, .int .u8 0, .int .u8 0, .int .u8 0, .int .u8 0, .int .u8 0, .int .u8 0, .int .u8 0, .int .u8 0, .int .u8 0, .int .u8 0, .int .u8 0, .int .u8 0, .int .u8 0, .int .u8 0, .int .u8 0, .int .u8 0], by kernel_rfl, by kernel_rfl⟩
end Go.Proofs.Ytnbnnphlffhgiaa.T
