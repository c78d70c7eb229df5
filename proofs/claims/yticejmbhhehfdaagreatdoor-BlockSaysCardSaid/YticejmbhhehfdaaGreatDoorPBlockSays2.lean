/- Proved: the statement BlockSays, as given (its conditions are those of the given row, and card where there is one; no others): the call ends, with true, and the input reads as it did. This file is one of its parts. -/
import Derived.Test.YticejmbhhehfdaaGreatDoorPBlockSays1
import Derived.Test.YticejmbhhehfdaaGreatDoorProg
namespace Go.Proofs.YticejmbhhehfdaaGreatDoor.T
open Go Go.Proofs Go.Proofs.YticejmbhhehfdaaGreatDoor.K
set_option linter.unusedVariables false
set_option linter.unusedSimpArgs false
theorem mo:Tryz.prog.follows .mixedOrders=true:=by kernel_rfl
theorem erF:ErF Tryz.prog 35 164 118:=ErF.of Tryz.underlying35 Tryz.underlying164 (by kernel_rfl) (by kernel_rfl) (by decide)
theorem zrA:(Tryz.prog.info? 118).map (·.zero)=some (some (.pointer none)):=by kernel_rfl
theorem sz2:(Tryz.prog.info? 2).map (·.size)=some 1:=by kernel_rfl
theorem sz3:(Tryz.prog.info? 3).map (·.size)=some 1:=by kernel_rfl
theorem sz4:(Tryz.prog.info? 4).map (·.size)=some 1:=by kernel_rfl
theorem sz5:(Tryz.prog.info? 5).map (·.size)=some 1:=by kernel_rfl
theorem sz22:(Tryz.prog.info? 22).map (·.size)=some 1:=by kernel_rfl
theorem sz24:(Tryz.prog.info? 24).map (·.size)=some 32:=by kernel_rfl
theorem sz26:(Tryz.prog.info? 26).map (·.size)=some 68:=by kernel_rfl
theorem sz27:(Tryz.prog.info? 27).map (·.size)=some 1:=by kernel_rfl
theorem sz29:(Tryz.prog.info? 29).map (·.size)=some 69:=by kernel_rfl
theorem sz30:(Tryz.prog.info? 30).map (·.size)=some 1:=by kernel_rfl
theorem sz35:(Tryz.prog.info? 35).map (·.size)=some 1:=by kernel_rfl
theorem sz53:(Tryz.prog.info? 53).map (·.size)=some 5:=by kernel_rfl
theorem sz60:(Tryz.prog.info? 60).map (·.size)=some 1:=by kernel_rfl
theorem sz61:(Tryz.prog.info? 61).map (·.size)=some 1:=by kernel_rfl
theorem sz63:(Tryz.prog.info? 63).map (·.size)=some 4:=by kernel_rfl
theorem sz65:(Tryz.prog.info? 65).map (·.size)=some 33:=by kernel_rfl
theorem sz67:(Tryz.prog.info? 67).map (·.size)=some 35:=by kernel_rfl
theorem sz70:(Tryz.prog.info? 70).map (·.size)=some 1:=by kernel_rfl
theorem sz106:(Tryz.prog.info? 106).map (·.size)=some 33:=by kernel_rfl
theorem sz151:(Tryz.prog.info? 151).map (·.size)=some 8:=by kernel_rfl
theorem sz160:(Tryz.prog.info? 160).map (·.size)=some 64:=by kernel_rfl
theorem sh65:Tryz.prog.stoodInHeld 65=false:=by kernel_rfl
theorem eg24:Tryz.prog.eqGuardType Tryz.prog.depth 24=false:=by kernel_rfl
theorem eg65:Tryz.prog.eqGuardType Tryz.prog.depth 65=false:=by kernel_rfl
theorem cf4:CalleeF Tryz.prog 4:=⟨Tryz.f4,Tryz.func4,by decide,rfl⟩
theorem cf5:CalleeF Tryz.prog 5:=⟨Tryz.f5,Tryz.func5,by decide,rfl⟩
theorem cf6:CalleeF Tryz.prog 6:=⟨Tryz.f6,Tryz.func6,by decide,rfl⟩
theorem cf7:CalleeF Tryz.prog 7:=⟨Tryz.f7,Tryz.func7,by decide,rfl⟩
theorem cf8:CalleeF Tryz.prog 8:=⟨Tryz.f8,Tryz.func8,by decide,rfl⟩
theorem cf9:CalleeF Tryz.prog 9:=⟨Tryz.f9,Tryz.func9,by decide,rfl⟩
theorem cf10:CalleeF Tryz.prog 10:=⟨Tryz.f10,Tryz.func10,by decide,rfl⟩
theorem cf11:CalleeF Tryz.prog 11:=⟨Tryz.f11,Tryz.func11,by decide,rfl⟩
theorem cf12:CalleeF Tryz.prog 12:=⟨Tryz.f12,Tryz.func12,by decide,rfl⟩
theorem cf13:CalleeF Tryz.prog 13:=⟨Tryz.f13,Tryz.func13,by decide,rfl⟩
theorem cf14:CalleeF Tryz.prog 14:=⟨Tryz.f14,Tryz.func14,by decide,rfl⟩
theorem cf15:CalleeF Tryz.prog 15:=⟨Tryz.f15,Tryz.func15,by decide,rfl⟩
theorem cf16:CalleeF Tryz.prog 16:=⟨Tryz.f16,Tryz.func16,by decide,rfl⟩
theorem cf17:CalleeF Tryz.prog 17:=⟨Tryz.f17,Tryz.func17,by decide,rfl⟩
theorem cf18:CalleeF Tryz.prog 18:=⟨Tryz.f18,Tryz.func18,by decide,rfl⟩
theorem cf19:CalleeF Tryz.prog 19:=⟨Tryz.f19,Tryz.func19,by decide,rfl⟩
theorem cf20:CalleeF Tryz.prog 20:=⟨Tryz.f20,Tryz.func20,by decide,rfl⟩
theorem cf21:CalleeF Tryz.prog 21:=⟨Tryz.f21,Tryz.func21,by decide,rfl⟩
theorem cf22:CalleeF Tryz.prog 22:=⟨Tryz.f22,Tryz.func22,by decide,rfl⟩
theorem cf23:CalleeF Tryz.prog 23:=⟨Tryz.f23,Tryz.func23,by decide,rfl⟩
theorem cf24:CalleeF Tryz.prog 24:=⟨Tryz.f24,Tryz.func24,by decide,rfl⟩
theorem cf25:CalleeF Tryz.prog 25:=⟨Tryz.f25,Tryz.func25,by decide,rfl⟩
theorem cf26:CalleeF Tryz.prog 26:=⟨Tryz.f26,Tryz.func26,by decide,rfl⟩
theorem cf27:CalleeF Tryz.prog 27:=⟨Tryz.f27,Tryz.func27,by decide,rfl⟩
theorem cf28:CalleeF Tryz.prog 28:=⟨Tryz.f28,Tryz.func28,by decide,rfl⟩
theorem cf29:CalleeF Tryz.prog 29:=⟨Tryz.f29,Tryz.func29,by decide,rfl⟩
theorem cf30:CalleeF Tryz.prog 30:=⟨Tryz.f30,Tryz.func30,by decide,rfl⟩
theorem cf31:CalleeF Tryz.prog 31:=⟨Tryz.f31,Tryz.func31,by decide,rfl⟩
theorem cf32:CalleeF Tryz.prog 32:=⟨Tryz.f32,Tryz.func32,by decide,rfl⟩
theorem cf33:CalleeF Tryz.prog 33:=⟨Tryz.f33,Tryz.func33,by decide,rfl⟩
theorem cf34:CalleeF Tryz.prog 34:=⟨Tryz.f34,Tryz.func34,by decide,rfl⟩
theorem cf35:CalleeF Tryz.prog 35:=⟨Tryz.f35,Tryz.func35,by decide,rfl⟩
theorem cf36:CalleeF Tryz.prog 36:=⟨Tryz.f36,Tryz.func36,by decide,rfl⟩
theorem cf37:CalleeF Tryz.prog 37:=⟨Tryz.f37,Tryz.func37,by decide,rfl⟩
theorem cf38:CalleeF Tryz.prog 38:=⟨Tryz.f38,Tryz.func38,by decide,rfl⟩
theorem cf39:CalleeF Tryz.prog 39:=⟨Tryz.f39,Tryz.func39,by decide,rfl⟩
theorem cf40:CalleeF Tryz.prog 40:=⟨Tryz.f40,Tryz.func40,by decide,rfl⟩
theorem cf41:CalleeF Tryz.prog 41:=⟨Tryz.f41,Tryz.func41,by decide,rfl⟩
theorem cf42:CalleeF Tryz.prog 42:=⟨Tryz.f42,Tryz.func42,by decide,rfl⟩
theorem cf43:CalleeF Tryz.prog 43:=⟨Tryz.f43,Tryz.func43,by decide,rfl⟩
theorem cf44:CalleeF Tryz.prog 44:=⟨Tryz.f44,Tryz.func44,by decide,rfl⟩
theorem cf45:CalleeF Tryz.prog 45:=⟨Tryz.f45,Tryz.func45,by decide,rfl⟩
theorem cf46:CalleeF Tryz.prog 46:=⟨Tryz.f46,Tryz.func46,by decide,rfl⟩
theorem cf47:CalleeF Tryz.prog 47:=⟨Tryz.f47,Tryz.func47,by decide,rfl⟩
theorem cf48:CalleeF Tryz.prog 48:=⟨Tryz.f48,Tryz.func48,by decide,rfl⟩
theorem cf49:CalleeF Tryz.prog 49:=⟨Tryz.f49,Tryz.func49,by decide,rfl⟩
theorem cf50:CalleeF Tryz.prog 50:=⟨Tryz.f50,Tryz.func50,by decide,rfl⟩
theorem cf51:CalleeF Tryz.prog 51:=⟨Tryz.f51,Tryz.func51,by decide,rfl⟩
theorem cf52:CalleeF Tryz.prog 52:=⟨Tryz.f52,Tryz.func52,by decide,rfl⟩
theorem cf53:CalleeF Tryz.prog 53:=⟨Tryz.f53,Tryz.func53,by decide,rfl⟩
theorem cf54:CalleeF Tryz.prog 54:=⟨Tryz.f54,Tryz.func54,by decide,rfl⟩
theorem cf55:CalleeF Tryz.prog 55:=⟨Tryz.f55,Tryz.func55,by decide,rfl⟩
theorem cf56:CalleeF Tryz.prog 56:=⟨Tryz.f56,Tryz.func56,by decide,rfl⟩
theorem cf57:CalleeF Tryz.prog 57:=⟨Tryz.f57,Tryz.func57,by decide,rfl⟩
theorem cf58:CalleeF Tryz.prog 58:=⟨Tryz.f58,Tryz.func58,by decide,rfl⟩
theorem cf59:CalleeF Tryz.prog 59:=⟨Tryz.f59,Tryz.func59,by decide,rfl⟩
theorem cf60:CalleeF Tryz.prog 60:=⟨Tryz.f60,Tryz.func60,by decide,rfl⟩
theorem cf61:CalleeF Tryz.prog 61:=⟨Tryz.f61,Tryz.func61,by decide,rfl⟩
theorem cf62:CalleeF Tryz.prog 62:=⟨Tryz.f62,Tryz.func62,by decide,rfl⟩
theorem cf63:CalleeF Tryz.prog 63:=⟨Tryz.f63,Tryz.func63,by decide,rfl⟩
theorem cf64:CalleeF Tryz.prog 64:=⟨Tryz.f64,Tryz.func64,by decide,rfl⟩
theorem cf65:CalleeF Tryz.prog 65:=⟨Tryz.f65,Tryz.func65,by decide,rfl⟩
theorem cf66:CalleeF Tryz.prog 66:=⟨Tryz.f66,Tryz.func66,by decide,rfl⟩
theorem cf67:CalleeF Tryz.prog 67:=⟨Tryz.f67,Tryz.func67,by decide,rfl⟩
theorem cf68:CalleeF Tryz.prog 68:=⟨Tryz.f68,Tryz.func68,by decide,rfl⟩
theorem cf69:CalleeF Tryz.prog 69:=⟨Tryz.f69,Tryz.func69,by decide,rfl⟩
theorem cf70:CalleeF Tryz.prog 70:=⟨Tryz.f70,Tryz.func70,by decide,rfl⟩
theorem cf71:CalleeF Tryz.prog 71:=⟨Tryz.f71,Tryz.func71,by decide,rfl⟩
theorem cf72:CalleeF Tryz.prog 72:=⟨Tryz.f72,Tryz.func72,by decide,rfl⟩
theorem cf73:CalleeF Tryz.prog 73:=⟨Tryz.f73,Tryz.func73,by decide,rfl⟩
theorem cf74:CalleeF Tryz.prog 74:=⟨Tryz.f74,Tryz.func74,by decide,rfl⟩
theorem cf75:CalleeF Tryz.prog 75:=⟨Tryz.f75,Tryz.func75,by decide,rfl⟩
theorem cf76:CalleeF Tryz.prog 76:=⟨Tryz.f76,Tryz.func76,by decide,rfl⟩
theorem cf77:CalleeF Tryz.prog 77:=⟨Tryz.f77,Tryz.func77,by decide,rfl⟩
theorem cf78:CalleeF Tryz.prog 78:=⟨Tryz.f78,Tryz.func78,by decide,rfl⟩
theorem cf79:CalleeF Tryz.prog 79:=⟨Tryz.f79,Tryz.func79,by decide,rfl⟩
theorem cf80:CalleeF Tryz.prog 80:=⟨Tryz.f80,Tryz.func80,by decide,rfl⟩
theorem cf81:CalleeF Tryz.prog 81:=⟨Tryz.f81,Tryz.func81,by decide,rfl⟩
theorem cf82:CalleeF Tryz.prog 82:=⟨Tryz.f82,Tryz.func82,by decide,rfl⟩
theorem cf83:CalleeF Tryz.prog 83:=⟨Tryz.f83,Tryz.func83,by decide,rfl⟩
theorem cf84:CalleeF Tryz.prog 84:=⟨Tryz.f84,Tryz.func84,by decide,rfl⟩
theorem cf85:CalleeF Tryz.prog 85:=⟨Tryz.f85,Tryz.func85,by decide,rfl⟩
theorem cf86:CalleeF Tryz.prog 86:=⟨Tryz.f86,Tryz.func86,by decide,rfl⟩
theorem cf87:CalleeF Tryz.prog 87:=⟨Tryz.f87,Tryz.func87,by decide,rfl⟩
theorem cf88:CalleeF Tryz.prog 88:=⟨Tryz.f88,Tryz.func88,by decide,rfl⟩
theorem cf89:CalleeF Tryz.prog 89:=⟨Tryz.f89,Tryz.func89,by decide,rfl⟩
theorem cf90:CalleeF Tryz.prog 90:=⟨Tryz.f90,Tryz.func90,by decide,rfl⟩
theorem cf91:CalleeF Tryz.prog 91:=⟨Tryz.f91,Tryz.func91,by decide,rfl⟩
theorem cf92:CalleeF Tryz.prog 92:=⟨Tryz.f92,Tryz.func92,by decide,rfl⟩
theorem cf93:CalleeF Tryz.prog 93:=⟨Tryz.f93,Tryz.func93,by decide,rfl⟩
theorem cf94:CalleeF Tryz.prog 94:=⟨Tryz.f94,Tryz.func94,by decide,rfl⟩
theorem cf95:CalleeF Tryz.prog 95:=⟨Tryz.f95,Tryz.func95,by decide,rfl⟩
theorem cf96:CalleeF Tryz.prog 96:=⟨Tryz.f96,Tryz.func96,by decide,rfl⟩
theorem cf97:CalleeF Tryz.prog 97:=⟨Tryz.f97,Tryz.func97,by decide,rfl⟩
theorem cf98:CalleeF Tryz.prog 98:=⟨Tryz.f98,Tryz.func98,by decide,rfl⟩
theorem cf99:CalleeF Tryz.prog 99:=⟨Tryz.f99,Tryz.func99,by decide,rfl⟩
theorem cf100:CalleeF Tryz.prog 100:=⟨Tryz.f100,Tryz.func100,by decide,rfl⟩
theorem cf101:CalleeF Tryz.prog 101:=⟨Tryz.f101,Tryz.func101,by decide,rfl⟩
theorem cf102:CalleeF Tryz.prog 102:=⟨Tryz.f102,Tryz.func102,by decide,rfl⟩
theorem cf103:CalleeF Tryz.prog 103:=⟨Tryz.f103,Tryz.func103,by decide,rfl⟩
theorem cf104:CalleeF Tryz.prog 104:=⟨Tryz.f104,Tryz.func104,by decide,rfl⟩
theorem cf105:CalleeF Tryz.prog 105:=⟨Tryz.f105,Tryz.func105,by decide,rfl⟩
theorem cf106:CalleeF Tryz.prog 106:=⟨Tryz.f106,Tryz.func106,by decide,rfl⟩
theorem cf107:CalleeF Tryz.prog 107:=⟨Tryz.f107,Tryz.func107,by decide,rfl⟩
theorem cf108:CalleeF Tryz.prog 108:=⟨Tryz.f108,Tryz.func108,by decide,rfl⟩
theorem cf109:CalleeF Tryz.prog 109:=⟨Tryz.f109,Tryz.func109,by decide,rfl⟩
theorem cf110:CalleeF Tryz.prog 110:=⟨Tryz.f110,Tryz.func110,by decide,rfl⟩
theorem cf111:CalleeF Tryz.prog 111:=⟨Tryz.f111,Tryz.func111,by decide,rfl⟩
theorem cf112:CalleeF Tryz.prog 112:=⟨Tryz.f112,Tryz.func112,by decide,rfl⟩
theorem cf113:CalleeF Tryz.prog 113:=⟨Tryz.f113,Tryz.func113,by decide,rfl⟩
theorem cf114:CalleeF Tryz.prog 114:=⟨Tryz.f114,Tryz.func114,by decide,rfl⟩
theorem cf115:CalleeF Tryz.prog 115:=⟨Tryz.f115,Tryz.func115,by decide,rfl⟩
theorem cf116:CalleeF Tryz.prog 116:=⟨Tryz.f116,Tryz.func116,by decide,rfl⟩
theorem cf117:CalleeF Tryz.prog 117:=⟨Tryz.f117,Tryz.func117,by decide,rfl⟩
theorem cf118:CalleeF Tryz.prog 118:=⟨Tryz.f118,Tryz.func118,by decide,rfl⟩
theorem cf119:CalleeF Tryz.prog 119:=⟨Tryz.f119,Tryz.func119,by decide,rfl⟩
theorem cf120:CalleeF Tryz.prog 120:=⟨Tryz.f120,Tryz.func120,by decide,rfl⟩
theorem cf121:CalleeF Tryz.prog 121:=⟨Tryz.f121,Tryz.func121,by decide,rfl⟩
theorem cf122:CalleeF Tryz.prog 122:=⟨Tryz.f122,Tryz.func122,by decide,rfl⟩
theorem cf123:CalleeF Tryz.prog 123:=⟨Tryz.f123,Tryz.func123,by decide,rfl⟩
theorem cf124:CalleeF Tryz.prog 124:=⟨Tryz.f124,Tryz.func124,by decide,rfl⟩
theorem cf125:CalleeF Tryz.prog 125:=⟨Tryz.f125,Tryz.func125,by decide,rfl⟩
theorem cf126:CalleeF Tryz.prog 126:=⟨Tryz.f126,Tryz.func126,by decide,rfl⟩
theorem cf127:CalleeF Tryz.prog 127:=⟨Tryz.f127,Tryz.func127,by decide,rfl⟩
theorem cf128:CalleeF Tryz.prog 128:=⟨Tryz.f128,Tryz.func128,by decide,rfl⟩
theorem cf129:CalleeF Tryz.prog 129:=⟨Tryz.f129,Tryz.func129,by decide,rfl⟩
theorem cf130:CalleeF Tryz.prog 130:=⟨Tryz.f130,Tryz.func130,by decide,rfl⟩
theorem cf131:CalleeF Tryz.prog 131:=⟨Tryz.f131,Tryz.func131,by decide,rfl⟩
theorem cf132:CalleeF Tryz.prog 132:=⟨Tryz.f132,Tryz.func132,by decide,rfl⟩
theorem cf133:CalleeF Tryz.prog 133:=⟨Tryz.f133,Tryz.func133,by decide,rfl⟩
theorem cf134:CalleeF Tryz.prog 134:=⟨Tryz.f134,Tryz.func134,by decide,rfl⟩
theorem cf135:CalleeF Tryz.prog 135:=⟨Tryz.f135,Tryz.func135,by decide,rfl⟩
theorem zr5:∃ z,(Tryz.prog.info? 5).map (·.zero)=some (some z)∧z.cells=([[.int .u8 0]]:List (List Value)).flatten.toArray:=⟨.int .u8 0,by kernel_rfl,by kernel_rfl⟩
theorem zr22:∃ z,(Tryz.prog.info? 22).map (·.zero)=some (some z)∧z.cells=([[.int .u32 0]]:List (List Value)).flatten.toArray:=⟨.int .u32 0,by kernel_rfl,by kernel_rfl⟩
theorem zr24:∃ z,(Tryz.prog.info? 24).map (·.zero)=some (some z)∧z.cells=([av .u8 32 (List.replicate 32 0)]:List (List Value)).flatten.toArray:=⟨.agg #[.int .u8 0,.int .u8 0,.int .u8 0,.int .u8 0,.int .u8 0,.int .u8 0,.int .u8 0,.int .u8 0,.int .u8 0,.int .u8 0,.int .u8 0,.int .u8 0,.int .u8 0,.int .u8 0,.int .u8 0,.int .u8 0,.int .u8 0,.int .u8 0,.int .u8 0,.int .u8 0,.int .u8 0,.int .u8 0,.int .u8 0,.int .u8 0,.int .u8 0,.int .u8 0,.int .u8 0,.int .u8 0,.int .u8 0,.int .u8 0,.int .u8 0,.int .u8 0],by kernel_rfl,by kernel_rfl⟩
theorem zr26:∃ z,(Tryz.prog.info? 26).map (·.zero)=some (some z)∧z.cells=([[.int .u32 0],av .u8 32 (List.replicate 32 0),av .u8 32 (List.replicate 32 0),[.int .u32 0],[.int .u32 0],[.int .u32 0]]:List (List Value)).flatten.toArray:=⟨.agg #[.int .u32 0,.int .u8 0,.int .u8 0,.int .u8 0,.int .u8 0,.int .u8 0,.int .u8 0,.int .u8 0,.int .u8 0,.int .u8 0,.int .u8 0,.int .u8 0,.int .u8 0,.int .u8 0,.int .u8 0,.int .u8 0,.int .u8 0,.int .u8 0,.int .u8 0,.int .u8 0,.int .u8 0,.int .u8 0,.int .u8 0,.int .u8 0,.int .u8 0,.int .u8 0,.int .u8 0,.int .u8 0,.int .u8 0,.int .u8 0,.int .u8 0,.int .u8 0,.int .u8 0,.int .u8 0,.int .u8 0,.int .u8 0,.int .u8 0,.int .u8 0,.int .u8 0,.int .u8 0,.int .u8 0,.int .u8 0,.int .u8 0,.int .u8 0,.int .u8 0,.int .u8 0,.int .u8 0,.int .u8 0,.int .u8 0,.int .u8 0,.int .u8 0,.int .u8 0,.int .u8 0,.int .u8 0,.int .u8 0,.int .u8 0,.int .u8 0,.int .u8 0,.int .u8 0,.int .u8 0,.int .u8 0,.int .u8 0,.int .u8 0,.int .u8 0,.int .u8 0,.int .u32 0,.int .u32 0,.int .u32 0],by kernel_rfl,by kernel_rfl⟩
theorem zr29:∃ z,(Tryz.prog.info? 29).map (·.zero)=some (some z)∧z.cells=([[.int .u32 0],av .u8 32 (List.replicate 32 0),av .u8 32 (List.replicate 32 0),[.int .u32 0],[.int .u32 0],[.int .u32 0],[(.slice none 0 0)]]:List (List Value)).flatten.toArray:=⟨.agg #[.int .u32 0,.int .u8 0,.int .u8 0,.int .u8 0,.int .u8 0,.int .u8 0,.int .u8 0,.int .u8 0,.int .u8 0,.int .u8 0,.int .u8 0,.int .u8 0,.int .u8 0,.int .u8 0,.int .u8 0,.int .u8 0,.int .u8 0,.int .u8 0,.int .u8 0,.int .u8 0,.int .u8 0,.int .u8 0,.int .u8 0,.int .u8 0,.int .u8 0,.int .u8 0,.int .u8 0,.int .u8 0,.int .u8 0,.int .u8 0,.int .u8 0,.int .u8 0,.int .u8 0,.int .u8 0,.int .u8 0,.int .u8 0,.int .u8 0,.int .u8 0,.int .u8 0,.int .u8 0,.int .u8 0,.int .u8 0,.int .u8 0,.int .u8 0,.int .u8 0,.int .u8 0,.int .u8 0,.int .u8 0,.int .u8 0,.int .u8 0,.int .u8 0,.int .u8 0,.int .u8 0,.int .u8 0,.int .u8 0,.int .u8 0,.int .u8 0,.int .u8 0,.int .u8 0,.int .u8 0,.int .u8 0,.int .u8 0,.int .u8 0,.int .u8 0,.int .u8 0,.int .u32 0,.int .u32 0,.int .u32 0,.slice none 0 0],by kernel_rfl,by kernel_rfl⟩
theorem zr30:∃ z,(Tryz.prog.info? 30).map (·.zero)=some (some z)∧z.cells=([[(.slice none 0 0)]]:List (List Value)).flatten.toArray:=⟨.slice none 0 0,by kernel_rfl,by kernel_rfl⟩
theorem zr35:∃ z,(Tryz.prog.info? 35).map (·.zero)=some (some z)∧z.cells=([[.nilIface]]:List (List Value)).flatten.toArray:=⟨.nilIface,by kernel_rfl,by kernel_rfl⟩
theorem zr53:∃ z,(Tryz.prog.info? 53).map (·.zero)=some (some z)∧z.cells=([[.int .i64 0],[.bool false],[.int .i64 0],[.bool false],[.int .i64 0]]:List (List Value)).flatten.toArray:=⟨.agg #[.int .i64 0,.bool false,.int .i64 0,.bool false,.int .i64 0],by kernel_rfl,by kernel_rfl⟩
theorem zr63:∃ z,(Tryz.prog.info? 63).map (·.zero)=some (some z)∧z.cells=([[.int .u32 0],[(.slice none 0 0)],[(.slice none 0 0)],[.int .u32 0]]:List (List Value)).flatten.toArray:=⟨.agg #[.int .u32 0,.slice none 0 0,.slice none 0 0,.int .u32 0],by kernel_rfl,by kernel_rfl⟩
theorem zr65:∃ z,(Tryz.prog.info? 65).map (·.zero)=some (some z)∧z.cells=([av .u8 32 (List.replicate 32 0),[.int .u32 0]]:List (List Value)).flatten.toArray:=⟨.agg #[.int .u8 0,.int .u8 0,.int .u8 0,.int .u8 0,.int .u8 0,.int .u8 0,.int .u8 0,.int .u8 0,.int .u8 0,.int .u8 0,.int .u8 0,.int .u8 0,.int .u8 0,.int .u8 0,.int .u8 0,.int .u8 0,.int .u8 0,.int .u8 0,.int .u8 0,.int .u8 0,.int .u8 0,.int .u8 0,.int .u8 0,.int .u8 0,.int .u8 0,.int .u8 0,.int .u8 0,.int .u8 0,.int .u8 0,.int .u8 0,.int .u8 0,.int .u8 0,.int .u32 0],by kernel_rfl,by kernel_rfl⟩
theorem zr67:∃ z,(Tryz.prog.info? 67).map (·.zero)=some (some z)∧z.cells=([av .u8 32 (List.replicate 32 0),[.int .u32 0],[(.slice none 0 0)],[.int .u32 0]]:List (List Value)).flatten.toArray:=⟨.agg #[.int .u8 0,.int .u8 0,.int .u8 0,.int .u8 0,.int .u8 0,.int .u8 0,.int .u8 0,.int .u8 0,.int .u8 0,.int .u8 0,.int .u8 0,.int .u8 0,.int .u8 0,.int .u8 0,.int .u8 0,.int .u8 0,.int .u8 0,.int .u8 0,.int .u8 0,.int .u8 0,.int .u8 0,.int .u8 0,.int .u8 0,.int .u8 0,.int .u8 0,.int .u8 0,.int .u8 0,.int .u8 0,.int .u8 0,.int .u8 0,.int .u8 0,.int .u8 0,.int .u32 0,.slice none 0 0,.int .u32 0],by kernel_rfl,by kernel_rfl⟩
theorem zr70:∃ z,(Tryz.prog.info? 70).map (·.zero)=some (some z)∧z.cells=([[.int .u64 0]]:List (List Value)).flatten.toArray:=⟨.int .u64 0,by kernel_rfl,by kernel_rfl⟩
theorem zr81:∃ z,(Tryz.prog.info? 81).map (·.zero)=some (some z)∧z.cells=([[(.slice none 0 0)],[.int .i64 0]]:List (List Value)).flatten.toArray:=⟨.agg #[.slice none 0 0,.int .i64 0],by kernel_rfl,by kernel_rfl⟩
theorem zr106:∃ z,(Tryz.prog.info? 106).map (·.zero)=some (some z)∧z.cells=([[.int .u64 0],av .u8 32 (List.replicate 32 0)]:List (List Value)).flatten.toArray:=⟨.agg #[.int .u64 0,.int .u8 0,.int .u8 0,.int .u8 0,.int .u8 0,.int .u8 0,.int .u8 0,.int .u8 0,.int .u8 0,.int .u8 0,.int .u8 0,.int .u8 0,.int .u8 0,.int .u8 0,.int .u8 0,.int .u8 0,.int .u8 0,.int .u8 0,.int .u8 0,.int .u8 0,.int .u8 0,.int .u8 0,.int .u8 0,.int .u8 0,.int .u8 0,.int .u8 0,.int .u8 0,.int .u8 0,.int .u8 0,.int .u8 0,.int .u8 0,.int .u8 0,.int .u8 0],by kernel_rfl,by kernel_rfl⟩
theorem zr109:∃ z,(Tryz.prog.info? 109).map (·.zero)=some (some z)∧z.cells=([[(.slice none 0 0)],[.int .i64 0],[.nilIface]]:List (List Value)).flatten.toArray:=⟨.agg #[.slice none 0 0,.int .i64 0,.nilIface],by kernel_rfl,by kernel_rfl⟩
theorem zr122:∃ z,(Tryz.prog.info? 122).map (·.zero)=some (some z)∧z.cells=([[.int .i64 0],[.nilIface]]:List (List Value)).flatten.toArray:=⟨.agg #[.int .i64 0,.nilIface],by kernel_rfl,by kernel_rfl⟩
theorem zr151:∃ z,(Tryz.prog.info? 151).map (·.zero)=some (some z)∧z.cells=([av .u32 8 (List.replicate 8 0)]:List (List Value)).flatten.toArray:=⟨.agg #[.int .u32 0,.int .u32 0,.int .u32 0,.int .u32 0,.int .u32 0,.int .u32 0,.int .u32 0,.int .u32 0],by kernel_rfl,by kernel_rfl⟩
theorem zr153:∃ z,(Tryz.prog.info? 153).map (·.zero)=some (some z)∧z.cells=([av .u32 8 (List.replicate 8 0),[(.slice none 0 0)],[.int .i64 0]]:List (List Value)).flatten.toArray:=⟨.agg #[.int .u32 0,.int .u32 0,.int .u32 0,.int .u32 0,.int .u32 0,.int .u32 0,.int .u32 0,.int .u32 0,.slice none 0 0,.int .i64 0],by kernel_rfl,by kernel_rfl⟩
theorem zr160:∃ z,(Tryz.prog.info? 160).map (·.zero)=some (some z)∧z.cells=([av .u32 64 (List.replicate 64 0)]:List (List Value)).flatten.toArray:=⟨.agg #[.int .u32 0,.int .u32 0,.int .u32 0,.int .u32 0,.int .u32 0,.int .u32 0,.int .u32 0,.int .u32 0,.int .u32 0,.int .u32 0,.int .u32 0,.int .u32 0,.int .u32 0,.int .u32 0,.int .u32 0,.int .u32 0,.int .u32 0,.int .u32 0,.int .u32 0,.int .u32 0,.int .u32 0,.int .u32 0,.int .u32 0,.int .u32 0,.int .u32 0,.int .u32 0,.int .u32 0,.int .u32 0,.int .u32 0,.int .u32 0,.int .u32 0,.int .u32 0,.int .u32 0,.int .u32 0,.int .u32 0,.int .u32 0,.int .u32 0,.int .u32 0,.int .u32 0,.int .u32 0,.int .u32 0,.int .u32 0,.int .u32 0,.int .u32 0,.int .u32 0,.int .u32 0,.int .u32 0,.int .u32 0,.int .u32 0,.int .u32 0,.int .u32 0,.int .u32 0,.int .u32 0,.int .u32 0,.int .u32 0,.int .u32 0,.int .u32 0,.int .u32 0,.int .u32 0,.int .u32 0,.int .u32 0,.int .u32 0,.int .u32 0,.int .u32 0],by kernel_rfl,by kernel_rfl⟩
theorem te5:TyE Tryz.prog 5 1 1:=TyE.of (by kernel_rfl) (by kernel_rfl) ⟨.int .u8 0,by kernel_rfl,by kernel_rfl⟩
theorem te22:TyE Tryz.prog 22 1 4:=TyE.of (by kernel_rfl) (by kernel_rfl) ⟨.int .u32 0,by kernel_rfl,by kernel_rfl⟩
theorem te24:TyE Tryz.prog 24 32 32:=TyE.of (by kernel_rfl) (by kernel_rfl) ⟨.agg #[.int .u8 0,.int .u8 0,.int .u8 0,.int .u8 0,.int .u8 0,.int .u8 0,.int .u8 0,.int .u8 0,.int .u8 0,.int .u8 0,.int .u8 0,.int .u8 0,.int .u8 0,.int .u8 0,.int .u8 0,.int .u8 0,.int .u8 0,.int .u8 0,.int .u8 0,.int .u8 0,.int .u8 0,.int .u8 0,.int .u8 0,.int .u8 0,.int .u8 0,.int .u8 0,.int .u8 0,.int .u8 0,.int .u8 0,.int .u8 0,.int .u8 0,.int .u8 0],by kernel_rfl,by kernel_rfl⟩
theorem te30:TyE Tryz.prog 30 1 24:=TyE.of (by kernel_rfl) (by kernel_rfl) ⟨.slice none 0 0,by kernel_rfl,by kernel_rfl⟩
theorem te35:TyE Tryz.prog 35 1 16:=TyE.of (by kernel_rfl) (by kernel_rfl) ⟨.nilIface,by kernel_rfl,by kernel_rfl⟩
theorem te63:TyE Tryz.prog 63 4 64:=TyE.of (by kernel_rfl) (by kernel_rfl) ⟨.agg #[.int .u32 0,.slice none 0 0,.slice none 0 0,.int .u32 0],by kernel_rfl,by kernel_rfl⟩
theorem te67:TyE Tryz.prog 67 35 72:=TyE.of (by kernel_rfl) (by kernel_rfl) ⟨.agg #[.int .u8 0,.int .u8 0,.int .u8 0,.int .u8 0,.int .u8 0,.int .u8 0,.int .u8 0,.int .u8 0,.int .u8 0,.int .u8 0,.int .u8 0,.int .u8 0,.int .u8 0,.int .u8 0,.int .u8 0,.int .u8 0,.int .u8 0,.int .u8 0,.int .u8 0,.int .u8 0,.int .u8 0,.int .u8 0,.int .u8 0,.int .u8 0,.int .u8 0,.int .u8 0,.int .u8 0,.int .u8 0,.int .u8 0,.int .u8 0,.int .u8 0,.int .u8 0,.int .u32 0,.slice none 0 0,.int .u32 0],by kernel_rfl,by kernel_rfl⟩
theorem te70:TyE Tryz.prog 70 1 8:=TyE.of (by kernel_rfl) (by kernel_rfl) ⟨.int .u64 0,by kernel_rfl,by kernel_rfl⟩
theorem te106:TyE Tryz.prog 106 33 40:=TyE.of (by kernel_rfl) (by kernel_rfl) ⟨.agg #[.int .u64 0,.int .u8 0,.int .u8 0,.int .u8 0,.int .u8 0,.int .u8 0,.int .u8 0,.int .u8 0,.int .u8 0,.int .u8 0,.int .u8 0,.int .u8 0,.int .u8 0,.int .u8 0,.int .u8 0,.int .u8 0,.int .u8 0,.int .u8 0,.int .u8 0,.int .u8 0,.int .u8 0,.int .u8 0,.int .u8 0,.int .u8 0,.int .u8 0,.int .u8 0,.int .u8 0,.int .u8 0,.int .u8 0,.int .u8 0,.int .u8 0,.int .u8 0,.int .u8 0],by kernel_rfl,by kernel_rfl⟩
theorem mz126:(Tryz.prog.info? 4).map (·.zero)=some (some (vv126 false)):=by kernel_rfl
theorem laidB:laidOutB Tryz.prog=true:=by kernel_rfl
theorem kk126:Maps.Keyed Tryz.prog 65:=Maps.Keyed.of_law (deep_law_laid laidB (m:=5) (by decide) (of_decide_eq_true (by kernel_rfl)) (by kernel_rfl) (by kernel_rfl))
theorem kn126:KeyN Tryz.prog 65 kv126 (fun x:Point=>PointW (fun _=>none) x):=keyN_pt (fun x:Point=>x.Tx) (fun x:Point=>x.N) (fun a b h1 h2=>by cases a;cases b;simp at h1 h2;subst h1;subst h2;rfl) Tryz.underlying65 rfl rfl rfl rfl rfl (by kernel_rfl) Tryz.underlying24 Tryz.underlying5 Tryz.underlying22 (by kernel_rfl) (by kernel_rfl) (by kernel_rfl) (by kernel_rfl) kk126 (by kernel_rfl) ⟨_,(by kernel_rfl:Tryz.prog.types.size=182+2)⟩
theorem mz125:(Tryz.prog.info? 4).map (·.zero)=some (some (vv125 false)):=by kernel_rfl
theorem kk125:Maps.Keyed Tryz.prog 24:=Maps.Keyed.of_law (deep_law_laid laidB (m:=5) (by decide) (of_decide_eq_true (by kernel_rfl)) (by kernel_rfl) (by kernel_rfl))
theorem kn125:KeyN Tryz.prog 24 kv125 (fun x:List Int=>Arr .u8 32 x):=keyN_arr Tryz.underlying24 Tryz.underlying5 (by kernel_rfl) (by kernel_rfl) kk125 (by kernel_rfl) ⟨_,(by kernel_rfl:Tryz.prog.types.size=183+1)⟩
abbrev U2:=Tryz.underlying2
abbrev U3:=Tryz.underlying3
abbrev U4:=Tryz.underlying4
abbrev U5:=Tryz.underlying5
abbrev U22:=Tryz.underlying22
abbrev U24:=Tryz.underlying24
abbrev U26:=Tryz.underlying26
abbrev U27:=Tryz.underlying27
abbrev U29:=Tryz.underlying29
abbrev U30:=Tryz.underlying30
abbrev U35:=Tryz.underlying35
abbrev U46:=Tryz.underlying46
abbrev U53:=Tryz.underlying53
abbrev U60:=Tryz.underlying60
abbrev U61:=Tryz.underlying61
abbrev U63:=Tryz.underlying63
abbrev U65:=Tryz.underlying65
abbrev U67:=Tryz.underlying67
abbrev U70:=Tryz.underlying70
abbrev U81:=Tryz.underlying81
abbrev U106:=Tryz.underlying106
abbrev U109:=Tryz.underlying109
abbrev U115:=Tryz.underlying115
abbrev U118:=Tryz.underlying118
abbrev U122:=Tryz.underlying122
abbrev U125:=Tryz.underlying125
abbrev U126:=Tryz.underlying126
abbrev U129:=Tryz.underlying129
abbrev U134:=Tryz.underlying134
abbrev U136:=Tryz.underlying136
abbrev U140:=Tryz.underlying140
abbrev U151:=Tryz.underlying151
abbrev U153:=Tryz.underlying153
abbrev U160:=Tryz.underlying160
def math_bits_RotateLeft32.f (x0 x1:Int):Option Int:=(if 0≤(bAnd .u64 (IntKind.u64.wrap x1) 31) then (if 0≤(IntKind.u64.wrap (32 - (bAnd .u64 (IntKind.u64.wrap x1) 31))) then some (bOr .u32 (sL .u32 x0 (bAnd .u64 (IntKind.u64.wrap x1) 31)) (sR .u32 x0 (IntKind.u64.wrap (32 - (bAnd .u64 (IntKind.u64.wrap x1) 31))))) else none) else none)
def q0_Bytes.s0 (x0:List Int):((List Int)×Int)→Option (((List Int)×Int)⊕(List Int)):=fun (s1,s2)=>(if s2 < (x0.length:Int) then (if 0≤s2∧s2 < (x0.length:Int) then (if s1.length+1≤140737488355328 then some (.inl (s1++([(x0.getD s2.toNat 0)]:List Int),IntKind.i64.wrap (s2+1))) else none) else none) else some (.inr s1))
noncomputable def q0_Bytes.f (x0:List Int):Option (List Int):=(if 0≤(0:Int)∧(0:Int)≤(x0.length:Int)∧(x0.length:Int)≤140737488355328 then ((loopO (q0_Bytes.s0 x0) ((List.replicate ((0:Int).toNat) 0:List Int),0)).bind fun c1=>some c1) else none)
def q0_SameBytes.s0 (x0 x1:List Int):Int→Option (Int⊕Bool):=fun s1=>(if s1 < (x0.length:Int) then (if 0≤s1∧s1 < (x0.length:Int) then (if 0≤s1∧s1 < (x1.length:Int) then (if (x0.getD s1.toNat 0)=(x1.getD s1.toNat 0) then some (.inl (IntKind.i64.wrap (s1+1))) else some (.inr false)) else none) else none) else some (.inr true))
noncomputable def q0_SameBytes.f (x0 x1:List Int):Option Bool:=(if (x0.length:Int)≠(x1.length:Int) then some false else loopO (q0_SameBytes.s0 x0 x1) 0)
def q0_SameHash.s0 (x0 x1:List Int):Int→Option (Int⊕Bool):=fun s1=>(if s1 < 32 then (if 0≤s1∧s1 < 32 then (if (x0.getD s1.toNat 0)≠(x1.getD s1.toNat 0) then some (.inr false) else some (.inl (IntKind.i64.wrap (s1+1)))) else none) else some (.inr true))
noncomputable def q0_SameHash.f (x0 x1:List Int):Option Bool:=loopO (q0_SameHash.s0 x0 x1) 0
noncomputable def q0_SameHashes.s0 (x0 x1:List (List Int)):Int→Option (Int⊕Bool):=fun s1=>(if s1 < (x0.length:Int) then (if 0≤s1∧s1 < (x0.length:Int) then (if 0≤s1∧s1 < (x1.length:Int) then ((q0_SameHash.f (x0.getD s1.toNat []) (x1.getD s1.toNat [])).bind fun r1=>(if r1=true then some (.inl (IntKind.i64.wrap (s1+1))) else some (.inr false))) else none) else none) else some (.inr true))
noncomputable def q0_SameHashes.f (x0 x1:List (List Int)):Option Bool:=(if (x0.length:Int)≠(x1.length:Int) then some false else loopO (q0_SameHashes.s0 x0 x1) 0)
def q0_SameFault.f (x0 x1:q0Ft):Option Bool:=(((if x0.Code=x1.Code then (if x0.Placed=x1.Placed then (if x0.Pos=x1.Pos then (if x0.Outer=x1.Outer then some (decide (x0.At=x1.At)) else some false) else some false) else some false) else some false)).bind fun c1=>some c1)
def q0_Bare.f (x0:Int):Option q0Ft:=some (⟨x0,false,0,false,0⟩:q0Ft)
def q0_None.f:Option q0Ft:=some (⟨0,false,0,false,0⟩:q0Ft)
def q0_Placed.f (x0 x1:Int):Option q0Ft:=(if x0=0 then ((q0_None.f).bind fun r1=>some r1) else some (⟨x0,true,x1,false,0⟩:q0Ft))
def q2_sentinels.f:Option (List Er):=some ([xErrEnd,xErrShape,xErrLong,xErrMany,xErrValue,xErrTwice,xErrBase,xErrRoot,xErrKnown,xErrParent,xErrInvalid,xErrTime,xErrMissing,xErrKey,xErrYoung,xErrEarly,xErrLess,xErrReward,xErrClash,xErrLimit,xErrFull,xErrRange,xErrNone,xErrWord,xErrNumber]:List Er)
def q2_Alike.f (x0 x1:Er):Option Bool:=(((if x0=(Er.b 0) then some true else some (decide (x1=(Er.b 0))))).bind fun c1=>(if c1=true then (((if x0=(Er.b 0) then some (decide (x1=(Er.b 0))) else some false)).bind fun c2=>some c2) else (if Er.cmp x0 x1=true then some (decide (x0=x1)) else none)))
def q2_sentinel.s0 (x0:Er)(r1:List Er):Int→Option (Int⊕Int):=fun s1=>(if s1 < (r1.length:Int) then (if 0≤s1∧s1 < (r1.length:Int) then ((q2_Alike.f x0 (r1.getD s1.toNat (Er.b 0))).bind fun r2=>(if r2=true then some (.inr (IntKind.i64.wrap (101+s1))) else some (.inl (IntKind.i64.wrap (s1+1))))) else none) else some (.inr (-1)))
noncomputable def q2_sentinel.f (x0:Er):Option Int:=((q2_sentinels.f).bind fun r1=>loopO (q2_sentinel.s0 x0 r1) 0)
def q0_Around.f (x0:q0Ft)(x1:Int):Option q0Ft:=(if x0.Code=0 then some x0 else (if x0.Placed=true then some (⟨x0.Code,x0.Placed,x0.Pos,true,x1⟩:q0Ft) else ((q0_Placed.f x0.Code x1).bind fun r1=>some r1)))
noncomputable def q2_Fault.f (x0:Er):Option q0Ft:=(if x0=(Er.b 0) then ((q0_None.f).bind fun r1=>some r1) else (if x0.isP=true then ((some (decide (x0.err=(Er.b 0)))).bind fun c1=>(if c1=true then ((q0_Bare.f (-1)).bind fun r4=>some r4) else (if x0.err.isP=true then ((some (decide (x0.err.err=(Er.b 0)))).bind fun c2=>(if c2=true then ((q0_Bare.f (-1)).bind fun r7=>some r7) else ((q2_sentinel.f x0.err.err).bind fun r8=>((q0_Placed.f r8 x0.err.pos).bind fun r9=>((q0_Around.f r9 x0.pos).bind fun r10=>some r10))))) else ((q2_sentinel.f x0.err).bind fun r5=>((q0_Placed.f r5 x0.pos).bind fun r6=>some r6))))) else ((q2_sentinel.f x0).bind fun r2=>((q0_Bare.f r2).bind fun r3=>some r3))))
noncomputable def q2_Same.f (x0:Er)(x1:q0Ft):Option Bool:=((q2_Fault.f x0).bind fun r1=>((q0_SameFault.f r1 x1).bind fun r2=>some r2))
noncomputable def q0_SamePoint.f (x0 x1:Point):Option Bool:=((((q0_SameHash.f x0.Tx x1.Tx).bind fun r1=>(if r1=true then some (decide (x0.N=x1.N)) else some false))).bind fun c1=>some c1)
noncomputable def q0_SameHead.f (x0 x1:Head):Option Bool:=(((if x0.Version=x1.Version then ((q0_SameHash.f x0.Prev x1.Prev).bind fun r1=>(if r1=true then ((q0_SameHash.f x0.Root x1.Root).bind fun r2=>(if r2=true then (if x0.Time=x1.Time then (if x0.Work=x1.Work then some (decide (x0.Nonce=x1.Nonce)) else some false) else some false) else some false)) else some false)) else some false)).bind fun c1=>some c1)
noncomputable def q0_SameIn.f (x0 x1:In):Option Bool:=((((q0_SamePoint.f x0.From x1.From).bind fun r1=>(if r1=true then ((q0_SameBytes.f x0.Key x1.Key).bind fun r2=>(if r2=true then some (decide (x0.Seq=x1.Seq)) else some false)) else some false))).bind fun c1=>some c1)
noncomputable def q0_SameOut.f (x0 x1:Out):Option Bool:=(((if x0.Value=x1.Value then ((q0_SameHash.f x0.Lock x1.Lock).bind fun r1=>some r1) else some false)).bind fun c1=>some c1)
noncomputable def q0_SameTx.s1 (x0 x1:Tx):Int→Option (Int⊕(Int⊕Bool)):=fun s2=>(if s2 < (x0.Outs.length:Int) then (if 0≤s2∧s2 < (x0.Outs.length:Int) then (if 0≤s2∧s2 < (x1.Outs.length:Int) then ((q0_SameOut.f (x0.Outs.getD s2.toNat default) (x1.Outs.getD s2.toNat default)).bind fun r2=>(if r2=true then some (.inl (IntKind.i64.wrap (s2+1))) else some (.inr (.inr false)))) else none) else none) else some (.inr (.inr true)))
noncomputable def q0_SameTx.s0 (x0 x1:Tx):Int→Option (Int⊕Bool):=fun s1=>(if s1 < (x0.Ins.length:Int) then (if 0≤s1∧s1 < (x0.Ins.length:Int) then (if 0≤s1∧s1 < (x1.Ins.length:Int) then ((q0_SameIn.f (x0.Ins.getD s1.toNat default) (x1.Ins.getD s1.toNat default)).bind fun r1=>(if r1=true then some (.inl (IntKind.i64.wrap (s1+1))) else some (.inr false))) else none) else none) else loopO (q0_SameTx.s1 x0 x1) 0)
noncomputable def q0_SameTx.f (x0 x1:Tx):Option Bool:=(((if x0.Version≠x1.Version then some true else (if x0.Time≠x1.Time then some true else (if (x0.Ins.length:Int)≠(x1.Ins.length:Int) then some true else some (decide ((x0.Outs.length:Int)≠(x1.Outs.length:Int))))))).bind fun c1=>(if c1=true then some false else loopO (q0_SameTx.s0 x0 x1) 0))
noncomputable def q0_SameTxs.s0 (x0 x1:List Tx):Int→Option (Int⊕Bool):=fun s1=>(if s1 < (x0.length:Int) then (if 0≤s1∧s1 < (x0.length:Int) then (if 0≤s1∧s1 < (x1.length:Int) then ((q0_SameTx.f (x0.getD s1.toNat default) (x1.getD s1.toNat default)).bind fun r1=>(if r1=true then some (.inl (IntKind.i64.wrap (s1+1))) else some (.inr false))) else none) else none) else some (.inr true))
noncomputable def q0_SameTxs.f (x0 x1:List Tx):Option Bool:=(if (x0.length:Int)≠(x1.length:Int) then some false else loopO (q0_SameTxs.s0 x0 x1) 0)
noncomputable def q0_SameBlock.f (x0 x1:Block):Option Bool:=((((q0_SameHead.f x0.Head x1.Head).bind fun r1=>(if r1=true then ((q0_SameTxs.f x0.Txs x1.Txs).bind fun r2=>some r2) else some false))).bind fun c1=>some c1)
noncomputable def q2_Is.f (x0:Er)(x1:Int):Option Bool:=((q0_Bare.f x1).bind fun r1=>((q2_Same.f x0 r1).bind fun r2=>some r2))
set_option maxRecDepth 20000
theorem math_bits_RotateLeft32.c (μ:Store)(w0:World)(hμ:Agr μ w0)(x0:Int)(hx0:InR .u32 x0)(x1:Int)(hx1:InR .i64 x1)(r:Int)(H:math_bits_RotateLeft32.f x0 x1=some r) :
  Calls Tryz.prog 135 [.int .u32 x0,.int .i64 x1].toArray w0 (fun e w'=>∃ v,e=.returned v∧v=.int .u32 r∧InR .u32 r∧Iv w0 [] μ μ [] w'):=by
 refine enter Tryz.func135 rfl Tryz.ntmps135 rfl fun a hA=>?_
 have hI:=Iv.start hμ
 have H:=bI H
 refine w_seq fun _ hN1=>w_reg<|sta hA rfl rfl fun a hA=>?_
 refine o_nil<|hN1 _ _<|w_seq fun _ hN2=>w_reg<|stm hA rfl rfl fun a hA =>
  stp hA (r_conv U3 U115 hA rfl) rfl fun a hA =>
  stp hA (r_and hA rfl rfl) rfl fun a hA =>
  sta hA rfl rfl fun a hA=>?_
 refine o_nil<|hN2 _ _<|w_seq fun _ hN3=>w_reg<|stm hA rfl rfl fun a hA =>
  stm hA rfl rfl fun a hA=>?_
 obtain ⟨hb1,H⟩:=bG H
 refine stp hA (r_shl hA rfl rfl hb1) rfl fun a hA =>
  stm hA rfl rfl fun a hA =>
  stm hA rfl rfl fun a hA =>
  stp hA (r_sub hA rfl rfl) rfl fun a hA=>?_
 obtain ⟨hb2,H⟩:=bG H
 refine stp hA (r_shr hA rfl rfl hb2) rfl fun a hA =>
  stp hA (r_or hA rfl rfl) rfl fun a hA =>
  sta hA rfl rfl fun a hA=>?_
 refine o_nil<|hN3 _ _<|w_ret ?_
 obtain rfl:=sJ H
 exact ret1 hA Tryz.results135 rfl ⟨_,rfl,rfl,(wrap_in _ _),hI.forget0⟩
theorem q0_Bytes.c (μ:Store)(w0:World)(hμ:Agr μ w0)(x0:List Int)(u0:Value)(hx0:Slc (RI .u8) 1 μ u0 x0)(r:List Int)(H:q0_Bytes.f x0=some r) :
  Calls Tryz.prog 105 [u0].toArray w0 (fun e w'=>∃ v,e=.returned v∧∃(v0:Value)(c0:List Value),v=v0∧Els (RI .u8) 1 r c0∧Iv w0 [] μ μ [row 5 1 v0 r.length c0] w'):=by
 refine enter Tryz.func105 rfl Tryz.ntmps105 rfl fun a hA=>?_
 have hI:=Iv.start hμ
 have H:=bI H
 refine w_seq fun _ hN1=>w_reg<|sta hA rfl rfl fun a hA=>?_
 refine o_nil<|hN1 _ _<|w_seq fun _ hN2=>w_reg<|stm hA rfl rfl fun a hA=>?_
 obtain ⟨_,hsl1⟩:=Slc.sv hx0
 refine stp hA (r_slen U30 hsl1 hA rfl) rfl fun a hA=>?_
 obtain ⟨hb1,H⟩:=bG H
 refine o_make (RE:=(RI .u8)) (c0:=[[.int .u8 0]].flatten) (z0:=0) ⟨rfl,(in_lit .u8 0 rfl)⟩ te5 rfl zr5 U30 hI hA rfl rfl (by have hq:=hb1;simp only [maxLen];omega) rfl fun g1 cs1 a w hE1 hA hI =>
  sta hA rfl rfl fun a hA=>?_
 refine o_nil<|hN2 _ _ ?_
 obtain ⟨c1,hz1,Hk1⟩:=bB H
 refine w_cut (fun a w=>∃(vvc1:Value)(ccc1:List Value),Els (RI .u8) 1 c1 ccc1∧Fr a 22 [(2,Sn),(3,vvc1)]∧Iv w0 [] μ μ [row 5 1 vvc1 c1.length ccc1] w) ?_ ?_
 ·have H:=bI hz1
  refine w_seq fun _ hN3=>w_reg<|sta hA rfl rfl fun a hA=>?_
  refine o_nil<|hN3 _ _<|w_block ?_
  obtain ⟨z1,hz2,Hk2⟩:=bind_some H
  obtain ⟨n1,hn1⟩:=loopO_some hz2
  refine w_loop (fun n a w=>∃(s1:List Int)(s2:Int)(vvs1:Value)(ccs1:List Value),loopN (q0_Bytes.s0 x0) n (s1,s2)=some z1∧Els (RI .u8) 1 s1 ccs1∧InR .i64 s2∧Fr a 22 [(0,u0),(2,Sn),(3,vvs1),(4,.int .i64 s2)]∧Iv w0 [] μ μ [row 5 1 vvs1 s1.length ccs1] w) n1 ⟨(List.replicate ((0:Int).toNat) 0:List Int),0,(.slice (some ⟨g1,0,none⟩) ((0:Int).toNat) (((x0.length:Int)).toNat)),cs1,hn1,hE1,(in_lit .i64 0 rfl),hA.sub ⟨rfl,rfl,rfl,rfl,trivial⟩,hI⟩ ?_
  clear hA hI
  rintro n a w ⟨s1,s2,vvs1,ccs1,hn1,ws1,ws2,hA,hI⟩
  obtain ⟨m1,rfl,H⟩:=loopN_bind hn1
  clear hn1
  refine w_seq fun _ hN4=>w_seq fun _ hN5=>w_reg<|stm hA rfl rfl fun a hA =>
   stm hA rfl rfl fun a hA=>?_
  obtain ⟨_,hsl2⟩:=Slc.sv hx0
  refine stp hA (r_slen U30 hsl2 hA rfl) rfl fun a hA =>
   stp hA (r_lss hA rfl rfl) rfl fun a hA=>?_
  refine o_nil<|hN5 _ _<|w_cond hA rfl (fun hc1=>?_) (fun hc1=>?_)
  ·obtain ⟨hc1,H⟩:=dT H hc1
   refine w_skip<|hN4 _ _<|w_seq fun _ hN6=>w_block<|w_reg<|stm hA rfl rfl fun a hA =>
    stm hA rfl rfl fun a hA =>
    stm hA rfl rfl fun a hA=>?_
   obtain ⟨hb2,H⟩:=bG H
   obtain ⟨_,he1,_,hat1⟩:=Slc.elem1 hx0 (getD_some 0 hb2.1 hb2.2)
   obtain ⟨rfl,hw1⟩:=he1
   obtain ⟨_,hsl3⟩:=Slc.sv hx0
   refine stp hA (r_six1 U30 sz5 hsl3 hA rfl rfl hb2.1 hb2.2) rfl fun a hA =>
    stp hA (r_ldm1 [] [] U5 rfl hI.agr hat1 hA rfl rfl) rfl fun a hA=>?_
   have hE2:Els (RI .u8) 1 ([(x0.getD s2.toNat 0)]:List Int) _:=(Els.cons (c:=[[.int .u8 (x0.getD s2.toNat 0)]].flatten) ⟨rfl,hw1⟩ rfl Els.nil)
   refine o_bsl ([[.int .u8 (x0.getD s2.toNat 0)]].flatten++([])) te5 zr5 U30 hI hA rfl rfl rfl rfl (by kernel_rfl) rfl fun g2 a w hA hI=>?_
   generalize hcs:([[.int .u8 (x0.getD s2.toNat 0)]].flatten++([]):List Value)=cs2 at hE2 hI
   clear hcs
   obtain ⟨hb3,H⟩:=bG H
   have hE4:=ws1.app hE2
   refine o_appG (xs:=(s1:List Int)) (ys:=(([(x0.getD s2.toNat 0)]:List Int):List Int)) (M:=140737488355328) 1 te5 U30 hI rfl hA rfl rfl (src_row hI (j:=0) rfl) hE2.len (hE2.ones (one_RI _)) hb3 rfl fun v1 a w hA hI =>
    sta hA rfl rfl fun a hA=>?_
   refine o_nil<|hN6 _ _<|w_reg<|stm hA rfl rfl fun a hA =>
    stp hA (r_add hA rfl rfl) rfl fun a hA =>
    sta hA rfl rfl fun a hA=>?_
   refine o_nil<|⟨m1,lS _,s1++([(x0.getD s2.toNat 0)]:List Int),IntKind.i64.wrap (s2+1),v1,ccs1++cs2,H,hE4,(wrap_in _ _),hA.sub ⟨rfl,rfl,rfl,rfl,trivial⟩,(hI.sl [1] rfl)⟩
  ·obtain ⟨hc1,H⟩:=dF H hc1
   refine w_exit rfl ?_
   have H:some s1=some z1:=H
   obtain rfl:=sI H
   have H:=Hk2
   cases sJ H
   exact ⟨vvs1,ccs1,ws1,hA.sub ⟨rfl,rfl,trivial⟩,hI⟩
 ·rintro a w ⟨vvc1,ccc1,wc1,hA,hI⟩
  have H:=Hk1
  refine w_seq fun _ hN7=>w_reg<|stm hA rfl rfl fun a hA =>
   sta hA rfl rfl fun a hA=>?_
  refine o_nil<|hN7 _ _<|w_ret ?_
  obtain rfl:=sJ H
  exact ret1 hA Tryz.results105 rfl ⟨_,rfl,vvc1,ccc1,rfl,wc1,(hI.less (Store.le.refl _) hI.le)⟩
theorem q0_SameBytes.c (μ:Store)(w0:World)(hμ:Agr μ w0)(x0:List Int)(u0:Value)(hx0:Slc (RI .u8) 1 μ u0 x0)(x1:List Int)(u1:Value)(hx1:Slc (RI .u8) 1 μ u1 x1)(r:Bool)(H:q0_SameBytes.f x0 x1=some r) :
  Calls Tryz.prog 9 [u0,u1].toArray w0 (fun e w'=>∃ v,e=.returned v∧v=.bool r∧True∧Iv w0 [] μ μ [] w'):=by
 refine enter Tryz.func9 rfl Tryz.ntmps9 rfl fun a hA=>?_
 have hI:=Iv.start hμ
 have H:=bI H
 refine w_seq fun _ hN1=>w_reg<|sta hA rfl rfl fun a hA=>?_
 refine o_nil<|hN1 _ _<|w_seq fun _ hN2=>w_seq fun _ hN3=>w_reg<|stm hA rfl rfl fun a hA=>?_
 obtain ⟨_,hsl1⟩:=Slc.sv hx0
 refine stp hA (r_slen U30 hsl1 hA rfl) rfl fun a hA =>
  stm hA rfl rfl fun a hA=>?_
 obtain ⟨_,hsl2⟩:=Slc.sv hx1
 refine stp hA (r_slen U30 hsl2 hA rfl) rfl fun a hA =>
  stp hA (r_neq hA rfl rfl) rfl fun a hA=>?_
 refine o_nil<|hN3 _ _<|w_cond hA rfl (fun hc1=>?_) (fun hc1=>?_)
 ·obtain ⟨hc1,H⟩:=dT H hc1
  refine w_seq fun _ hN4=>w_reg<|sta hA rfl rfl fun a hA=>?_
  refine o_nil<|hN4 _ _<|w_ret ?_
  obtain rfl:=sJ H
  exact ret1 hA Tryz.results9 rfl ⟨_,rfl,rfl,trivial,hI.forget0⟩
 ·obtain ⟨hc1,H⟩:=dF H hc1
  refine w_skip<|hN2 _ _<|w_seq fun _ hN5=>w_seq fun _ hN6=>w_reg<|sta hA rfl rfl fun a hA=>?_
  refine o_nil<|hN6 _ _<|w_block ?_
  obtain ⟨z1,hz1,Hk1⟩:=bind_some H
  obtain ⟨n1,hn1⟩:=loopO_some hz1
  refine w_loop (fun n a w=>∃(s1:Int),loopN (q0_SameBytes.s0 x0 x1) n s1=some z1∧InR .i64 s1∧Fr a 29 [(0,u0),(1,u1),(4,.bool false),(5,.int .i64 s1)]∧Iv w0 [] μ μ [] w) n1 ⟨0,hn1,(in_lit .i64 0 rfl),hA.sub ⟨rfl,rfl,rfl,rfl,trivial⟩,hI⟩ ?_
  clear hA hI
  rintro n a w ⟨s1,hn1,ws1,hA,hI⟩
  obtain ⟨m1,rfl,H⟩:=loopN_bind hn1
  clear hn1
  refine w_seq fun _ hN7=>w_seq fun _ hN8=>w_reg<|stm hA rfl rfl fun a hA =>
   stm hA rfl rfl fun a hA=>?_
  obtain ⟨_,hsl3⟩:=Slc.sv hx0
  refine stp hA (r_slen U30 hsl3 hA rfl) rfl fun a hA =>
   stp hA (r_lss hA rfl rfl) rfl fun a hA=>?_
  refine o_nil<|hN8 _ _<|w_cond hA rfl (fun hc2=>?_) (fun hc2=>?_)
  ·obtain ⟨hc2,H⟩:=dT H hc2
   refine w_skip<|hN7 _ _<|w_seq fun _ hN9=>w_block<|w_seq fun _ hN10=>?_
   refine w_draw mo (by kernel_rfl) hI ?_
   refine qtp hA (fun _ hI=>r_mv hA rfl) rfl fun a hA =>
    qtp hA (fun _ hI=>r_mv hA rfl) rfl fun a hA=>?_
   obtain ⟨hb1,H⟩:=bG H
   obtain ⟨_,he1,_,hat1⟩:=Slc.elem1 hx0 (getD_some 0 hb1.1 hb1.2)
   obtain ⟨rfl,hw1⟩:=he1
   obtain ⟨_,hsl4⟩:=Slc.sv hx0
   refine qtp hA (fun _ hI=>r_six1 U30 sz5 hsl4 hA rfl rfl hb1.1 hb1.2) rfl fun a hA =>
    qtp hA (fun _ hI=>r_ldm1 [] [] U5 rfl hI.agr hat1 hA rfl rfl) rfl fun a hA =>
    qtp hA (fun _ hI=>r_mv hA rfl) rfl fun a hA =>
    qtp hA (fun _ hI=>r_mv hA rfl) rfl fun a hA=>?_
   obtain ⟨hb2,H⟩:=bG H
   obtain ⟨_,he2,_,hat2⟩:=Slc.elem1 hx1 (getD_some 0 hb2.1 hb2.2)
   obtain ⟨rfl,hw2⟩:=he2
   obtain ⟨_,hsl5⟩:=Slc.sv hx1
   refine qtp hA (fun _ hI=>r_six1 U30 sz5 hsl5 hA rfl rfl hb2.1 hb2.2) rfl fun a hA =>
    qtp hA (fun _ hI=>r_ldm1 [] [] U5 rfl hI.agr hat2 hA rfl rfl) rfl fun a hA =>
    qtp hA (fun _ hI=>r_eql hA rfl rfl) rfl fun a hA =>
    qtp hA (fun _ hI=>r_as hA rfl) rfl fun a hA=>?_
   refine q_nil fun w hI=>?_
   refine hN10 _ _<|w_seq fun _ hN11=>w_reg<|stm hA rfl rfl fun a hA =>
    stp hA (r_not hA rfl) rfl fun a hA=>?_
   refine o_nil<|hN11 _ _<|w_cond hA rfl (fun hc3=>?_) (fun hc3=>?_)
   ·have hc3:=nT hc3;obtain ⟨hc3,H⟩:=dF H hc3
    refine w_seq fun _ hN12=>w_reg<|sta hA rfl rfl fun a hA=>?_
    refine o_nil<|hN12 _ _<|w_ret ?_
    have H:some false=some z1:=H
    obtain rfl:=sI H
    have H:=Hk1
    obtain rfl:=sJ H
    exact ret1 hA Tryz.results9 rfl ⟨_,rfl,rfl,trivial,hI.forget0⟩
   ·have hc3:=nF hc3;obtain ⟨hc3,H⟩:=dT H hc3
    refine w_skip<|hN9 _ _<|w_reg<|stm hA rfl rfl fun a hA =>
     stp hA (r_add hA rfl rfl) rfl fun a hA =>
     sta hA rfl rfl fun a hA=>?_
    refine o_nil<|⟨m1,lS _,IntKind.i64.wrap (s1+1),H,(wrap_in _ _),hA.sub ⟨rfl,rfl,rfl,rfl,trivial⟩,hI⟩
  ·obtain ⟨hc2,H⟩:=dF H hc2
   refine w_exit rfl<|hN5 _ _<|w_seq fun _ hN13=>w_reg<|sta hA rfl rfl fun a hA=>?_
   refine o_nil<|hN13 _ _<|w_ret ?_
   have H:some true=some z1:=H
   obtain rfl:=sI H
   have H:=Hk1
   obtain rfl:=sJ H
   exact ret1 hA Tryz.results9 rfl ⟨_,rfl,rfl,trivial,hI.forget0⟩
theorem q0_SameHash.c (μ:Store)(w0:World)(hμ:Agr μ w0)(x0:List Int)(hx0:Arr .u8 32 x0)(x1:List Int)(hx1:Arr .u8 32 x1)(r:Bool)(H:q0_SameHash.f x0 x1=some r) :
  Calls Tryz.prog 12 [.agg [av .u8 32 x0].flatten.toArray,.agg [av .u8 32 x1].flatten.toArray].toArray w0 (fun e w'=>∃ v,e=.returned v∧v=.bool r∧True∧Iv w0 [] μ μ [] w'):=by
 refine enter Tryz.func12 rfl Tryz.ntmps12 rfl fun a hA=>?_
 have hI:=Iv.start hμ
 have H:=bI H
 refine w_seq fun _ hN1=>w_reg<|o_box [av .u8 32 x0] hI hA rfl rfl rfl fun g1 a w hA hI hg1 =>
  o_box [av .u8 32 x1] hI hA rfl rfl rfl fun g2 a w hA hI hg2 =>
  sta hA rfl rfl fun a hA=>?_
 refine o_nil<|hN1 _ _<|w_seq fun _ hN2=>w_seq fun _ hN3=>w_reg<|sta hA rfl rfl fun a hA=>?_
 refine o_nil<|hN3 _ _<|w_block ?_
 obtain ⟨z1,hz1,Hk1⟩:=bind_some H
 obtain ⟨n1,hn1⟩:=loopO_some hz1
 refine w_loop (fun n a w=>∃(s1:Int),loopN (q0_SameHash.s0 x0 x1) n s1=some z1∧InR .i64 s1∧Fr a 17 [(2,pt g1 0),(3,pt g2 0),(4,.bool false),(5,.int .i64 s1)]∧Iv w0 [] μ μ [cel g2 [av .u8 32 x1] 24,cel g1 [av .u8 32 x0] 24] w) n1 ⟨0,hn1,(in_lit .i64 0 rfl),hA.sub ⟨rfl,rfl,rfl,rfl,trivial⟩,hI⟩ ?_
 clear hA hI
 rintro n a w ⟨s1,hn1,ws1,hA,hI⟩
 obtain ⟨m1,rfl,H⟩:=loopN_bind hn1
 clear hn1
 refine w_seq fun _ hN4=>w_seq fun _ hN5=>w_reg<|stm hA rfl rfl fun a hA =>
  stp hA (r_lss hA rfl rfl) rfl fun a hA=>?_
 refine o_nil<|hN5 _ _<|w_cond hA rfl (fun hc1=>?_) (fun hc1=>?_)
 ·obtain ⟨hc1,H⟩:=dT H hc1
  refine w_skip<|hN4 _ _<|w_seq fun _ hN6=>w_block<|w_seq fun _ hN7=>?_
  refine w_draw mo (by kernel_rfl) hI ?_
  refine qtp hA (fun _ hI=>r_mv hA rfl) rfl fun a hA=>?_
  obtain ⟨hb1,H⟩:=bG H
  refine qtp hA (fun _ hI=>r_ixar1 U24 sz5 hA rfl rfl hb1.1 hb1.2) rfl fun a hA =>
   qtp hA (fun _ hI=>r_ldE (j:=1) [] [] U5 rfl hI rfl hA rfl rfl (by omega)) rfl fun a hA =>
   qtp hA (fun _ hI=>r_mv hA rfl) rfl fun a hA =>
   qtp hA (fun _ hI=>r_ixar1 U24 sz5 hA rfl rfl hb1.1 hb1.2) rfl fun a hA =>
   qtp hA (fun _ hI=>r_ldE (j:=0) [] [] U5 rfl hI rfl hA rfl rfl (by omega)) rfl fun a hA =>
   qtp hA (fun _ hI=>r_neq hA rfl rfl) rfl fun a hA=>?_
  refine q_nil fun w hI=>?_
  refine hN7 _ _<|w_cond hA rfl (fun hc2=>?_) (fun hc2=>?_)
  ·obtain ⟨hc2,H⟩:=dT H hc2
   refine w_seq fun _ hN8=>w_reg<|sta hA rfl rfl fun a hA=>?_
   refine o_nil<|hN8 _ _<|w_ret ?_
   have H:some false=some z1:=H
   obtain rfl:=sI H
   have H:=Hk1
   obtain rfl:=sJ H
   exact ret1 hA Tryz.results12 rfl ⟨_,rfl,rfl,trivial,hI.forget0⟩
  ·obtain ⟨hc2,H⟩:=dF H hc2
   refine w_skip<|hN6 _ _<|w_reg<|stm hA rfl rfl fun a hA =>
    stp hA (r_add hA rfl rfl) rfl fun a hA =>
    sta hA rfl rfl fun a hA=>?_
   refine o_nil<|⟨m1,lS _,IntKind.i64.wrap (s1+1),H,(wrap_in _ _),hA.sub ⟨rfl,rfl,rfl,rfl,trivial⟩,hI⟩
 ·obtain ⟨hc1,H⟩:=dF H hc1
  refine w_exit rfl<|hN2 _ _<|w_seq fun _ hN9=>w_reg<|sta hA rfl rfl fun a hA=>?_
  refine o_nil<|hN9 _ _<|w_ret ?_
  have H:some true=some z1:=H
  obtain rfl:=sI H
  have H:=Hk1
  obtain rfl:=sJ H
  exact ret1 hA Tryz.results12 rfl ⟨_,rfl,rfl,trivial,hI.forget0⟩
theorem q0_SameHashes.c (μ:Store)(w0:World)(hμ:Agr μ w0)(x0:List (List Int))(u0:Value)(hx0:Slc (RA .u8 32) 32 μ u0 x0)(x1:List (List Int))(u1:Value)(hx1:Slc (RA .u8 32) 32 μ u1 x1)(r:Bool)(H:q0_SameHashes.f x0 x1=some r) :
  Calls Tryz.prog 18 [u0,u1].toArray w0 (fun e w'=>∃ v,e=.returned v∧v=.bool r∧True∧Iv w0 [] μ μ [] w'):=by
 refine enter Tryz.func18 rfl Tryz.ntmps18 rfl fun a hA=>?_
 have hI:=Iv.start hμ
 have H:=bI H
 refine w_seq fun _ hN1=>w_reg<|sta hA rfl rfl fun a hA=>?_
 refine o_nil<|hN1 _ _<|w_seq fun _ hN2=>w_seq fun _ hN3=>w_reg<|stm hA rfl rfl fun a hA=>?_
 obtain ⟨_,hsl1⟩:=Slc.sv hx0
 refine stp hA (r_slen U46 hsl1 hA rfl) rfl fun a hA =>
  stm hA rfl rfl fun a hA=>?_
 obtain ⟨_,hsl2⟩:=Slc.sv hx1
 refine stp hA (r_slen U46 hsl2 hA rfl) rfl fun a hA =>
  stp hA (r_neq hA rfl rfl) rfl fun a hA=>?_
 refine o_nil<|hN3 _ _<|w_cond hA rfl (fun hc1=>?_) (fun hc1=>?_)
 ·obtain ⟨hc1,H⟩:=dT H hc1
  refine w_seq fun _ hN4=>w_reg<|sta hA rfl rfl fun a hA=>?_
  refine o_nil<|hN4 _ _<|w_ret ?_
  obtain rfl:=sJ H
  exact ret1 hA Tryz.results18 rfl ⟨_,rfl,rfl,trivial,hI.forget0⟩
 ·obtain ⟨hc1,H⟩:=dF H hc1
  refine w_skip<|hN2 _ _<|w_seq fun _ hN5=>w_seq fun _ hN6=>w_reg<|sta hA rfl rfl fun a hA=>?_
  refine o_nil<|hN6 _ _<|w_block ?_
  obtain ⟨z1,hz1,Hk1⟩:=bind_some H
  obtain ⟨n1,hn1⟩:=loopO_some hz1
  refine w_loop (fun n a w=>∃(s1:Int),loopN (q0_SameHashes.s0 x0 x1) n s1=some z1∧InR .i64 s1∧Fr a 29 [(0,u0),(1,u1),(4,.bool false),(5,.int .i64 s1)]∧Iv w0 [] μ μ [] w) n1 ⟨0,hn1,(in_lit .i64 0 rfl),hA.sub ⟨rfl,rfl,rfl,rfl,trivial⟩,hI⟩ ?_
  clear hA hI
  rintro n a w ⟨s1,hn1,ws1,hA,hI⟩
  obtain ⟨m1,rfl,H⟩:=loopN_bind hn1
  clear hn1
  refine w_seq fun _ hN7=>w_seq fun _ hN8=>w_reg<|stm hA rfl rfl fun a hA =>
   stm hA rfl rfl fun a hA=>?_
  obtain ⟨_,hsl3⟩:=Slc.sv hx0
  refine stp hA (r_slen U46 hsl3 hA rfl) rfl fun a hA =>
   stp hA (r_lss hA rfl rfl) rfl fun a hA=>?_
  refine o_nil<|hN8 _ _<|w_cond hA rfl (fun hc2=>?_) (fun hc2=>?_)
  ·obtain ⟨hc2,H⟩:=dT H hc2
   refine w_skip<|hN7 _ _<|w_seq fun _ hN9=>w_block<|w_seq fun _ hN10=>?_
   refine w_draw mo (by kernel_rfl) hI ?_
   refine qtp hA (fun _ hI=>r_mv hA rfl) rfl fun a hA =>
    qtp hA (fun _ hI=>r_mv hA rfl) rfl fun a hA=>?_
   obtain ⟨hb1,H⟩:=bG H
   obtain ⟨_,he1,_,hat1⟩:=Slc.elem hx0 (getD_some [] hb1.1 hb1.2)
   obtain ⟨rfl,hw1⟩:=he1
   obtain ⟨_,hsl4⟩:=Slc.sv hx0
   refine qtp hA (fun _ hI=>r_six U46 sz24 hsl4 hA rfl rfl hb1.1 hb1.2) rfl fun a hA =>
    qtp hA (fun _ hI=>r_ldmA [] [av .u8 32 (x0.getD s1.toNat [])] [] U24 rfl sz24 rfl hI.agr hat1 hA rfl rfl) rfl fun a hA =>
    qtp hA (fun _ hI=>r_mv hA rfl) rfl fun a hA =>
    qtp hA (fun _ hI=>r_mv hA rfl) rfl fun a hA=>?_
   obtain ⟨hb2,H⟩:=bG H
   obtain ⟨_,he2,_,hat2⟩:=Slc.elem hx1 (getD_some [] hb2.1 hb2.2)
   obtain ⟨rfl,hw2⟩:=he2
   obtain ⟨_,hsl5⟩:=Slc.sv hx1
   refine qtp hA (fun _ hI=>r_six U46 sz24 hsl5 hA rfl rfl hb2.1 hb2.2) rfl fun a hA =>
    qtp hA (fun _ hI=>r_ldmA [] [av .u8 32 (x1.getD s1.toNat [])] [] U24 rfl sz24 rfl hI.agr hat2 hA rfl rfl) rfl fun a hA=>?_
   obtain ⟨r1,hr1,H⟩:=bB H
   refine qcall (v:=.bool r1) cf12 hA rfl (fun _ hI=>plq (q0_SameHash.c μ _ hI.agr (x0.getD s1.toNat []) hw1 (x1.getD s1.toNat []) hw2 r1 hr1) hI) rfl fun a hA =>
    qtp hA (fun _ hI=>r_as hA rfl) rfl fun a hA=>?_
   refine q_nil fun w hI=>?_
   refine hN10 _ _<|w_seq fun _ hN11=>w_reg<|stm hA rfl rfl fun a hA =>
    stp hA (r_not hA rfl) rfl fun a hA=>?_
   refine o_nil<|hN11 _ _<|w_cond hA rfl (fun hc3=>?_) (fun hc3=>?_)
   ·have hc3:=nT hc3;have hc3:=ft hc3;have H:=bF H hc3
    refine w_seq fun _ hN12=>w_reg<|sta hA rfl rfl fun a hA=>?_
    refine o_nil<|hN12 _ _<|w_ret ?_
    have H:some false=some z1:=H
    obtain rfl:=sI H
    have H:=Hk1
    obtain rfl:=sJ H
    exact ret1 hA Tryz.results18 rfl ⟨_,rfl,rfl,trivial,hI.forget0⟩
   ·have hc3:=nF hc3;have H:=bT H hc3
    refine w_skip<|hN9 _ _<|w_reg<|stm hA rfl rfl fun a hA =>
     stp hA (r_add hA rfl rfl) rfl fun a hA =>
     sta hA rfl rfl fun a hA=>?_
    refine o_nil<|⟨m1,lS _,IntKind.i64.wrap (s1+1),H,(wrap_in _ _),hA.sub ⟨rfl,rfl,rfl,rfl,trivial⟩,hI⟩
  ·obtain ⟨hc2,H⟩:=dF H hc2
   refine w_exit rfl<|hN5 _ _<|w_seq fun _ hN13=>w_reg<|sta hA rfl rfl fun a hA=>?_
   refine o_nil<|hN13 _ _<|w_ret ?_
   have H:some true=some z1:=H
   obtain rfl:=sI H
   have H:=Hk1
   obtain rfl:=sJ H
   exact ret1 hA Tryz.results18 rfl ⟨_,rfl,rfl,trivial,hI.forget0⟩
theorem q0_SameFault.c (μ:Store)(w0:World)(hμ:Agr μ w0)(x0:q0Ft)(hx0:q0FtW μ x0)(x1:q0Ft)(hx1:q0FtW μ x1)(r:Bool)(H:q0_SameFault.f x0 x1=some r) :
  Calls Tryz.prog 48 [.agg [[.int .i64 x0.Code],[.bool x0.Placed],[.int .i64 x0.Pos],[.bool x0.Outer],[.int .i64 x0.At]].flatten.toArray,.agg [[.int .i64 x1.Code],[.bool x1.Placed],[.int .i64 x1.Pos],[.bool x1.Outer],[.int .i64 x1.At]].flatten.toArray].toArray w0 (fun e w'=>∃ v,e=.returned v∧v=.bool r∧True∧Iv w0 [] μ μ [] w'):=by
 refine enter Tryz.func48 rfl Tryz.ntmps48 rfl fun a hA=>?_
 have hI:=Iv.start hμ
 have H:=bI H
 refine w_seq fun _ hN1=>w_reg<|o_box [[.int .i64 x0.Code],[.bool x0.Placed],[.int .i64 x0.Pos],[.bool x0.Outer],[.int .i64 x0.At]] hI hA rfl rfl rfl fun g1 a w hA hI hg1 =>
  o_box [[.int .i64 x1.Code],[.bool x1.Placed],[.int .i64 x1.Pos],[.bool x1.Outer],[.int .i64 x1.At]] hI hA rfl rfl rfl fun g2 a w hA hI hg2 =>
  sta hA rfl rfl fun a hA=>?_
 refine o_nil<|hN1 _ _ ?_
 obtain ⟨c1,hz1,Hk1⟩:=bB H
 refine w_cut (fun a w=>Fr a 38 [(4,.bool c1)]∧Iv w0 [] μ μ [cel g2 [[.int .i64 x1.Code],[.bool x1.Placed],[.int .i64 x1.Pos],[.bool x1.Outer],[.int .i64 x1.At]] 53,cel g1 [[.int .i64 x0.Code],[.bool x0.Placed],[.int .i64 x0.Pos],[.bool x0.Outer],[.int .i64 x0.At]] 53] w) ?_ ?_
 ·have H:=bI hz1
  refine w_reg<|stp hA (r_fd (k:=0) U53 rfl sz3 hA rfl rfl) rfl fun a hA =>
   stp hA (r_ld1 (j:=1) [] [[.bool x0.Placed],[.int .i64 x0.Pos],[.bool x0.Outer],[.int .i64 x0.At]] U3 rfl hI rfl hA rfl rfl) rfl fun a hA =>
   stp hA (r_fd (k:=0) U53 rfl sz3 hA rfl rfl) rfl fun a hA =>
   stp hA (r_ld1 (j:=0) [] [[.bool x1.Placed],[.int .i64 x1.Pos],[.bool x1.Outer],[.int .i64 x1.At]] U3 rfl hI rfl hA rfl rfl) rfl fun a hA =>
   stp hA (r_eql hA rfl rfl) rfl fun a hA =>
   stm hA rfl rfl fun a hA=>?_
  rcases Bool.eq_false_or_eq_true (decide (x0.Code=x1.Code)) with hc1 | hc1
  ·have hc10:=hc1;obtain ⟨hc1,H⟩:=dT H hc1
   refine o_yes hA rfl rfl hc10 <|
    stp hA (r_fd (k:=1) U53 rfl sz4 hA rfl rfl) rfl fun a hA =>
    o_yes hA rfl rfl hc10 <|
    stp hA (r_ld1 (j:=1) [[.int .i64 x0.Code]] [[.int .i64 x0.Pos],[.bool x0.Outer],[.int .i64 x0.At]] U4 rfl hI rfl hA rfl rfl) rfl fun a hA =>
    o_yes hA rfl rfl hc10 <|
    stp hA (r_fd (k:=1) U53 rfl sz4 hA rfl rfl) rfl fun a hA =>
    o_yes hA rfl rfl hc10 <|
    stp hA (r_ld1 (j:=0) [[.int .i64 x1.Code]] [[.int .i64 x1.Pos],[.bool x1.Outer],[.int .i64 x1.At]] U4 rfl hI rfl hA rfl rfl) rfl fun a hA =>
    o_yes hA rfl rfl hc10 <|
    stp hA (r_eqlb U4 hA rfl rfl) rfl fun a hA =>
    stp hA (r_pick_t hA rfl hc10 rfl) rfl fun a hA =>
    stm hA rfl rfl fun a hA=>?_
   rcases Bool.eq_false_or_eq_true (decide (x0.Placed=x1.Placed)) with hc2 | hc2
   ·have hc20:=hc2;obtain ⟨hc2,H⟩:=dT H hc2
    refine o_yes hA rfl rfl hc20 <|
     stp hA (r_fd (k:=2) U53 rfl sz3 hA rfl rfl) rfl fun a hA =>
     o_yes hA rfl rfl hc20 <|
     stp hA (r_ld1 (j:=1) [[.int .i64 x0.Code],[.bool x0.Placed]] [[.bool x0.Outer],[.int .i64 x0.At]] U3 rfl hI rfl hA rfl rfl) rfl fun a hA =>
     o_yes hA rfl rfl hc20 <|
     stp hA (r_fd (k:=2) U53 rfl sz3 hA rfl rfl) rfl fun a hA =>
     o_yes hA rfl rfl hc20 <|
     stp hA (r_ld1 (j:=0) [[.int .i64 x1.Code],[.bool x1.Placed]] [[.bool x1.Outer],[.int .i64 x1.At]] U3 rfl hI rfl hA rfl rfl) rfl fun a hA =>
     o_yes hA rfl rfl hc20 <|
     stp hA (r_eql hA rfl rfl) rfl fun a hA =>
     stp hA (r_pick_t hA rfl hc20 rfl) rfl fun a hA =>
     stm hA rfl rfl fun a hA=>?_
    rcases Bool.eq_false_or_eq_true (decide (x0.Pos=x1.Pos)) with hc3 | hc3
    ·have hc30:=hc3;obtain ⟨hc3,H⟩:=dT H hc3
     refine o_yes hA rfl rfl hc30 <|
      stp hA (r_fd (k:=3) U53 rfl sz4 hA rfl rfl) rfl fun a hA =>
      o_yes hA rfl rfl hc30 <|
      stp hA (r_ld1 (j:=1) [[.int .i64 x0.Code],[.bool x0.Placed],[.int .i64 x0.Pos]] [[.int .i64 x0.At]] U4 rfl hI rfl hA rfl rfl) rfl fun a hA =>
      o_yes hA rfl rfl hc30 <|
      stp hA (r_fd (k:=3) U53 rfl sz4 hA rfl rfl) rfl fun a hA =>
      o_yes hA rfl rfl hc30 <|
      stp hA (r_ld1 (j:=0) [[.int .i64 x1.Code],[.bool x1.Placed],[.int .i64 x1.Pos]] [[.int .i64 x1.At]] U4 rfl hI rfl hA rfl rfl) rfl fun a hA =>
      o_yes hA rfl rfl hc30 <|
      stp hA (r_eqlb U4 hA rfl rfl) rfl fun a hA =>
      stp hA (r_pick_t hA rfl hc30 rfl) rfl fun a hA =>
      stm hA rfl rfl fun a hA=>?_
     rcases Bool.eq_false_or_eq_true (decide (x0.Outer=x1.Outer)) with hc4 | hc4
     ·have hc40:=hc4;obtain ⟨hc4,H⟩:=dT H hc4
      refine o_yes hA rfl rfl hc40 <|
       stp hA (r_fd (k:=4) U53 rfl sz3 hA rfl rfl) rfl fun a hA =>
       o_yes hA rfl rfl hc40 <|
       stp hA (r_ld1 (j:=1) [[.int .i64 x0.Code],[.bool x0.Placed],[.int .i64 x0.Pos],[.bool x0.Outer]] [] U3 rfl hI rfl hA rfl rfl) rfl fun a hA =>
       o_yes hA rfl rfl hc40 <|
       stp hA (r_fd (k:=4) U53 rfl sz3 hA rfl rfl) rfl fun a hA =>
       o_yes hA rfl rfl hc40 <|
       stp hA (r_ld1 (j:=0) [[.int .i64 x1.Code],[.bool x1.Placed],[.int .i64 x1.Pos],[.bool x1.Outer]] [] U3 rfl hI rfl hA rfl rfl) rfl fun a hA =>
       o_yes hA rfl rfl hc40 <|
       stp hA (r_eql hA rfl rfl) rfl fun a hA =>
       stp hA (r_pick_t hA rfl hc40 rfl) rfl fun a hA =>
       sta hA rfl rfl fun a hA=>?_
      refine o_nil ?_
      cases sJ H
      exact ⟨hA.sub ⟨rfl,trivial⟩,hI⟩
     ·have hc40:=hc4;obtain ⟨hc4,H⟩:=dF H hc4
      refine o_no hA rfl rfl (by rw [hc40];simp [vb]) rfl fun a hA =>
       o_no hA rfl rfl (by rw [hc40];simp [vb]) rfl fun a hA =>
       o_no hA rfl rfl (by rw [hc40];simp [vb]) rfl fun a hA =>
       o_no hA rfl rfl (by rw [hc40];simp [vb]) rfl fun a hA =>
       o_no hA rfl rfl (by rw [hc40];simp [vb]) rfl fun a hA =>
       stp hA (r_pick_f hA rfl hc40 rfl) rfl fun a hA =>
       sta hA rfl rfl fun a hA=>?_
      refine o_nil ?_
      cases sJ H
      exact ⟨hA.sub ⟨rfl,trivial⟩,hI⟩
    ·have hc30:=hc3;obtain ⟨hc3,H⟩:=dF H hc3
     refine o_no hA rfl rfl (by rw [hc30];simp [vb]) rfl fun a hA =>
      o_no hA rfl rfl (by rw [hc30];simp [vb]) rfl fun a hA =>
      o_no hA rfl rfl (by rw [hc30];simp [vb]) rfl fun a hA =>
      o_no hA rfl rfl (by rw [hc30];simp [vb]) rfl fun a hA =>
      o_no hA rfl rfl (by rw [hc30];simp [vb]) rfl fun a hA =>
      stp hA (r_pick_f hA rfl hc30 rfl) rfl fun a hA =>
      stm hA rfl rfl fun a hA =>
      o_no hA rfl rfl (by simp [vb]) rfl fun a hA =>
      o_no hA rfl rfl (by simp [vb]) rfl fun a hA =>
      o_no hA rfl rfl (by simp [vb]) rfl fun a hA =>
      o_no hA rfl rfl (by simp [vb]) rfl fun a hA =>
      o_no hA rfl rfl (by simp [vb]) rfl fun a hA =>
      stp hA (r_pick_f hA rfl rfl rfl) rfl fun a hA =>
      sta hA rfl rfl fun a hA=>?_
     refine o_nil ?_
     cases sJ H
     exact ⟨hA.sub ⟨rfl,trivial⟩,hI⟩
   ·have hc20:=hc2;obtain ⟨hc2,H⟩:=dF H hc2
    refine o_no hA rfl rfl (by rw [hc20];simp [vb]) rfl fun a hA =>
     o_no hA rfl rfl (by rw [hc20];simp [vb]) rfl fun a hA =>
     o_no hA rfl rfl (by rw [hc20];simp [vb]) rfl fun a hA =>
     o_no hA rfl rfl (by rw [hc20];simp [vb]) rfl fun a hA =>
     o_no hA rfl rfl (by rw [hc20];simp [vb]) rfl fun a hA =>
     stp hA (r_pick_f hA rfl hc20 rfl) rfl fun a hA =>
     stm hA rfl rfl fun a hA =>
     o_no hA rfl rfl (by simp [vb]) rfl fun a hA =>
     o_no hA rfl rfl (by simp [vb]) rfl fun a hA =>
     o_no hA rfl rfl (by simp [vb]) rfl fun a hA =>
     o_no hA rfl rfl (by simp [vb]) rfl fun a hA =>
     o_no hA rfl rfl (by simp [vb]) rfl fun a hA =>
     stp hA (r_pick_f hA rfl rfl rfl) rfl fun a hA =>
     stm hA rfl rfl fun a hA =>
     o_no hA rfl rfl (by simp [vb]) rfl fun a hA =>
     o_no hA rfl rfl (by simp [vb]) rfl fun a hA =>
     o_no hA rfl rfl (by simp [vb]) rfl fun a hA =>
     o_no hA rfl rfl (by simp [vb]) rfl fun a hA =>
     o_no hA rfl rfl (by simp [vb]) rfl fun a hA =>
     stp hA (r_pick_f hA rfl rfl rfl) rfl fun a hA =>
     sta hA rfl rfl fun a hA=>?_
    refine o_nil ?_
    cases sJ H
    exact ⟨hA.sub ⟨rfl,trivial⟩,hI⟩
  ·have hc10:=hc1;obtain ⟨hc1,H⟩:=dF H hc1
   refine o_no hA rfl rfl (by rw [hc10];simp [vb]) rfl fun a hA =>
    o_no hA rfl rfl (by rw [hc10];simp [vb]) rfl fun a hA =>
    o_no hA rfl rfl (by rw [hc10];simp [vb]) rfl fun a hA =>
    o_no hA rfl rfl (by rw [hc10];simp [vb]) rfl fun a hA =>
    o_no hA rfl rfl (by rw [hc10];simp [vb]) rfl fun a hA =>
    stp hA (r_pick_f hA rfl hc10 rfl) rfl fun a hA =>
    stm hA rfl rfl fun a hA =>
    o_no hA rfl rfl (by simp [vb]) rfl fun a hA =>
    o_no hA rfl rfl (by simp [vb]) rfl fun a hA =>
    o_no hA rfl rfl (by simp [vb]) rfl fun a hA =>
    o_no hA rfl rfl (by simp [vb]) rfl fun a hA =>
    o_no hA rfl rfl (by simp [vb]) rfl fun a hA =>
    stp hA (r_pick_f hA rfl rfl rfl) rfl fun a hA =>
    stm hA rfl rfl fun a hA =>
    o_no hA rfl rfl (by simp [vb]) rfl fun a hA =>
    o_no hA rfl rfl (by simp [vb]) rfl fun a hA =>
    o_no hA rfl rfl (by simp [vb]) rfl fun a hA =>
    o_no hA rfl rfl (by simp [vb]) rfl fun a hA =>
    o_no hA rfl rfl (by simp [vb]) rfl fun a hA =>
    stp hA (r_pick_f hA rfl rfl rfl) rfl fun a hA =>
    stm hA rfl rfl fun a hA =>
    o_no hA rfl rfl (by simp [vb]) rfl fun a hA =>
    o_no hA rfl rfl (by simp [vb]) rfl fun a hA =>
    o_no hA rfl rfl (by simp [vb]) rfl fun a hA =>
    o_no hA rfl rfl (by simp [vb]) rfl fun a hA =>
    o_no hA rfl rfl (by simp [vb]) rfl fun a hA =>
    stp hA (r_pick_f hA rfl rfl rfl) rfl fun a hA =>
    sta hA rfl rfl fun a hA=>?_
   refine o_nil ?_
   cases sJ H
   exact ⟨hA.sub ⟨rfl,trivial⟩,hI⟩
 ·rintro a w ⟨hA,hI⟩
  have H:=Hk1
  refine w_ret ?_
  obtain rfl:=sJ H
  exact ret1 hA Tryz.results48 rfl ⟨_,rfl,rfl,trivial,hI.forget0⟩
theorem q0_Bare.c (μ:Store)(w0:World)(hμ:Agr μ w0)(x0:Int)(hx0:InR .i64 x0)(r:q0Ft)(H:q0_Bare.f x0=some r) :
  Calls Tryz.prog 54 [.int .i64 x0].toArray w0 (fun e w'=>∃ v,e=.returned v∧v=.agg [[.int .i64 r.Code],[.bool r.Placed],[.int .i64 r.Pos],[.bool r.Outer],[.int .i64 r.At]].flatten.toArray∧q0FtW μ r∧Iv w0 [] μ μ [] w'):=by
 refine enter Tryz.func54 rfl Tryz.ntmps54 rfl fun a hA=>?_
 have hI:=Iv.start hμ
 have H:=bI H
 refine w_seq fun _ hN1=>w_reg<|o_new [[.int .i64 0],[.bool false],[.int .i64 0],[.bool false],[.int .i64 0]] zr53 hI hA rfl fun g1 a w hA hI hg1=>?_
 refine o_nil<|hN1 _ _<|w_seq fun _ hN2=>w_reg<|stm hA rfl rfl fun a hA =>
  stp hA (r_bldS (cs:=[[.int .i64 x0],[.bool false],[.int .i64 0],[.bool false],[.int .i64 0]].flatten.toArray) (pl:=[(0,1),(1,1),(2,1),(3,1),(4,1)]) zr53 U53 ⟨rfl,sz3,rfl,sz4,rfl,sz3,rfl,sz4,rfl,sz3,trivial⟩ hA rfl (by kernel_rfl)) rfl fun a hA =>
  o_st (j:=0) [] [[.int .i64 0],[.bool false],[.int .i64 0],[.bool false],[.int .i64 0]] [[.int .i64 x0],[.bool false],[.int .i64 0],[.bool false],[.int .i64 0]] [] sz53 rfl rfl (fO rfl (fO rfl (fO rfl (fO rfl (fO rfl fl_nil))))) hI rfl hA rfl rfl rfl rfl fun w hI=>?_
 refine o_nil<|hN2 _ _<|w_ret ?_
 obtain rfl:=sJ H
 exact retc U53 rfl sz53 rfl hI (j:=0) rfl hA Tryz.results54 rfl ⟨_,rfl,rfl,⟨hx0,(in_lit .i64 0 rfl),(in_lit .i64 0 rfl)⟩,hI.forget0⟩
theorem q0_None.c (μ:Store)(w0:World)(hμ:Agr μ w0)(r:q0Ft)(H:q0_None.f=some r) :
  Calls Tryz.prog 59 [].toArray w0 (fun e w'=>∃ v,e=.returned v∧v=.agg [[.int .i64 r.Code],[.bool r.Placed],[.int .i64 r.Pos],[.bool r.Outer],[.int .i64 r.At]].flatten.toArray∧q0FtW μ r∧Iv w0 [] μ μ [] w'):=by
 refine enter Tryz.func59 rfl Tryz.ntmps59 rfl fun a hA=>?_
 have hI:=Iv.start hμ
 have H:=bI H
 refine w_seq fun _ hN1=>w_reg<|o_new [[.int .i64 0],[.bool false],[.int .i64 0],[.bool false],[.int .i64 0]] zr53 hI hA rfl fun g1 a w hA hI hg1=>?_
 refine o_nil<|hN1 _ _<|w_seq fun _ hN2=>w_reg<|stp hA (r_bldS (cs:=[[.int .i64 0],[.bool false],[.int .i64 0],[.bool false],[.int .i64 0]].flatten.toArray) (pl:=[(0,1),(1,1),(2,1),(3,1),(4,1)]) zr53 U53 ⟨rfl,sz3,rfl,sz4,rfl,sz3,rfl,sz4,rfl,sz3,trivial⟩ hA rfl (by kernel_rfl)) rfl fun a hA =>
  o_st (j:=0) [] [[.int .i64 0],[.bool false],[.int .i64 0],[.bool false],[.int .i64 0]] [[.int .i64 0],[.bool false],[.int .i64 0],[.bool false],[.int .i64 0]] [] sz53 rfl rfl (fO rfl (fO rfl (fO rfl (fO rfl (fO rfl fl_nil))))) hI rfl hA rfl rfl rfl rfl fun w hI=>?_
 refine o_nil<|hN2 _ _<|w_ret ?_
 obtain rfl:=sJ H
 exact retc U53 rfl sz53 rfl hI (j:=0) rfl hA Tryz.results59 rfl ⟨_,rfl,rfl,⟨(in_lit .i64 0 rfl),(in_lit .i64 0 rfl),(in_lit .i64 0 rfl)⟩,hI.forget0⟩
theorem q0_Placed.c (μ:Store)(w0:World)(hμ:Agr μ w0)(x0:Int)(hx0:InR .i64 x0)(x1:Int)(hx1:InR .i64 x1)(r:q0Ft)(H:q0_Placed.f x0 x1=some r) :
  Calls Tryz.prog 56 [.int .i64 x0,.int .i64 x1].toArray w0 (fun e w'=>∃ v,e=.returned v∧v=.agg [[.int .i64 r.Code],[.bool r.Placed],[.int .i64 r.Pos],[.bool r.Outer],[.int .i64 r.At]].flatten.toArray∧q0FtW μ r∧Iv w0 [] μ μ [] w'):=by
 refine enter Tryz.func56 rfl Tryz.ntmps56 rfl fun a hA=>?_
 have hI:=Iv.start hμ
 have H:=bI H
 refine w_seq fun _ hN1=>w_reg<|o_new [[.int .i64 0],[.bool false],[.int .i64 0],[.bool false],[.int .i64 0]] zr53 hI hA rfl fun g1 a w hA hI hg1=>?_
 refine o_nil<|hN1 _ _<|w_seq fun _ hN2=>w_seq fun _ hN3=>w_reg<|stm hA rfl rfl fun a hA =>
  stp hA (r_eql hA rfl rfl) rfl fun a hA=>?_
 refine o_nil<|hN3 _ _<|w_cond hA rfl (fun hc1=>?_) (fun hc1=>?_)
 ·obtain ⟨hc1,H⟩:=dT H hc1
  refine w_seq fun _ hN4=>w_reg ?_
  obtain ⟨r1,hr1,H⟩:=bB H
  refine o_callp (u:=.agg [[.int .i64 r1.Code],[.bool r1.Placed],[.int .i64 r1.Pos],[.bool r1.Outer],[.int .i64 r1.At]].flatten.toArray) cf59 hA rfl hI (q0_None.c μ _ hI.agr  r1 hr1) rfl fun a w hz1 hI hA =>
   o_st (j:=0) [] [[.int .i64 0],[.bool false],[.int .i64 0],[.bool false],[.int .i64 0]] [[.int .i64 r1.Code],[.bool r1.Placed],[.int .i64 r1.Pos],[.bool r1.Outer],[.int .i64 r1.At]] [] sz53 rfl rfl (fO rfl (fO rfl (fO rfl (fO rfl (fO rfl fl_nil))))) hI rfl hA rfl rfl rfl rfl fun w hI=>?_
  refine o_nil<|hN4 _ _<|w_ret ?_
  obtain rfl:=sJ H
  exact retc U53 rfl sz53 rfl hI (j:=0) rfl hA Tryz.results56 rfl ⟨_,rfl,rfl,⟨hz1.1,hz1.2.1,hz1.2.2⟩,hI.forget0⟩
 ·obtain ⟨hc1,H⟩:=dF H hc1
  refine w_skip<|hN2 _ _<|w_seq fun _ hN5=>w_reg<|stm hA rfl rfl fun a hA =>
   stm hA rfl rfl fun a hA =>
   stp hA (r_bldS (cs:=[[.int .i64 x0],[.bool true],[.int .i64 x1],[.bool false],[.int .i64 0]].flatten.toArray) (pl:=[(0,1),(1,1),(2,1),(3,1),(4,1)]) zr53 U53 ⟨rfl,sz3,rfl,sz4,rfl,sz3,rfl,sz4,rfl,sz3,trivial⟩ hA rfl (by kernel_rfl)) rfl fun a hA =>
   o_st (j:=0) [] [[.int .i64 0],[.bool false],[.int .i64 0],[.bool false],[.int .i64 0]] [[.int .i64 x0],[.bool true],[.int .i64 x1],[.bool false],[.int .i64 0]] [] sz53 rfl rfl (fO rfl (fO rfl (fO rfl (fO rfl (fO rfl fl_nil))))) hI rfl hA rfl rfl rfl rfl fun w hI=>?_
  refine o_nil<|hN5 _ _<|w_ret ?_
  obtain rfl:=sJ H
  exact retc U53 rfl sz53 rfl hI (j:=0) rfl hA Tryz.results56 rfl ⟨_,rfl,rfl,⟨hx0,hx1,(in_lit .i64 0 rfl)⟩,hI.forget0⟩
theorem q2_sentinels.c (μ:Store)(w0:World)(hμ:Agr μ w0)(hG:Gl μ)(r:List Er)(H:q2_sentinels.f=some r) :
  Calls Tryz.prog 110 [].toArray w0 (fun e w'=>∃ v,e=.returned v∧∃(v0:Value)(c0:List Value)(μ':Store),v=v0∧Els (RErr μ') 1 r c0∧Iv w0 [] μ μ' [row 35 1 v0 r.length c0] w'):=by
 refine enter Tryz.func110 rfl Tryz.ntmps110 rfl fun a hA=>?_
 have hI:=Iv.start hμ
 have H:=bI H
 obtain ⟨e0,he0⟩:=hG.g0
 obtain ⟨e1,he1⟩:=hG.g1
 obtain ⟨e2,he2⟩:=hG.g2
 obtain ⟨e3,he3⟩:=hG.g3
 obtain ⟨e4,he4⟩:=hG.g4
 obtain ⟨e5,he5⟩:=hG.g5
 obtain ⟨e6,he6⟩:=hG.g6
 obtain ⟨e7,he7⟩:=hG.g7
 obtain ⟨e8,he8⟩:=hG.g8
 obtain ⟨e9,he9⟩:=hG.g9
 obtain ⟨e10,he10⟩:=hG.g10
 obtain ⟨e11,he11⟩:=hG.g11
 obtain ⟨e12,he12⟩:=hG.g12
 obtain ⟨e13,he13⟩:=hG.g13
 obtain ⟨e14,he14⟩:=hG.g14
 obtain ⟨e15,he15⟩:=hG.g15
 obtain ⟨e16,he16⟩:=hG.g16
 obtain ⟨e17,he17⟩:=hG.g17
 obtain ⟨e18,he18⟩:=hG.g18
 obtain ⟨e19,he19⟩:=hG.g19
 obtain ⟨e20,he20⟩:=hG.g20
 obtain ⟨e21,he21⟩:=hG.g21
 obtain ⟨e22,he22⟩:=hG.g22
 obtain ⟨e23,he23⟩:=hG.g23
 obtain ⟨e24,he24⟩:=hG.g24
 refine w_seq fun _ hN1=>w_reg<|sta hA rfl rfl fun a hA=>?_
 refine o_nil<|hN1 _ _<|w_seq fun _ hN2=>w_reg<|stp hA (r_ldG U35 rfl hI.agr he9 hA) rfl fun a hA =>
  stp hA (r_ldG U35 rfl hI.agr he0 hA) rfl fun a hA =>
  stp hA (r_ldG U35 rfl hI.agr he2 hA) rfl fun a hA =>
  stp hA (r_ldG U35 rfl hI.agr he1 hA) rfl fun a hA =>
  stp hA (r_ldG U35 rfl hI.agr he8 hA) rfl fun a hA =>
  stp hA (r_ldG U35 rfl hI.agr he3 hA) rfl fun a hA =>
  stp hA (r_ldG U35 rfl hI.agr he6 hA) rfl fun a hA =>
  stp hA (r_ldG U35 rfl hI.agr he4 hA) rfl fun a hA =>
  stp hA (r_ldG U35 rfl hI.agr he10 hA) rfl fun a hA =>
  stp hA (r_ldG U35 rfl hI.agr he11 hA) rfl fun a hA =>
  stp hA (r_ldG U35 rfl hI.agr he12 hA) rfl fun a hA =>
  stp hA (r_ldG U35 rfl hI.agr he13 hA) rfl fun a hA =>
  stp hA (r_ldG U35 rfl hI.agr he14 hA) rfl fun a hA =>
  stp hA (r_ldG U35 rfl hI.agr he7 hA) rfl fun a hA =>
  stp hA (r_ldG U35 rfl hI.agr he15 hA) rfl fun a hA =>
  stp hA (r_ldG U35 rfl hI.agr he16 hA) rfl fun a hA =>
  stp hA (r_ldG U35 rfl hI.agr he17 hA) rfl fun a hA =>
  stp hA (r_ldG U35 rfl hI.agr he18 hA) rfl fun a hA =>
  stp hA (r_ldG U35 rfl hI.agr he19 hA) rfl fun a hA =>
  stp hA (r_ldG U35 rfl hI.agr he20 hA) rfl fun a hA =>
  stp hA (r_ldG U35 rfl hI.agr he21 hA) rfl fun a hA =>
  stp hA (r_ldG U35 rfl hI.agr he5 hA) rfl fun a hA =>
  stp hA (r_ldG U35 rfl hI.agr he22 hA) rfl fun a hA =>
  stp hA (r_ldG U35 rfl hI.agr he23 hA) rfl fun a hA =>
  stp hA (r_ldG U35 rfl hI.agr he24 hA) rfl fun a hA=>?_
 have hE1:Els (RErr μ) 1 ([xErrEnd,xErrShape,xErrLong,xErrMany,xErrValue,xErrTwice,xErrBase,xErrRoot,xErrKnown,xErrParent,xErrInvalid,xErrTime,xErrMissing,xErrKey,xErrYoung,xErrEarly,xErrLess,xErrReward,xErrClash,xErrLimit,xErrFull,xErrRange,xErrNone,xErrWord,xErrNumber]:List Er) _:=(Els.cons (c:=[[e9]].flatten) ⟨_,rfl,he9⟩ rfl (Els.cons (c:=[[e0]].flatten) ⟨_,rfl,he0⟩ rfl (Els.cons (c:=[[e2]].flatten) ⟨_,rfl,he2⟩ rfl (Els.cons (c:=[[e1]].flatten) ⟨_,rfl,he1⟩ rfl (Els.cons (c:=[[e8]].flatten) ⟨_,rfl,he8⟩ rfl (Els.cons (c:=[[e3]].flatten) ⟨_,rfl,he3⟩ rfl (Els.cons (c:=[[e6]].flatten) ⟨_,rfl,he6⟩ rfl (Els.cons (c:=[[e4]].flatten) ⟨_,rfl,he4⟩ rfl (Els.cons (c:=[[e10]].flatten) ⟨_,rfl,he10⟩ rfl (Els.cons (c:=[[e11]].flatten) ⟨_,rfl,he11⟩ rfl (Els.cons (c:=[[e12]].flatten) ⟨_,rfl,he12⟩ rfl (Els.cons (c:=[[e13]].flatten) ⟨_,rfl,he13⟩ rfl (Els.cons (c:=[[e14]].flatten) ⟨_,rfl,he14⟩ rfl (Els.cons (c:=[[e7]].flatten) ⟨_,rfl,he7⟩ rfl (Els.cons (c:=[[e15]].flatten) ⟨_,rfl,he15⟩ rfl (Els.cons (c:=[[e16]].flatten) ⟨_,rfl,he16⟩ rfl (Els.cons (c:=[[e17]].flatten) ⟨_,rfl,he17⟩ rfl (Els.cons (c:=[[e18]].flatten) ⟨_,rfl,he18⟩ rfl (Els.cons (c:=[[e19]].flatten) ⟨_,rfl,he19⟩ rfl (Els.cons (c:=[[e20]].flatten) ⟨_,rfl,he20⟩ rfl (Els.cons (c:=[[e21]].flatten) ⟨_,rfl,he21⟩ rfl (Els.cons (c:=[[e5]].flatten) ⟨_,rfl,he5⟩ rfl (Els.cons (c:=[[e22]].flatten) ⟨_,rfl,he22⟩ rfl (Els.cons (c:=[[e23]].flatten) ⟨_,rfl,he23⟩ rfl (Els.cons (c:=[[e24]].flatten) ⟨_,rfl,he24⟩ rfl Els.nil)))))))))))))))))))))))))
 refine o_bsl ([[e9]].flatten++([[e0]].flatten++([[e2]].flatten++([[e1]].flatten++([[e8]].flatten++([[e3]].flatten++([[e6]].flatten++([[e4]].flatten++([[e10]].flatten++([[e11]].flatten++([[e12]].flatten++([[e13]].flatten++([[e14]].flatten++([[e7]].flatten++([[e15]].flatten++([[e16]].flatten++([[e17]].flatten++([[e18]].flatten++([[e19]].flatten++([[e20]].flatten++([[e21]].flatten++([[e5]].flatten++([[e22]].flatten++([[e23]].flatten++([[e24]].flatten++([])))))))))))))))))))))))))) te35 zr35 U140 hI hA rfl rfl rfl rfl ((fill_one (cells_err1 he9) rfl (by kernel_rfl)).trans ((fill_one (cells_err1 he0) rfl (by kernel_rfl)).trans ((fill_one (cells_err1 he2) rfl (by kernel_rfl)).trans ((fill_one (cells_err1 he1) rfl (by kernel_rfl)).trans ((fill_one (cells_err1 he8) rfl (by kernel_rfl)).trans ((fill_one (cells_err1 he3) rfl (by kernel_rfl)).trans ((fill_one (cells_err1 he6) rfl (by kernel_rfl)).trans ((fill_one (cells_err1 he4) rfl (by kernel_rfl)).trans ((fill_one (cells_err1 he10) rfl (by kernel_rfl)).trans ((fill_one (cells_err1 he11) rfl (by kernel_rfl)).trans ((fill_one (cells_err1 he12) rfl (by kernel_rfl)).trans ((fill_one (cells_err1 he13) rfl (by kernel_rfl)).trans ((fill_one (cells_err1 he14) rfl (by kernel_rfl)).trans ((fill_one (cells_err1 he7) rfl (by kernel_rfl)).trans ((fill_one (cells_err1 he15) rfl (by kernel_rfl)).trans ((fill_one (cells_err1 he16) rfl (by kernel_rfl)).trans ((fill_one (cells_err1 he17) rfl (by kernel_rfl)).trans ((fill_one (cells_err1 he18) rfl (by kernel_rfl)).trans ((fill_one (cells_err1 he19) rfl (by kernel_rfl)).trans ((fill_one (cells_err1 he20) rfl (by kernel_rfl)).trans ((fill_one (cells_err1 he21) rfl (by kernel_rfl)).trans ((fill_one (cells_err1 he5) rfl (by kernel_rfl)).trans ((fill_one (cells_err1 he22) rfl (by kernel_rfl)).trans ((fill_one (cells_err1 he23) rfl (by kernel_rfl)).trans ((fill_one (cells_err1 he24) rfl (by kernel_rfl)).trans (by kernel_rfl)))))))))))))))))))))))))) rfl fun g1 a w hA hI=>?_
 generalize hcs:([[e9]].flatten++([[e0]].flatten++([[e2]].flatten++([[e1]].flatten++([[e8]].flatten++([[e3]].flatten++([[e6]].flatten++([[e4]].flatten++([[e10]].flatten++([[e11]].flatten++([[e12]].flatten++([[e13]].flatten++([[e14]].flatten++([[e7]].flatten++([[e15]].flatten++([[e16]].flatten++([[e17]].flatten++([[e18]].flatten++([[e19]].flatten++([[e20]].flatten++([[e21]].flatten++([[e5]].flatten++([[e22]].flatten++([[e23]].flatten++([[e24]].flatten++([]))))))))))))))))))))))))):List Value)=cs1 at hE1 hI
 clear hcs
 refine sta hA rfl rfl fun a hA=>?_
 refine o_nil<|hN2 _ _<|w_ret ?_
 obtain rfl:=sJ H
 exact ret1 hA Tryz.results110 rfl ⟨_,rfl,(.slice (some ⟨g1,0,none⟩) 25 25),cs1,μ,rfl,hE1,hI⟩
theorem q2_Alike.c (μ:Store)(w0:World)(hμ:Agr μ w0)(x0:Er)(u0:Value)(hx0:ErS μ u0 x0)(x1:Er)(u1:Value)(hx1:ErS μ u1 x1)(r:Bool)(H:q2_Alike.f x0 x1=some r) :
  Calls Tryz.prog 111 [u0,u1].toArray w0 (fun e w'=>∃ v,e=.returned v∧v=.bool r∧True∧Iv w0 [] μ μ [] w'):=by
 refine enter Tryz.func111 rfl Tryz.ntmps111 rfl fun a hA=>?_
 have hI:=Iv.start hμ
 have H:=bI H
 refine w_seq fun _ hN1=>w_reg<|sta hA rfl rfl fun a hA=>?_
 refine o_nil<|hN1 _ _<|w_seq fun _ hN2=>?_
 obtain ⟨c1,hz1,Hk1⟩:=bB H
 refine w_cut (fun a w=>Fr a 20 [(0,u0),(1,u1),(4,.bool false),(10,.bool c1)]∧Iv w0 [] μ μ [] w) ?_ ?_
 ·have H:=bI hz1
  refine w_reg<|stm hA rfl rfl fun a hA =>
   stp hA (r_eqE erF hI.agr hx0 erv_nil (.inl ⟨.inr ⟨_,rfl⟩,Er.fitR⟩) hA rfl rfl) rfl fun a hA =>
   stm hA rfl rfl fun a hA=>?_
  rcases Bool.eq_false_or_eq_true (decide (x0=(Er.b 0))) with hc1 | hc1
  ·have hc10:=hc1;obtain ⟨hc1,H⟩:=dT H hc1
   refine o_no hA rfl rfl (by rw [hc10];simp [vb]) rfl fun a hA =>
    o_no hA rfl rfl (by rw [hc10];simp [vb]) rfl fun a hA =>
    stp hA (r_pick_t hA rfl hc10 rfl) rfl fun a hA=>?_
   refine o_nil ?_
   cases sJ H
   exact ⟨hA.sub ⟨rfl,rfl,rfl,rfl,trivial⟩,hI⟩
  ·have hc10:=hc1;obtain ⟨hc1,H⟩:=dF H hc1
   refine o_yes hA rfl rfl hc10 <|
    stm hA rfl rfl fun a hA =>
    o_yes hA rfl rfl hc10 <|
    stp hA (r_eqE erF hI.agr hx1 erv_nil (.inl ⟨.inr ⟨_,rfl⟩,Er.fitR⟩) hA rfl rfl) rfl fun a hA =>
    stp hA (r_pick_f hA rfl hc10 rfl) rfl fun a hA=>?_
   refine o_nil ?_
   cases sJ H
   exact ⟨hA.sub ⟨rfl,rfl,rfl,rfl,trivial⟩,hI⟩
 ·rintro a w ⟨hA,hI⟩
  have H:=Hk1
  refine w_cond hA rfl (fun hc2=>?_) (fun hc2=>?_)
  ·have H:=bT H hc2
   obtain ⟨c2,hz2,Hk2⟩:=bB H
   refine w_cut (fun a w=>Fr a 20 [(0,u0),(1,u1),(4,.bool c2)]∧Iv w0 [] μ μ [] w) ?_ ?_
   ·have H:=bI hz2
    refine w_reg<|stm hA rfl rfl fun a hA =>
     stp hA (r_eqE erF hI.agr hx0 erv_nil (.inl ⟨.inr ⟨_,rfl⟩,Er.fitR⟩) hA rfl rfl) rfl fun a hA =>
     stm hA rfl rfl fun a hA=>?_
    rcases Bool.eq_false_or_eq_true (decide (x0=(Er.b 0))) with hc3 | hc3
    ·have hc30:=hc3;obtain ⟨hc3,H⟩:=dT H hc3
     refine o_yes hA rfl rfl hc30 <|
      stm hA rfl rfl fun a hA =>
      o_yes hA rfl rfl hc30 <|
      stp hA (r_eqE erF hI.agr hx1 erv_nil (.inl ⟨.inr ⟨_,rfl⟩,Er.fitR⟩) hA rfl rfl) rfl fun a hA =>
      stp hA (r_pick_t hA rfl hc30 rfl) rfl fun a hA =>
      sta hA rfl rfl fun a hA=>?_
     refine o_nil ?_
     cases sJ H
     exact ⟨hA.sub ⟨rfl,rfl,rfl,trivial⟩,hI⟩
    ·have hc30:=hc3;obtain ⟨hc3,H⟩:=dF H hc3
     refine o_no hA rfl rfl (by rw [hc30];simp [vb]) rfl fun a hA =>
      o_no hA rfl rfl (by rw [hc30];simp [vb]) rfl fun a hA =>
      stp hA (r_pick_f hA rfl hc30 rfl) rfl fun a hA =>
      sta hA rfl rfl fun a hA=>?_
     refine o_nil ?_
     cases sJ H
     exact ⟨hA.sub ⟨rfl,rfl,rfl,trivial⟩,hI⟩
   ·rintro a w ⟨hA,hI⟩
    have H:=Hk2
    refine w_ret ?_
    obtain rfl:=sJ H
    exact ret1 hA Tryz.results111 rfl ⟨_,rfl,rfl,trivial,hI.forget0⟩
  ·have hc2:=ft hc2;have H:=bF H hc2
   refine w_skip<|hN2 _ _<|w_seq fun _ hN3=>w_reg<|stm hA rfl rfl fun a hA =>
    stm hA rfl rfl fun a hA=>?_
   obtain ⟨hb1,H⟩:=bG H
   refine stp hA (r_eqE erF hI.agr hx0 hx1 (.inr hb1) hA rfl rfl) rfl fun a hA =>
    sta hA rfl rfl fun a hA=>?_
   refine o_nil<|hN3 _ _<|w_ret ?_
   obtain rfl:=sJ H
   exact ret1 hA Tryz.results111 rfl ⟨_,rfl,rfl,trivial,hI.forget0⟩
theorem q2_sentinel.c (μ:Store)(w0:World)(hμ:Agr μ w0)(x0:Er)(u0:Value)(hx0:ErS μ u0 x0)(hG:Gl μ)(r:Int)(H:q2_sentinel.f x0=some r) :
  Calls Tryz.prog 89 [u0].toArray w0 (fun e w'=>∃ v,e=.returned v∧v=.int .i64 r∧InR .i64 r∧Iv w0 [] μ μ [] w'):=by
 refine enter Tryz.func89 rfl Tryz.ntmps89 rfl fun a hA=>?_
 have hI:=Iv.start hμ
 have H:=bI H
 refine w_seq fun _ hN1=>w_reg<|sta hA rfl rfl fun a hA=>?_
 refine o_nil<|hN1 _ _<|w_seq fun _ hN2=>w_reg ?_
 obtain ⟨r1,hr1,H⟩:=bB H
 refine o_call _ cf110 hA rfl (q2_sentinels.c μ _ hI.agr hG r1 hr1) rfl fun v1 a w hz1 hA=>?_
 obtain ⟨_,cs1,μ1,rfl,hE1,hi1⟩:=hz1
 have hI:=hI.call hi1
 refine sta hA rfl rfl fun a hA=>?_
 refine o_nil<|hN2 _ _<|w_seq fun _ hN3=>w_seq fun _ hN4=>w_reg<|sta hA rfl rfl fun a hA=>?_
 refine o_nil<|hN4 _ _<|w_block ?_
 obtain ⟨z1,hz2,Hk1⟩:=bind_some H
 obtain ⟨n1,hn1⟩:=loopO_some hz2
 refine w_loop (fun n a w=>∃(s1:Int),loopN (q2_sentinel.s0 x0 r1) n s1=some z1∧InR .i64 s1∧Fr a 20 [(0,u0),(2,.int .i64 0),(3,v1),(4,.int .i64 s1)]∧Iv w0 [] μ μ1 [row 35 1 v1 r1.length cs1] w) n1 ⟨0,hn1,(in_lit .i64 0 rfl),hA.sub ⟨rfl,rfl,rfl,rfl,trivial⟩,hI⟩ ?_
 clear hA hI
 rintro n a w ⟨s1,hn1,ws1,hA,hI⟩
 obtain ⟨m1,rfl,H⟩:=loopN_bind hn1
 clear hn1
 refine w_seq fun _ hN5=>w_seq fun _ hN6=>w_reg<|stm hA rfl rfl fun a hA =>
  stm hA rfl rfl fun a hA=>?_
 have hlen1:=Iv.row_in hI (j:=0) rfl
 refine stp hA (r_rlen (xs:=0) U140 hI (j:=0) rfl hA rfl) rfl fun a hA =>
  stp hA (r_lss hA rfl rfl) rfl fun a hA=>?_
 refine o_nil<|hN6 _ _<|w_cond hA rfl (fun hc1=>?_) (fun hc1=>?_)
 ·obtain ⟨hc1,H⟩:=dT H hc1
  refine w_skip<|hN5 _ _<|w_seq fun _ hN7=>w_block<|w_seq fun _ hN8=>w_reg<|stm hA rfl rfl fun a hA =>
   stm hA rfl rfl fun a hA =>
   stm hA rfl rfl fun a hA=>?_
  obtain ⟨hb1,H⟩:=bG H
  refine stp hA (r_rix (j:=0) U140 sz35 hI rfl hA rfl rfl hb1.1 hb1.2) rfl fun a hA=>?_
  obtain ⟨A1,_,B1,hc2,hl1,_,he1⟩:=Els.at_ hE1 (getD_some (Er.b 0) hb1.1 hb1.2)
  obtain ⟨v2,rfl,hw1⟩:=he1
  refine stp hA (r_rldQ (j:=0) (q:=s1.toNat * 1) (off:=0) A1 B1 [] [] hc2 hl1 rfl U35 rfl hI rfl hA rfl) rfl fun a hA=>?_
  obtain ⟨r2,hr2,H⟩:=bB H
  refine o_callp (u:=.bool r2) cf111 hA rfl hI (q2_Alike.c μ1 _ hI.agr x0 u0 (ErV.le (fun _ _ h=>h) hi1.le hx0) (r1.getD s1.toNat (Er.b 0)) v2 hw1 r2 hr2) rfl fun a w hz3 hI hA=>?_
  refine o_nil<|hN8 _ _<|w_cond hA rfl (fun hc3=>?_) (fun hc3=>?_)
  ·have H:=bT H hc3
   refine w_seq fun _ hN9=>w_reg<|stm hA rfl rfl fun a hA =>
    stp hA (r_add hA rfl rfl) rfl fun a hA =>
    sta hA rfl rfl fun a hA=>?_
   refine o_nil<|hN9 _ _<|w_ret ?_
   have H:some (IntKind.i64.wrap (101+s1))=some z1:=H
   obtain rfl:=sI H
   have H:=Hk1
   obtain rfl:=sJ H
   exact ret1 hA Tryz.results89 rfl ⟨_,rfl,rfl,(wrap_in _ _),hI.forget0⟩
  ·have hc3:=ft hc3;have H:=bF H hc3
   refine w_skip<|hN7 _ _<|w_reg<|stm hA rfl rfl fun a hA =>
    stp hA (r_add hA rfl rfl) rfl fun a hA =>
    sta hA rfl rfl fun a hA=>?_
   refine o_nil<|⟨m1,lS _,IntKind.i64.wrap (s1+1),H,(wrap_in _ _),hA.sub ⟨rfl,rfl,rfl,rfl,trivial⟩,hI⟩
 ·obtain ⟨hc1,H⟩:=dF H hc1
  refine w_exit rfl<|hN3 _ _<|w_seq fun _ hN10=>w_reg<|sta hA rfl rfl fun a hA=>?_
  refine o_nil<|hN10 _ _<|w_ret ?_
  have H:some (-1)=some z1:=H
  obtain rfl:=sI H
  have H:=Hk1
  obtain rfl:=sJ H
  exact ret1 hA Tryz.results89 rfl ⟨_,rfl,rfl,(in_lit .i64 (-1) rfl),hI.forget0⟩
theorem q0_Around.c (μ:Store)(w0:World)(hμ:Agr μ w0)(x0:q0Ft)(hx0:q0FtW μ x0)(x1:Int)(hx1:InR .i64 x1)(r:q0Ft)(H:q0_Around.f x0 x1=some r) :
  Calls Tryz.prog 90 [.agg [[.int .i64 x0.Code],[.bool x0.Placed],[.int .i64 x0.Pos],[.bool x0.Outer],[.int .i64 x0.At]].flatten.toArray,.int .i64 x1].toArray w0 (fun e w'=>∃ v,e=.returned v∧v=.agg [[.int .i64 r.Code],[.bool r.Placed],[.int .i64 r.Pos],[.bool r.Outer],[.int .i64 r.At]].flatten.toArray∧q0FtW μ r∧Iv w0 [] μ μ [] w'):=by
 refine enter Tryz.func90 rfl Tryz.ntmps90 rfl fun a hA=>?_
 have hI:=Iv.start hμ
 have H:=bI H
 refine w_seq fun _ hN1=>w_reg<|o_box [[.int .i64 x0.Code],[.bool x0.Placed],[.int .i64 x0.Pos],[.bool x0.Outer],[.int .i64 x0.At]] hI hA rfl rfl rfl fun g1 a w hA hI hg1 =>
  o_new [[.int .i64 0],[.bool false],[.int .i64 0],[.bool false],[.int .i64 0]] zr53 hI hA rfl fun g2 a w hA hI hg2=>?_
 refine o_nil<|hN1 _ _<|w_seq fun _ hN2=>w_block<|w_seq fun _ hN3=>w_reg<|stp hA (r_fd (k:=0) U53 rfl sz3 hA rfl rfl) rfl fun a hA =>
  stp hA (r_ld1 (j:=1) [] [[.bool x0.Placed],[.int .i64 x0.Pos],[.bool x0.Outer],[.int .i64 x0.At]] U3 rfl hI rfl hA rfl rfl) rfl fun a hA =>
  stp hA (r_eql hA rfl rfl) rfl fun a hA =>
  sta hA rfl rfl fun a hA=>?_
 refine o_nil<|hN3 _ _<|w_cond hA rfl (fun hc1=>?_) (fun hc1=>?_)
 ·obtain ⟨hc1,H⟩:=dT H hc1
  refine w_seq fun _ hN4=>w_reg<|stp hA (r_ldA (j:=1) [] [[.int .i64 x0.Code],[.bool x0.Placed],[.int .i64 x0.Pos],[.bool x0.Outer],[.int .i64 x0.At]] [] U53 rfl sz53 rfl hI rfl hA rfl rfl) rfl fun a hA =>
   o_st (j:=0) [] [[.int .i64 0],[.bool false],[.int .i64 0],[.bool false],[.int .i64 0]] [[.int .i64 x0.Code],[.bool x0.Placed],[.int .i64 x0.Pos],[.bool x0.Outer],[.int .i64 x0.At]] [] sz53 rfl rfl (fO rfl (fO rfl (fO rfl (fO rfl (fO rfl fl_nil))))) hI rfl hA rfl rfl rfl rfl fun w hI=>?_
  refine o_nil<|hN4 _ _<|w_ret ?_
  obtain rfl:=sJ H
  exact retc U53 rfl sz53 rfl hI (j:=0) rfl hA Tryz.results90 rfl ⟨_,rfl,rfl,⟨hx0.1,hx0.2.1,hx0.2.2⟩,hI.forget0⟩
 ·obtain ⟨hc1,H⟩:=dF H hc1
  refine w_seq fun _ hN5=>w_reg<|stp hA (r_fd (k:=1) U53 rfl sz4 hA rfl rfl) rfl fun a hA =>
   stp hA (r_ld1 (j:=1) [[.int .i64 x0.Code]] [[.int .i64 x0.Pos],[.bool x0.Outer],[.int .i64 x0.At]] U4 rfl hI rfl hA rfl rfl) rfl fun a hA =>
   stp hA (r_not hA rfl) rfl fun a hA =>
   sta hA rfl rfl fun a hA=>?_
  refine o_nil<|hN5 _ _<|w_cond hA rfl (fun hc2=>?_) (fun hc2=>?_)
  ·have hc2:=nT hc2;have hc2:=ft hc2;have H:=bF H hc2
   refine w_seq fun _ hN6=>w_reg<|stp hA (r_fd (k:=0) U53 rfl sz3 hA rfl rfl) rfl fun a hA =>
    stp hA (r_ld1 (j:=1) [] [[.bool x0.Placed],[.int .i64 x0.Pos],[.bool x0.Outer],[.int .i64 x0.At]] U3 rfl hI rfl hA rfl rfl) rfl fun a hA =>
    stm hA rfl rfl fun a hA=>?_
   obtain ⟨r1,hr1,H⟩:=bB H
   refine o_callp (u:=.agg [[.int .i64 r1.Code],[.bool r1.Placed],[.int .i64 r1.Pos],[.bool r1.Outer],[.int .i64 r1.At]].flatten.toArray) cf56 hA rfl hI (q0_Placed.c μ _ hI.agr x0.Code hx0.1 x1 hx1 r1 hr1) rfl fun a w hz1 hI hA =>
    o_st (j:=0) [] [[.int .i64 0],[.bool false],[.int .i64 0],[.bool false],[.int .i64 0]] [[.int .i64 r1.Code],[.bool r1.Placed],[.int .i64 r1.Pos],[.bool r1.Outer],[.int .i64 r1.At]] [] sz53 rfl rfl (fO rfl (fO rfl (fO rfl (fO rfl (fO rfl fl_nil))))) hI rfl hA rfl rfl rfl rfl fun w hI=>?_
   refine o_nil<|hN6 _ _<|w_ret ?_
   obtain rfl:=sJ H
   exact retc U53 rfl sz53 rfl hI (j:=0) rfl hA Tryz.results90 rfl ⟨_,rfl,rfl,⟨hz1.1,hz1.2.1,hz1.2.2⟩,hI.forget0⟩
  ·have hc2:=nF hc2;have H:=bT H hc2
   refine w_skip<|hN2 _ _<|w_seq fun _ hN7=>w_reg<|stp hA (r_fd (k:=3) U53 rfl sz4 hA rfl rfl) rfl fun a hA =>
    o_st (j:=1) [[.int .i64 x0.Code],[.bool x0.Placed],[.int .i64 x0.Pos]] [[.bool x0.Outer]] [[.bool true]] [[.int .i64 x0.At]] sz4 rfl rfl (fO rfl fl_nil) hI rfl hA rfl rfl rfl rfl fun w hI=>?_
   refine o_nil<|hN7 _ _<|w_seq fun _ hN8=>w_reg<|stm hA rfl rfl fun a hA =>
    stp hA (r_fd (k:=4) U53 rfl sz3 hA rfl rfl) rfl fun a hA =>
    o_st (j:=1) [[.int .i64 x0.Code],[.bool x0.Placed],[.int .i64 x0.Pos],[.bool true]] [[.int .i64 x0.At]] [[.int .i64 x1]] [] sz3 rfl rfl (fO rfl fl_nil) hI rfl hA rfl rfl rfl rfl fun w hI=>?_
   refine o_nil<|hN8 _ _<|w_seq fun _ hN9=>w_reg<|stp hA (r_ldA (j:=1) [] [[.int .i64 x0.Code],[.bool x0.Placed],[.int .i64 x0.Pos],[.bool true],[.int .i64 x1]] [] U53 rfl sz53 rfl hI rfl hA rfl rfl) rfl fun a hA =>
    o_st (j:=0) [] [[.int .i64 0],[.bool false],[.int .i64 0],[.bool false],[.int .i64 0]] [[.int .i64 x0.Code],[.bool x0.Placed],[.int .i64 x0.Pos],[.bool true],[.int .i64 x1]] [] sz53 rfl rfl (fO rfl (fO rfl (fO rfl (fO rfl (fO rfl fl_nil))))) hI rfl hA rfl rfl rfl rfl fun w hI=>?_
   refine o_nil<|hN9 _ _<|w_ret ?_
   obtain rfl:=sJ H
   exact retc U53 rfl sz53 rfl hI (j:=0) rfl hA Tryz.results90 rfl ⟨_,rfl,rfl,⟨hx0.1,hx0.2.1,hx1⟩,hI.forget0⟩
theorem q2_Fault.c (μ:Store)(w0:World)(hμ:Agr μ w0)(x0:Er)(u0:Value)(hx0:ErS μ u0 x0)(hG:Gl μ)(r:q0Ft)(H:q2_Fault.f x0=some r) :
  Calls Tryz.prog 49 [u0].toArray w0 (fun e w'=>∃ v,e=.returned v∧v=.agg [[.int .i64 r.Code],[.bool r.Placed],[.int .i64 r.Pos],[.bool r.Outer],[.int .i64 r.At]].flatten.toArray∧q0FtW μ r∧Iv w0 [] μ μ [] w'):=by
 refine enter Tryz.func49 rfl Tryz.ntmps49 rfl fun a hA=>?_
 have hI:=Iv.start hμ
 have H:=bI H
 refine w_seq fun _ hN1=>w_reg<|o_new [[.int .i64 0],[.bool false],[.int .i64 0],[.bool false],[.int .i64 0]] zr53 hI hA rfl fun g1 a w hA hI hg1=>?_
 refine o_nil<|hN1 _ _<|w_seq fun _ hN2=>w_seq fun _ hN3=>w_reg<|stm hA rfl rfl fun a hA =>
  stp hA (r_eqE erF hI.agr hx0 erv_nil (.inl ⟨.inr ⟨_,rfl⟩,Er.fitR⟩) hA rfl rfl) rfl fun a hA=>?_
 refine o_nil<|hN3 _ _<|w_cond hA rfl (fun hc1=>?_) (fun hc1=>?_)
 ·obtain ⟨hc1,H⟩:=dT H hc1
  refine w_seq fun _ hN4=>w_reg ?_
  obtain ⟨r1,hr1,H⟩:=bB H
  refine o_callp (u:=.agg [[.int .i64 r1.Code],[.bool r1.Placed],[.int .i64 r1.Pos],[.bool r1.Outer],[.int .i64 r1.At]].flatten.toArray) cf59 hA rfl hI (q0_None.c μ _ hI.agr  r1 hr1) rfl fun a w hz1 hI hA =>
   o_st (j:=0) [] [[.int .i64 0],[.bool false],[.int .i64 0],[.bool false],[.int .i64 0]] [[.int .i64 r1.Code],[.bool r1.Placed],[.int .i64 r1.Pos],[.bool r1.Outer],[.int .i64 r1.At]] [] sz53 rfl rfl (fO rfl (fO rfl (fO rfl (fO rfl (fO rfl fl_nil))))) hI rfl hA rfl rfl rfl rfl fun w hI=>?_
  refine o_nil<|hN4 _ _<|w_ret ?_
  obtain rfl:=sJ H
  exact retc U53 rfl sz53 rfl hI (j:=0) rfl hA Tryz.results49 rfl ⟨_,rfl,rfl,⟨hz1.1,hz1.2.1,hz1.2.2⟩,hI.forget0⟩
 ·obtain ⟨hc1,H⟩:=dF H hc1
  refine w_skip<|hN2 _ _<|w_seq fun _ hN5=>w_reg<|stm hA rfl rfl fun a hA =>
   stp hA (r_asP (by decide) U118 zrA hx0 hA rfl) rfl fun a hA =>
   stm hA rfl rfl fun a hA =>
   stp hA (r_extr (vs:=[aP 118 u0,.bool x0.isP]) hA rfl rfl) rfl fun a hA =>
   stp hA (r_extr (vs:=[aP 118 u0,.bool x0.isP]) hA rfl rfl) rfl fun a hA =>
   sta hA rfl rfl fun a hA =>
   sta hA rfl rfl fun a hA=>?_
  refine o_nil<|hN5 _ _<|w_seq fun _ hN6=>w_seq fun _ hN7=>w_reg<|stm hA rfl rfl fun a hA =>
   stp hA (r_not hA rfl) rfl fun a hA=>?_
  refine o_nil<|hN7 _ _<|w_cond hA rfl (fun hc2=>?_) (fun hc2=>?_)
  ·have hc20:=hc2;have hc2:=nT hc2;have hc2:=ft hc2;have H:=bF H hc2;have hc2P:x0.isP=false:=by simpa using hc20
   refine w_seq fun _ hN8=>w_reg<|stm hA rfl rfl fun a hA=>?_
   obtain ⟨r2,hr2,H⟩:=bB H
   refine o_callp (u:=.int .i64 r2) cf89 hA rfl hI (q2_sentinel.c μ _ hI.agr x0 u0 hx0 hG r2 hr2) rfl fun a w hz2 hI hA=>?_
   obtain ⟨r3,hr3,H⟩:=bB H
   refine o_callp (u:=.agg [[.int .i64 r3.Code],[.bool r3.Placed],[.int .i64 r3.Pos],[.bool r3.Outer],[.int .i64 r3.At]].flatten.toArray) cf54 hA rfl hI (q0_Bare.c μ _ hI.agr r2 hz2 r3 hr3) rfl fun a w hz3 hI hA =>
    o_st (j:=0) [] [[.int .i64 0],[.bool false],[.int .i64 0],[.bool false],[.int .i64 0]] [[.int .i64 r3.Code],[.bool r3.Placed],[.int .i64 r3.Pos],[.bool r3.Outer],[.int .i64 r3.At]] [] sz53 rfl rfl (fO rfl (fO rfl (fO rfl (fO rfl (fO rfl fl_nil))))) hI rfl hA rfl rfl rfl rfl fun w hI=>?_
   refine o_nil<|hN8 _ _<|w_ret ?_
   obtain rfl:=sJ H
   exact retc U53 rfl sz53 rfl hI (j:=0) rfl hA Tryz.results49 rfl ⟨_,rfl,rfl,⟨hz3.1,hz3.2.1,hz3.2.2⟩,hI.forget0⟩
  ·have hc20:=hc2;have hc2:=nF hc2;have H:=bT H hc2;have hc2P:x0.isP=true:=by simpa using hc20
   refine w_skip<|hN6 _ _<|w_seq fun _ hN9=>?_
   obtain ⟨g2,v1,hv1,hat1,hw1,hE1⟩:=ErV.isP hx0 hc2P
   rw [hv1] at hA
   obtain ⟨c1,hz4,Hk1⟩:=bB H
   refine w_cut (fun a w=>Fr a 75 [(2,pt g1 0),(3,pt g2 0),(28,.bool c1)]∧Iv w0 [] μ μ [cel g1 [[.int .i64 0],[.bool false],[.int .i64 0],[.bool false],[.int .i64 0]] 53] w) ?_ ?_
   ·have H:=bI hz4
    refine w_reg<|stm hA rfl rfl fun a hA =>
     stp hA (r_ptrnil_eql U118 hA rfl rfl) rfl fun a hA =>
     stm hA rfl rfl fun a hA =>
     o_yes hA rfl rfl rfl <|
     stm hA rfl rfl fun a hA =>
     o_yes hA rfl rfl rfl <|
     stp hA (r_nilc hA rfl) rfl fun a hA =>
     o_yes hA rfl rfl rfl <|
     stp hA (r_fd (k:=0+1) U122 rfl sz35 hA rfl rfl) rfl fun a hA =>
     o_yes hA rfl rfl rfl <|
     stp hA (r_ldm1 [[.int .i64 x0.pos]] [] U35 rfl hI.agr hat1 hA rfl rfl) rfl fun a hA =>
     o_yes hA rfl rfl rfl <|
     stp hA (r_eqE erF hI.agr hE1 erv_nil (.inl ⟨.inr ⟨_,rfl⟩,Er.fitR⟩) hA rfl rfl) rfl fun a hA =>
     stp hA (r_pick_f hA rfl rfl rfl) rfl fun a hA=>?_
    refine o_nil ?_
    cases sJ H
    exact ⟨hA.sub ⟨rfl,rfl,rfl,trivial⟩,hI⟩
   ·rintro a w ⟨hA,hI⟩
    have H:=Hk1
    refine w_cond hA rfl (fun hc3=>?_) (fun hc3=>?_)
    ·have H:=bT H hc3
     refine w_seq fun _ hN10=>w_reg ?_
     obtain ⟨r4,hr4,H⟩:=bB H
     refine o_callp (u:=.agg [[.int .i64 r4.Code],[.bool r4.Placed],[.int .i64 r4.Pos],[.bool r4.Outer],[.int .i64 r4.At]].flatten.toArray) cf54 hA rfl hI (q0_Bare.c μ _ hI.agr (-1) (in_lit .i64 (-1) rfl) r4 hr4) rfl fun a w hz5 hI hA =>
      o_st (j:=0) [] [[.int .i64 0],[.bool false],[.int .i64 0],[.bool false],[.int .i64 0]] [[.int .i64 r4.Code],[.bool r4.Placed],[.int .i64 r4.Pos],[.bool r4.Outer],[.int .i64 r4.At]] [] sz53 rfl rfl (fO rfl (fO rfl (fO rfl (fO rfl (fO rfl fl_nil))))) hI rfl hA rfl rfl rfl rfl fun w hI=>?_
     refine o_nil<|hN10 _ _<|w_ret ?_
     obtain rfl:=sJ H
     exact retc U53 rfl sz53 rfl hI (j:=0) rfl hA Tryz.results49 rfl ⟨_,rfl,rfl,⟨hz5.1,hz5.2.1,hz5.2.2⟩,hI.forget0⟩
    ·have hc3:=ft hc3;have H:=bF H hc3
     refine w_skip<|hN9 _ _<|w_seq fun _ hN11=>w_reg<|stm hA rfl rfl fun a hA =>
      stp hA (r_nilc hA rfl) rfl fun a hA =>
      stp hA (r_fd (k:=0+1) U122 rfl sz35 hA rfl rfl) rfl fun a hA =>
      stp hA (r_ldm1 [[.int .i64 x0.pos]] [] U35 rfl hI.agr hat1 hA rfl rfl) rfl fun a hA =>
      stp hA (r_asP (by decide) U118 zrA hE1 hA rfl) rfl fun a hA =>
      stm hA rfl rfl fun a hA =>
      stp hA (r_extr (vs:=[aP 118 v1,.bool x0.err.isP]) hA rfl rfl) rfl fun a hA =>
      stp hA (r_extr (vs:=[aP 118 v1,.bool x0.err.isP]) hA rfl rfl) rfl fun a hA =>
      sta hA rfl rfl fun a hA =>
      sta hA rfl rfl fun a hA=>?_
     refine o_nil<|hN11 _ _<|w_seq fun _ hN12=>w_seq fun _ hN13=>w_reg<|stm hA rfl rfl fun a hA =>
      stp hA (r_not hA rfl) rfl fun a hA=>?_
     refine o_nil<|hN13 _ _<|w_cond hA rfl (fun hc4=>?_) (fun hc4=>?_)
     ·have hc40:=hc4;have hc4:=nT hc4;have hc4:=ft hc4;have H:=bF H hc4;have hc4P:x0.err.isP=false:=by simpa using hc40
      refine w_seq fun _ hN14=>?_
      refine w_anyS [] mo (fun w (h:Iv w0 [] μ μ [cel g1 [[.int .i64 0],[.bool false],[.int .i64 0],[.bool false],[.int .i64 0]] 53] w)=>(h.sl [] rfl:Iv w0 [] μ μ [] w)) hI fun w hI=>?_
      refine gE 0 hA rfl (.inr (hI.sl [] rfl)) (fun _=>r_mv hA rfl) fun a hA=>?_
      refine gE 1 hA rfl (.inr (hI.sl [] rfl)) (fun _=>r_nilc hA rfl) fun a hA=>?_
      refine gE 2 hA rfl (.inr (hI.sl [] rfl)) (fun _=>r_fd (k:=0+1) U122 rfl sz35 hA rfl rfl) fun a hA=>?_
      refine gT 3 hA rfl (hI.sl [] rfl) (fun w hI=>r_ldm1 [[.int .i64 x0.pos]] [] U35 rfl hI.agr hat1 hA rfl rfl) fun a hA=>?_
      refine gE 5 hA rfl (.inr (hI.sl [] rfl)) (fun _=>r_mv hA rfl) fun a hA=>?_
      refine gE 6 hA rfl (.inr (hI.sl [] rfl)) (fun _=>r_nilc hA rfl) fun a hA=>?_
      refine gE 7 hA rfl (.inr (hI.sl [] rfl)) (fun _=>r_fd (k:=0) U122 rfl sz3 hA rfl rfl) fun a hA=>?_
      refine gT 8 hA rfl (hI.sl [] rfl) (fun w hI=>r_ldm1 [] [[v1]] U3 rfl hI.agr hat1 hA rfl rfl) fun a hA=>?_
      refine gF 4 rfl ?_
      obtain ⟨r5,hr5,H⟩:=bB H
      refine o_callp (u:=.int .i64 r5) cf89 hA rfl hI (q2_sentinel.c μ _ hI.agr x0.err v1 hE1 hG r5 hr5) rfl fun a w hz6 hI hA=>?_
      refine o_nil<|⟨(.inr (hI.sl [] rfl)),?_⟩
      refine gF 9 rfl ?_
      obtain ⟨r6,hr6,H⟩:=bB H
      refine o_callp (u:=.agg [[.int .i64 r6.Code],[.bool r6.Placed],[.int .i64 r6.Pos],[.bool r6.Outer],[.int .i64 r6.At]].flatten.toArray) cf56 hA rfl hI (q0_Placed.c μ _ hI.agr r5 hz6 x0.pos hw1 r6 hr6) rfl fun a w hz7 hI hA=>?_
      refine o_nil<|⟨(.inr (hI.sl [] rfl)),?_⟩
      refine gF 10 rfl ?_
      refine o_st (j:=0) [] [[.int .i64 0],[.bool false],[.int .i64 0],[.bool false],[.int .i64 0]] [[.int .i64 r6.Code],[.bool r6.Placed],[.int .i64 r6.Pos],[.bool r6.Outer],[.int .i64 r6.At]] [] sz53 rfl rfl (fO rfl (fO rfl (fO rfl (fO rfl (fO rfl fl_nil))))) hI rfl hA rfl rfl rfl rfl fun w hI=>?_
      refine o_nil<|⟨(.inr (hI.sl [] rfl)),?_⟩
      refine gN<|hN14 _ _<|w_ret ?_
      obtain rfl:=sJ H
      exact retc U53 rfl sz53 rfl hI (j:=0) rfl hA Tryz.results49 rfl ⟨_,rfl,rfl,⟨hz7.1,hz7.2.1,hz7.2.2⟩,hI.forget0⟩
     ·have hc40:=hc4;have hc4:=nF hc4;have H:=bT H hc4;have hc4P:x0.err.isP=true:=by simpa using hc40
      refine w_skip<|hN12 _ _<|w_seq fun _ hN15=>?_
      obtain ⟨g3,v2,hv2,hat2,hw2,hE2⟩:=ErV.isP hE1 hc4P
      rw [hv2] at hA
      obtain ⟨c2,hz8,Hk2⟩:=bB H
      refine w_cut (fun a w=>Fr a 75 [(2,pt g1 0),(3,pt g2 0),(5,pt g3 0),(58,.bool c2)]∧Iv w0 [] μ μ [cel g1 [[.int .i64 0],[.bool false],[.int .i64 0],[.bool false],[.int .i64 0]] 53] w) ?_ ?_
      ·have H:=bI hz8
       refine w_reg<|stm hA rfl rfl fun a hA =>
        stp hA (r_ptrnil_eql U118 hA rfl rfl) rfl fun a hA =>
        stm hA rfl rfl fun a hA =>
        o_yes hA rfl rfl rfl <|
        stm hA rfl rfl fun a hA =>
        o_yes hA rfl rfl rfl <|
        stp hA (r_nilc hA rfl) rfl fun a hA =>
        o_yes hA rfl rfl rfl <|
        stp hA (r_fd (k:=0+1) U122 rfl sz35 hA rfl rfl) rfl fun a hA =>
        o_yes hA rfl rfl rfl <|
        stp hA (r_ldm1 [[.int .i64 x0.err.pos]] [] U35 rfl hI.agr hat2 hA rfl rfl) rfl fun a hA =>
        o_yes hA rfl rfl rfl <|
        stp hA (r_eqE erF hI.agr hE2 erv_nil (.inl ⟨.inr ⟨_,rfl⟩,Er.fitR⟩) hA rfl rfl) rfl fun a hA =>
        stp hA (r_pick_f hA rfl rfl rfl) rfl fun a hA=>?_
       refine o_nil ?_
       cases sJ H
       exact ⟨hA.sub ⟨rfl,rfl,rfl,rfl,trivial⟩,hI⟩
      ·rintro a w ⟨hA,hI⟩
       have H:=Hk2
       refine w_cond hA rfl (fun hc5=>?_) (fun hc5=>?_)
       ·have H:=bT H hc5
        refine w_seq fun _ hN16=>w_reg ?_
        obtain ⟨r7,hr7,H⟩:=bB H
        refine o_callp (u:=.agg [[.int .i64 r7.Code],[.bool r7.Placed],[.int .i64 r7.Pos],[.bool r7.Outer],[.int .i64 r7.At]].flatten.toArray) cf54 hA rfl hI (q0_Bare.c μ _ hI.agr (-1) (in_lit .i64 (-1) rfl) r7 hr7) rfl fun a w hz9 hI hA =>
         o_st (j:=0) [] [[.int .i64 0],[.bool false],[.int .i64 0],[.bool false],[.int .i64 0]] [[.int .i64 r7.Code],[.bool r7.Placed],[.int .i64 r7.Pos],[.bool r7.Outer],[.int .i64 r7.At]] [] sz53 rfl rfl (fO rfl (fO rfl (fO rfl (fO rfl (fO rfl fl_nil))))) hI rfl hA rfl rfl rfl rfl fun w hI=>?_
        refine o_nil<|hN16 _ _<|w_ret ?_
        obtain rfl:=sJ H
        exact retc U53 rfl sz53 rfl hI (j:=0) rfl hA Tryz.results49 rfl ⟨_,rfl,rfl,⟨hz9.1,hz9.2.1,hz9.2.2⟩,hI.forget0⟩
       ·have hc5:=ft hc5;have H:=bF H hc5
        refine w_skip<|hN15 _ _<|w_seq fun _ hN17=>?_
        refine w_anyS [] mo (fun w (h:Iv w0 [] μ μ [cel g1 [[.int .i64 0],[.bool false],[.int .i64 0],[.bool false],[.int .i64 0]] 53] w)=>(h.sl [] rfl:Iv w0 [] μ μ [] w)) hI fun w hI=>?_
        refine gE 0 hA rfl (.inr (hI.sl [] rfl)) (fun _=>r_mv hA rfl) fun a hA=>?_
        refine gE 1 hA rfl (.inr (hI.sl [] rfl)) (fun _=>r_nilc hA rfl) fun a hA=>?_
        refine gE 2 hA rfl (.inr (hI.sl [] rfl)) (fun _=>r_fd (k:=0+1) U122 rfl sz35 hA rfl rfl) fun a hA=>?_
        refine gT 3 hA rfl (hI.sl [] rfl) (fun w hI=>r_ldm1 [[.int .i64 x0.err.pos]] [] U35 rfl hI.agr hat2 hA rfl rfl) fun a hA=>?_
        refine gE 5 hA rfl (.inr (hI.sl [] rfl)) (fun _=>r_mv hA rfl) fun a hA=>?_
        refine gE 6 hA rfl (.inr (hI.sl [] rfl)) (fun _=>r_nilc hA rfl) fun a hA=>?_
        refine gE 7 hA rfl (.inr (hI.sl [] rfl)) (fun _=>r_fd (k:=0) U122 rfl sz3 hA rfl rfl) fun a hA=>?_
        refine gT 8 hA rfl (hI.sl [] rfl) (fun w hI=>r_ldm1 [] [[v2]] U3 rfl hI.agr hat2 hA rfl rfl) fun a hA=>?_
        refine gE 10 hA rfl (.inr (hI.sl [] rfl)) (fun _=>r_mv hA rfl) fun a hA=>?_
        refine gE 11 hA rfl (.inr (hI.sl [] rfl)) (fun _=>r_nilc hA rfl) fun a hA=>?_
        refine gE 12 hA rfl (.inr (hI.sl [] rfl)) (fun _=>r_fd (k:=0) U122 rfl sz3 hA rfl rfl) fun a hA=>?_
        refine gT 13 hA rfl (hI.sl [] rfl) (fun w hI=>r_ldm1 [] [[v1]] U3 rfl hI.agr hat1 hA rfl rfl) fun a hA=>?_
        refine gF 4 rfl ?_
        obtain ⟨r8,hr8,H⟩:=bB H
        refine o_callp (u:=.int .i64 r8) cf89 hA rfl hI (q2_sentinel.c μ _ hI.agr x0.err.err v2 hE2 hG r8 hr8) rfl fun a w hz10 hI hA=>?_
        refine o_nil<|⟨(.inr (hI.sl [] rfl)),?_⟩
        refine gF 9 rfl ?_
        obtain ⟨r9,hr9,H⟩:=bB H
        refine o_callp (u:=.agg [[.int .i64 r9.Code],[.bool r9.Placed],[.int .i64 r9.Pos],[.bool r9.Outer],[.int .i64 r9.At]].flatten.toArray) cf56 hA rfl hI (q0_Placed.c μ _ hI.agr r8 hz10 x0.err.pos hw2 r9 hr9) rfl fun a w hz11 hI hA=>?_
        refine o_nil<|⟨(.inr (hI.sl [] rfl)),?_⟩
        refine gF 14 rfl ?_
        obtain ⟨r10,hr10,H⟩:=bB H
        refine o_callp (u:=.agg [[.int .i64 r10.Code],[.bool r10.Placed],[.int .i64 r10.Pos],[.bool r10.Outer],[.int .i64 r10.At]].flatten.toArray) cf90 hA rfl hI (q0_Around.c μ _ hI.agr r9 ⟨hz11.1,hz11.2.1,hz11.2.2⟩ x0.pos hw1 r10 hr10) rfl fun a w hz12 hI hA=>?_
        refine o_nil<|⟨(.inr (hI.sl [] rfl)),?_⟩
        refine gF 15 rfl ?_
        refine o_st (j:=0) [] [[.int .i64 0],[.bool false],[.int .i64 0],[.bool false],[.int .i64 0]] [[.int .i64 r10.Code],[.bool r10.Placed],[.int .i64 r10.Pos],[.bool r10.Outer],[.int .i64 r10.At]] [] sz53 rfl rfl (fO rfl (fO rfl (fO rfl (fO rfl (fO rfl fl_nil))))) hI rfl hA rfl rfl rfl rfl fun w hI=>?_
        refine o_nil<|⟨(.inr (hI.sl [] rfl)),?_⟩
        refine gN<|hN17 _ _<|w_ret ?_
        obtain rfl:=sJ H
        exact retc U53 rfl sz53 rfl hI (j:=0) rfl hA Tryz.results49 rfl ⟨_,rfl,rfl,⟨hz12.1,hz12.2.1,hz12.2.2⟩,hI.forget0⟩
theorem q2_Same.c (μ:Store)(w0:World)(hμ:Agr μ w0)(x0:Er)(u0:Value)(hx0:ErS μ u0 x0)(x1:q0Ft)(hx1:q0FtW μ x1)(hG:Gl μ)(r:Bool)(H:q2_Same.f x0 x1=some r) :
  Calls Tryz.prog 20 [u0,.agg [[.int .i64 x1.Code],[.bool x1.Placed],[.int .i64 x1.Pos],[.bool x1.Outer],[.int .i64 x1.At]].flatten.toArray].toArray w0 (fun e w'=>∃ v,e=.returned v∧v=.bool r∧True∧Iv w0 [] μ μ [] w'):=by
 refine enter Tryz.func20 rfl Tryz.ntmps20 rfl fun a hA=>?_
 have hI:=Iv.start hμ
 have H:=bI H
 refine w_seq fun _ hN1=>w_reg<|o_box [[.int .i64 x1.Code],[.bool x1.Placed],[.int .i64 x1.Pos],[.bool x1.Outer],[.int .i64 x1.At]] hI hA rfl rfl rfl fun g1 a w hA hI hg1 =>
  sta hA rfl rfl fun a hA=>?_
 refine o_nil<|hN1 _ _<|w_seq fun _ hN2=>?_
 refine w_any [] mo hI fun w hI=>?_
 refine gE 0 hA rfl (.inr hI) (fun _=>r_mv hA rfl) fun a hA=>?_
 refine gT 2 hA rfl hI (fun w hI=>r_ldA (j:=0) [] [[.int .i64 x1.Code],[.bool x1.Placed],[.int .i64 x1.Pos],[.bool x1.Outer],[.int .i64 x1.At]] [] U53 rfl sz53 rfl hI rfl hA rfl rfl) fun a hA=>?_
 refine gF 1 rfl ?_
 obtain ⟨r1,hr1,H⟩:=bB H
 refine o_callp (u:=.agg [[.int .i64 r1.Code],[.bool r1.Placed],[.int .i64 r1.Pos],[.bool r1.Outer],[.int .i64 r1.At]].flatten.toArray) cf49 hA rfl hI (q2_Fault.c μ _ hI.agr x0 u0 hx0 hG r1 hr1) rfl fun a w hz1 hI hA=>?_
 refine o_nil<|⟨(.inr hI),?_⟩
 refine gF 3 rfl ?_
 obtain ⟨r2,hr2,H⟩:=bB H
 refine o_callp (u:=.bool r2) cf48 hA rfl hI (q0_SameFault.c μ _ hI.agr r1 ⟨hz1.1,hz1.2.1,hz1.2.2⟩ x1 ⟨hx1.1,hx1.2.1,hx1.2.2⟩ r2 hr2) rfl fun a w hz2 hI hA=>?_
 refine o_nil<|⟨(.inr hI),?_⟩
 refine gE 4 hA rfl (.inr hI) (fun _=>r_as hA rfl) fun a hA=>?_
 refine gN<|hN2 _ _<|w_ret ?_
 obtain rfl:=sJ H
 exact ret1 hA Tryz.results20 rfl ⟨_,rfl,rfl,trivial,hI.forget0⟩
theorem q0_SamePoint.c (μ:Store)(w0:World)(hμ:Agr μ w0)(x0:Point)(hx0:PointW μ x0)(x1:Point)(hx1:PointW μ x1)(r:Bool)(H:q0_SamePoint.f x0 x1=some r) :
  Calls Tryz.prog 96 [.agg [av .u8 32 x0.Tx,[.int .u32 x0.N]].flatten.toArray,.agg [av .u8 32 x1.Tx,[.int .u32 x1.N]].flatten.toArray].toArray w0 (fun e w'=>∃ v,e=.returned v∧v=.bool r∧True∧Iv w0 [] μ μ [] w'):=by
 refine enter Tryz.func96 rfl Tryz.ntmps96 rfl fun a hA=>?_
 have hI:=Iv.start hμ
 have H:=bI H
 refine w_seq fun _ hN1=>w_reg<|o_box [av .u8 32 x0.Tx,[.int .u32 x0.N]] hI hA rfl rfl rfl fun g1 a w hA hI hg1 =>
  o_box [av .u8 32 x1.Tx,[.int .u32 x1.N]] hI hA rfl rfl rfl fun g2 a w hA hI hg2 =>
  sta hA rfl rfl fun a hA=>?_
 refine o_nil<|hN1 _ _ ?_
 obtain ⟨c1,hz1,Hk1⟩:=bB H
 refine w_cut (fun a w=>Fr a 17 [(4,.bool c1)]∧Iv w0 [] μ μ [cel g2 [av .u8 32 x1.Tx,[.int .u32 x1.N]] 65,cel g1 [av .u8 32 x0.Tx,[.int .u32 x0.N]] 65] w) ?_ ?_
 ·have H:=bI hz1
  refine w_reg<|stp hA (r_fd (k:=0) U65 rfl sz24 hA rfl rfl) rfl fun a hA =>
   stp hA (r_ldA (j:=1) [] [av .u8 32 x0.Tx] [[.int .u32 x0.N]] U24 rfl sz24 rfl hI rfl hA rfl rfl) rfl fun a hA =>
   stp hA (r_fd (k:=0) U65 rfl sz24 hA rfl rfl) rfl fun a hA =>
   stp hA (r_ldA (j:=0) [] [av .u8 32 x1.Tx] [[.int .u32 x1.N]] U24 rfl sz24 rfl hI rfl hA rfl rfl) rfl fun a hA=>?_
  obtain ⟨r1,hr1,H⟩:=bB H
  refine o_callp (u:=.bool r1) cf12 hA rfl hI (q0_SameHash.c μ _ hI.agr x0.Tx hx0.1 x1.Tx hx1.1 r1 hr1) rfl fun a w hz2 hI hA =>
   stm hA rfl rfl fun a hA=>?_
  rcases Bool.eq_false_or_eq_true r1 with hc1 | hc1
  ·have hc10:=hc1;have H:=bT H hc1
   refine o_yes hA rfl rfl hc10 <|
    stp hA (r_fd (k:=32) U65 rfl sz22 hA rfl rfl) rfl fun a hA =>
    o_yes hA rfl rfl hc10 <|
    stp hA (r_ld1 (j:=1) [av .u8 32 x0.Tx] [] U22 rfl hI rfl hA rfl rfl) rfl fun a hA =>
    o_yes hA rfl rfl hc10 <|
    stp hA (r_fd (k:=32) U65 rfl sz22 hA rfl rfl) rfl fun a hA =>
    o_yes hA rfl rfl hc10 <|
    stp hA (r_ld1 (j:=0) [av .u8 32 x1.Tx] [] U22 rfl hI rfl hA rfl rfl) rfl fun a hA =>
    o_yes hA rfl rfl hc10 <|
    stp hA (r_eql hA rfl rfl) rfl fun a hA =>
    stp hA (r_pick_t hA rfl hc10 rfl) rfl fun a hA =>
    sta hA rfl rfl fun a hA=>?_
   refine o_nil ?_
   cases sJ H
   exact ⟨hA.sub ⟨rfl,trivial⟩,hI⟩
  ·have hc10:=hc1;have hc1:=ft hc1;have H:=bF H hc1
   refine o_no hA rfl rfl (by rw [hc10];simp [vb]) rfl fun a hA =>
    o_no hA rfl rfl (by rw [hc10];simp [vb]) rfl fun a hA =>
    o_no hA rfl rfl (by rw [hc10];simp [vb]) rfl fun a hA =>
    o_no hA rfl rfl (by rw [hc10];simp [vb]) rfl fun a hA =>
    o_no hA rfl rfl (by rw [hc10];simp [vb]) rfl fun a hA =>
    stp hA (r_pick_f hA rfl hc10 rfl) rfl fun a hA =>
    sta hA rfl rfl fun a hA=>?_
   refine o_nil ?_
   cases sJ H
   exact ⟨hA.sub ⟨rfl,trivial⟩,hI⟩
 ·rintro a w ⟨hA,hI⟩
  have H:=Hk1
  refine w_ret ?_
  obtain rfl:=sJ H
  exact ret1 hA Tryz.results96 rfl ⟨_,rfl,rfl,trivial,hI.forget0⟩
theorem q0_SameHead.c (μ:Store)(w0:World)(hμ:Agr μ w0)(x0:Head)(hx0:HeadW μ x0)(x1:Head)(hx1:HeadW μ x1)(r:Bool)(H:q0_SameHead.f x0 x1=some r) :
  Calls Tryz.prog 60 [.agg [[.int .u32 x0.Version],av .u8 32 x0.Prev,av .u8 32 x0.Root,[.int .u32 x0.Time],[.int .u32 x0.Work],[.int .u32 x0.Nonce]].flatten.toArray,.agg [[.int .u32 x1.Version],av .u8 32 x1.Prev,av .u8 32 x1.Root,[.int .u32 x1.Time],[.int .u32 x1.Work],[.int .u32 x1.Nonce]].flatten.toArray].toArray w0 (fun e w'=>∃ v,e=.returned v∧v=.bool r∧True∧Iv w0 [] μ μ [] w'):=by
 refine enter Tryz.func60 rfl Tryz.ntmps60 rfl fun a hA=>?_
 have hI:=Iv.start hμ
 have H:=bI H
 refine w_seq fun _ hN1=>w_reg<|o_box [[.int .u32 x0.Version],av .u8 32 x0.Prev,av .u8 32 x0.Root,[.int .u32 x0.Time],[.int .u32 x0.Work],[.int .u32 x0.Nonce]] hI hA rfl rfl rfl fun g1 a w hA hI hg1 =>
  o_box [[.int .u32 x1.Version],av .u8 32 x1.Prev,av .u8 32 x1.Root,[.int .u32 x1.Time],[.int .u32 x1.Work],[.int .u32 x1.Nonce]] hI hA rfl rfl rfl fun g2 a w hA hI hg2 =>
  sta hA rfl rfl fun a hA=>?_
 refine o_nil<|hN1 _ _ ?_
 obtain ⟨c1,hz1,Hk1⟩:=bB H
 refine w_cut (fun a w=>Fr a 45 [(4,.bool c1)]∧Iv w0 [] μ μ [cel g2 [[.int .u32 x1.Version],av .u8 32 x1.Prev,av .u8 32 x1.Root,[.int .u32 x1.Time],[.int .u32 x1.Work],[.int .u32 x1.Nonce]] 26,cel g1 [[.int .u32 x0.Version],av .u8 32 x0.Prev,av .u8 32 x0.Root,[.int .u32 x0.Time],[.int .u32 x0.Work],[.int .u32 x0.Nonce]] 26] w) ?_ ?_
 ·have H:=bI hz1
  refine w_reg<|stp hA (r_fd (k:=0) U26 rfl sz22 hA rfl rfl) rfl fun a hA =>
   stp hA (r_ld1 (j:=1) [] [av .u8 32 x0.Prev,av .u8 32 x0.Root,[.int .u32 x0.Time],[.int .u32 x0.Work],[.int .u32 x0.Nonce]] U22 rfl hI rfl hA rfl rfl) rfl fun a hA =>
   stp hA (r_fd (k:=0) U26 rfl sz22 hA rfl rfl) rfl fun a hA =>
   stp hA (r_ld1 (j:=0) [] [av .u8 32 x1.Prev,av .u8 32 x1.Root,[.int .u32 x1.Time],[.int .u32 x1.Work],[.int .u32 x1.Nonce]] U22 rfl hI rfl hA rfl rfl) rfl fun a hA =>
   stp hA (r_eql hA rfl rfl) rfl fun a hA =>
   stm hA rfl rfl fun a hA=>?_
  rcases Bool.eq_false_or_eq_true (decide (x0.Version=x1.Version)) with hc1 | hc1
  ·have hc10:=hc1;obtain ⟨hc1,H⟩:=dT H hc1
   refine o_yes hA rfl rfl hc10 <|
    stp hA (r_fd (k:=1) U26 rfl sz24 hA rfl rfl) rfl fun a hA =>
    o_yes hA rfl rfl hc10 <|
    stp hA (r_ldA (j:=1) [[.int .u32 x0.Version]] [av .u8 32 x0.Prev] [av .u8 32 x0.Root,[.int .u32 x0.Time],[.int .u32 x0.Work],[.int .u32 x0.Nonce]] U24 rfl sz24 rfl hI rfl hA rfl rfl) rfl fun a hA =>
    o_yes hA rfl rfl hc10 <|
    stp hA (r_fd (k:=1) U26 rfl sz24 hA rfl rfl) rfl fun a hA =>
    o_yes hA rfl rfl hc10 <|
    stp hA (r_ldA (j:=0) [[.int .u32 x1.Version]] [av .u8 32 x1.Prev] [av .u8 32 x1.Root,[.int .u32 x1.Time],[.int .u32 x1.Work],[.int .u32 x1.Nonce]] U24 rfl sz24 rfl hI rfl hA rfl rfl) rfl fun a hA =>
    o_yes hA rfl rfl hc10<|?_
   obtain ⟨r1,hr1,H⟩:=bB H
   refine o_callp (u:=.bool r1) cf12 hA rfl hI (q0_SameHash.c μ _ hI.agr x0.Prev hx0.2.1 x1.Prev hx1.2.1 r1 hr1) rfl fun a w hz2 hI hA =>
    stp hA (r_pick_t hA rfl hc10 rfl) rfl fun a hA =>
    stm hA rfl rfl fun a hA=>?_
   rcases Bool.eq_false_or_eq_true r1 with hc2 | hc2
   ·have hc20:=hc2;have H:=bT H hc2
    refine o_yes hA rfl rfl hc20 <|
     stp hA (r_fd (k:=33) U26 rfl sz24 hA rfl rfl) rfl fun a hA =>
     o_yes hA rfl rfl hc20 <|
     stp hA (r_ldA (j:=1) [[.int .u32 x0.Version],av .u8 32 x0.Prev] [av .u8 32 x0.Root] [[.int .u32 x0.Time],[.int .u32 x0.Work],[.int .u32 x0.Nonce]] U24 rfl sz24 rfl hI rfl hA rfl rfl) rfl fun a hA =>
     o_yes hA rfl rfl hc20 <|
     stp hA (r_fd (k:=33) U26 rfl sz24 hA rfl rfl) rfl fun a hA =>
     o_yes hA rfl rfl hc20 <|
     stp hA (r_ldA (j:=0) [[.int .u32 x1.Version],av .u8 32 x1.Prev] [av .u8 32 x1.Root] [[.int .u32 x1.Time],[.int .u32 x1.Work],[.int .u32 x1.Nonce]] U24 rfl sz24 rfl hI rfl hA rfl rfl) rfl fun a hA =>
     o_yes hA rfl rfl hc20<|?_
    obtain ⟨r2,hr2,H⟩:=bB H
    refine o_callp (u:=.bool r2) cf12 hA rfl hI (q0_SameHash.c μ _ hI.agr x0.Root hx0.2.2.1 x1.Root hx1.2.2.1 r2 hr2) rfl fun a w hz3 hI hA =>
     stp hA (r_pick_t hA rfl hc20 rfl) rfl fun a hA =>
     stm hA rfl rfl fun a hA=>?_
    rcases Bool.eq_false_or_eq_true r2 with hc3 | hc3
    ·have hc30:=hc3;have H:=bT H hc3
     refine o_yes hA rfl rfl hc30 <|
      stp hA (r_fd (k:=65) U26 rfl sz22 hA rfl rfl) rfl fun a hA =>
      o_yes hA rfl rfl hc30 <|
      stp hA (r_ld1 (j:=1) [[.int .u32 x0.Version],av .u8 32 x0.Prev,av .u8 32 x0.Root] [[.int .u32 x0.Work],[.int .u32 x0.Nonce]] U22 rfl hI rfl hA rfl rfl) rfl fun a hA =>
      o_yes hA rfl rfl hc30 <|
      stp hA (r_fd (k:=65) U26 rfl sz22 hA rfl rfl) rfl fun a hA =>
      o_yes hA rfl rfl hc30 <|
      stp hA (r_ld1 (j:=0) [[.int .u32 x1.Version],av .u8 32 x1.Prev,av .u8 32 x1.Root] [[.int .u32 x1.Work],[.int .u32 x1.Nonce]] U22 rfl hI rfl hA rfl rfl) rfl fun a hA =>
      o_yes hA rfl rfl hc30 <|
      stp hA (r_eql hA rfl rfl) rfl fun a hA =>
      stp hA (r_pick_t hA rfl hc30 rfl) rfl fun a hA =>
      stm hA rfl rfl fun a hA=>?_
     rcases Bool.eq_false_or_eq_true (decide (x0.Time=x1.Time)) with hc4 | hc4
     ·have hc40:=hc4;obtain ⟨hc4,H⟩:=dT H hc4
      refine o_yes hA rfl rfl hc40 <|
       stp hA (r_fd (k:=66) U26 rfl sz22 hA rfl rfl) rfl fun a hA =>
       o_yes hA rfl rfl hc40 <|
       stp hA (r_ld1 (j:=1) [[.int .u32 x0.Version],av .u8 32 x0.Prev,av .u8 32 x0.Root,[.int .u32 x0.Time]] [[.int .u32 x0.Nonce]] U22 rfl hI rfl hA rfl rfl) rfl fun a hA =>
       o_yes hA rfl rfl hc40 <|
       stp hA (r_fd (k:=66) U26 rfl sz22 hA rfl rfl) rfl fun a hA =>
       o_yes hA rfl rfl hc40 <|
       stp hA (r_ld1 (j:=0) [[.int .u32 x1.Version],av .u8 32 x1.Prev,av .u8 32 x1.Root,[.int .u32 x1.Time]] [[.int .u32 x1.Nonce]] U22 rfl hI rfl hA rfl rfl) rfl fun a hA =>
       o_yes hA rfl rfl hc40 <|
       stp hA (r_eql hA rfl rfl) rfl fun a hA =>
       stp hA (r_pick_t hA rfl hc40 rfl) rfl fun a hA =>
       stm hA rfl rfl fun a hA=>?_
      rcases Bool.eq_false_or_eq_true (decide (x0.Work=x1.Work)) with hc5 | hc5
      ·have hc50:=hc5;obtain ⟨hc5,H⟩:=dT H hc5
       refine o_yes hA rfl rfl hc50 <|
        stp hA (r_fd (k:=67) U26 rfl sz22 hA rfl rfl) rfl fun a hA =>
        o_yes hA rfl rfl hc50 <|
        stp hA (r_ld1 (j:=1) [[.int .u32 x0.Version],av .u8 32 x0.Prev,av .u8 32 x0.Root,[.int .u32 x0.Time],[.int .u32 x0.Work]] [] U22 rfl hI rfl hA rfl rfl) rfl fun a hA =>
        o_yes hA rfl rfl hc50 <|
        stp hA (r_fd (k:=67) U26 rfl sz22 hA rfl rfl) rfl fun a hA =>
        o_yes hA rfl rfl hc50 <|
        stp hA (r_ld1 (j:=0) [[.int .u32 x1.Version],av .u8 32 x1.Prev,av .u8 32 x1.Root,[.int .u32 x1.Time],[.int .u32 x1.Work]] [] U22 rfl hI rfl hA rfl rfl) rfl fun a hA =>
        o_yes hA rfl rfl hc50 <|
        stp hA (r_eql hA rfl rfl) rfl fun a hA =>
        stp hA (r_pick_t hA rfl hc50 rfl) rfl fun a hA =>
        sta hA rfl rfl fun a hA=>?_
       refine o_nil ?_
       cases sJ H
       exact ⟨hA.sub ⟨rfl,trivial⟩,hI⟩
      ·have hc50:=hc5;obtain ⟨hc5,H⟩:=dF H hc5
       refine o_no hA rfl rfl (by rw [hc50];simp [vb]) rfl fun a hA =>
        o_no hA rfl rfl (by rw [hc50];simp [vb]) rfl fun a hA =>
        o_no hA rfl rfl (by rw [hc50];simp [vb]) rfl fun a hA =>
        o_no hA rfl rfl (by rw [hc50];simp [vb]) rfl fun a hA =>
        o_no hA rfl rfl (by rw [hc50];simp [vb]) rfl fun a hA =>
        stp hA (r_pick_f hA rfl hc50 rfl) rfl fun a hA =>
        sta hA rfl rfl fun a hA=>?_
       refine o_nil ?_
       cases sJ H
       exact ⟨hA.sub ⟨rfl,trivial⟩,hI⟩
     ·have hc40:=hc4;obtain ⟨hc4,H⟩:=dF H hc4
      refine o_no hA rfl rfl (by rw [hc40];simp [vb]) rfl fun a hA =>
       o_no hA rfl rfl (by rw [hc40];simp [vb]) rfl fun a hA =>
       o_no hA rfl rfl (by rw [hc40];simp [vb]) rfl fun a hA =>
       o_no hA rfl rfl (by rw [hc40];simp [vb]) rfl fun a hA =>
       o_no hA rfl rfl (by rw [hc40];simp [vb]) rfl fun a hA =>
       stp hA (r_pick_f hA rfl hc40 rfl) rfl fun a hA =>
       stm hA rfl rfl fun a hA =>
       o_no hA rfl rfl (by simp [vb]) rfl fun a hA =>
       o_no hA rfl rfl (by simp [vb]) rfl fun a hA =>
       o_no hA rfl rfl (by simp [vb]) rfl fun a hA =>
       o_no hA rfl rfl (by simp [vb]) rfl fun a hA =>
       o_no hA rfl rfl (by simp [vb]) rfl fun a hA =>
       stp hA (r_pick_f hA rfl rfl rfl) rfl fun a hA =>
       sta hA rfl rfl fun a hA=>?_
      refine o_nil ?_
      cases sJ H
      exact ⟨hA.sub ⟨rfl,trivial⟩,hI⟩
    ·have hc30:=hc3;have hc3:=ft hc3;have H:=bF H hc3
     refine o_no hA rfl rfl (by rw [hc30];simp [vb]) rfl fun a hA =>
      o_no hA rfl rfl (by rw [hc30];simp [vb]) rfl fun a hA =>
      o_no hA rfl rfl (by rw [hc30];simp [vb]) rfl fun a hA =>
      o_no hA rfl rfl (by rw [hc30];simp [vb]) rfl fun a hA =>
      o_no hA rfl rfl (by rw [hc30];simp [vb]) rfl fun a hA =>
      stp hA (r_pick_f hA rfl hc30 rfl) rfl fun a hA =>
      stm hA rfl rfl fun a hA =>
      o_no hA rfl rfl (by simp [vb]) rfl fun a hA =>
      o_no hA rfl rfl (by simp [vb]) rfl fun a hA =>
      o_no hA rfl rfl (by simp [vb]) rfl fun a hA =>
      o_no hA rfl rfl (by simp [vb]) rfl fun a hA =>
      o_no hA rfl rfl (by simp [vb]) rfl fun a hA =>
      stp hA (r_pick_f hA rfl rfl rfl) rfl fun a hA =>
      stm hA rfl rfl fun a hA =>
      o_no hA rfl rfl (by simp [vb]) rfl fun a hA =>
      o_no hA rfl rfl (by simp [vb]) rfl fun a hA =>
      o_no hA rfl rfl (by simp [vb]) rfl fun a hA =>
      o_no hA rfl rfl (by simp [vb]) rfl fun a hA =>
      o_no hA rfl rfl (by simp [vb]) rfl fun a hA =>
      stp hA (r_pick_f hA rfl rfl rfl) rfl fun a hA =>
      sta hA rfl rfl fun a hA=>?_
     refine o_nil ?_
     cases sJ H
     exact ⟨hA.sub ⟨rfl,trivial⟩,hI⟩
   ·have hc20:=hc2;have hc2:=ft hc2;have H:=bF H hc2
    refine o_no hA rfl rfl (by rw [hc20];simp [vb]) rfl fun a hA =>
     o_no hA rfl rfl (by rw [hc20];simp [vb]) rfl fun a hA =>
     o_no hA rfl rfl (by rw [hc20];simp [vb]) rfl fun a hA =>
     o_no hA rfl rfl (by rw [hc20];simp [vb]) rfl fun a hA =>
     o_no hA rfl rfl (by rw [hc20];simp [vb]) rfl fun a hA =>
     stp hA (r_pick_f hA rfl hc20 rfl) rfl fun a hA =>
     stm hA rfl rfl fun a hA =>
     o_no hA rfl rfl (by simp [vb]) rfl fun a hA =>
     o_no hA rfl rfl (by simp [vb]) rfl fun a hA =>
     o_no hA rfl rfl (by simp [vb]) rfl fun a hA =>
     o_no hA rfl rfl (by simp [vb]) rfl fun a hA =>
     o_no hA rfl rfl (by simp [vb]) rfl fun a hA =>
     stp hA (r_pick_f hA rfl rfl rfl) rfl fun a hA =>
     stm hA rfl rfl fun a hA =>
     o_no hA rfl rfl (by simp [vb]) rfl fun a hA =>
     o_no hA rfl rfl (by simp [vb]) rfl fun a hA =>
     o_no hA rfl rfl (by simp [vb]) rfl fun a hA =>
     o_no hA rfl rfl (by simp [vb]) rfl fun a hA =>
     o_no hA rfl rfl (by simp [vb]) rfl fun a hA =>
     stp hA (r_pick_f hA rfl rfl rfl) rfl fun a hA =>
     stm hA rfl rfl fun a hA =>
     o_no hA rfl rfl (by simp [vb]) rfl fun a hA =>
     o_no hA rfl rfl (by simp [vb]) rfl fun a hA =>
     o_no hA rfl rfl (by simp [vb]) rfl fun a hA =>
     o_no hA rfl rfl (by simp [vb]) rfl fun a hA =>
     o_no hA rfl rfl (by simp [vb]) rfl fun a hA =>
     stp hA (r_pick_f hA rfl rfl rfl) rfl fun a hA =>
     sta hA rfl rfl fun a hA=>?_
    refine o_nil ?_
    cases sJ H
    exact ⟨hA.sub ⟨rfl,trivial⟩,hI⟩
  ·have hc10:=hc1;obtain ⟨hc1,H⟩:=dF H hc1
   refine o_no hA rfl rfl (by rw [hc10];simp [vb]) rfl fun a hA =>
    o_no hA rfl rfl (by rw [hc10];simp [vb]) rfl fun a hA =>
    o_no hA rfl rfl (by rw [hc10];simp [vb]) rfl fun a hA =>
    o_no hA rfl rfl (by rw [hc10];simp [vb]) rfl fun a hA =>
    o_no hA rfl rfl (by rw [hc10];simp [vb]) rfl fun a hA =>
    stp hA (r_pick_f hA rfl hc10 rfl) rfl fun a hA =>
    stm hA rfl rfl fun a hA =>
    o_no hA rfl rfl (by simp [vb]) rfl fun a hA =>
    o_no hA rfl rfl (by simp [vb]) rfl fun a hA =>
    o_no hA rfl rfl (by simp [vb]) rfl fun a hA =>
    o_no hA rfl rfl (by simp [vb]) rfl fun a hA =>
    o_no hA rfl rfl (by simp [vb]) rfl fun a hA =>
    stp hA (r_pick_f hA rfl rfl rfl) rfl fun a hA =>
    stm hA rfl rfl fun a hA =>
    o_no hA rfl rfl (by simp [vb]) rfl fun a hA =>
    o_no hA rfl rfl (by simp [vb]) rfl fun a hA =>
    o_no hA rfl rfl (by simp [vb]) rfl fun a hA =>
    o_no hA rfl rfl (by simp [vb]) rfl fun a hA =>
    o_no hA rfl rfl (by simp [vb]) rfl fun a hA =>
    stp hA (r_pick_f hA rfl rfl rfl) rfl fun a hA =>
    stm hA rfl rfl fun a hA =>
    o_no hA rfl rfl (by simp [vb]) rfl fun a hA =>
    o_no hA rfl rfl (by simp [vb]) rfl fun a hA =>
    o_no hA rfl rfl (by simp [vb]) rfl fun a hA =>
    o_no hA rfl rfl (by simp [vb]) rfl fun a hA =>
    o_no hA rfl rfl (by simp [vb]) rfl fun a hA =>
    stp hA (r_pick_f hA rfl rfl rfl) rfl fun a hA =>
    stm hA rfl rfl fun a hA =>
    o_no hA rfl rfl (by simp [vb]) rfl fun a hA =>
    o_no hA rfl rfl (by simp [vb]) rfl fun a hA =>
    o_no hA rfl rfl (by simp [vb]) rfl fun a hA =>
    o_no hA rfl rfl (by simp [vb]) rfl fun a hA =>
    o_no hA rfl rfl (by simp [vb]) rfl fun a hA =>
    stp hA (r_pick_f hA rfl rfl rfl) rfl fun a hA =>
    sta hA rfl rfl fun a hA=>?_
   refine o_nil ?_
   cases sJ H
   exact ⟨hA.sub ⟨rfl,trivial⟩,hI⟩
 ·rintro a w ⟨hA,hI⟩
  have H:=Hk1
  refine w_ret ?_
  obtain rfl:=sJ H
  exact ret1 hA Tryz.results60 rfl ⟨_,rfl,rfl,trivial,hI.forget0⟩
theorem q0_SameIn.c (μ:Store)(w0:World)(hμ:Agr μ w0)(x0:In)(u0_0:Value)(hx0:InW μ x0 u0_0)(x1:In)(u1_0:Value)(hx1:InW μ x1 u1_0)(r:Bool)(H:q0_SameIn.f x0 x1=some r) :
  Calls Tryz.prog 119 [.agg [av .u8 32 x0.From.Tx,[.int .u32 x0.From.N],[u0_0],[.int .u32 x0.Seq]].flatten.toArray,.agg [av .u8 32 x1.From.Tx,[.int .u32 x1.From.N],[u1_0],[.int .u32 x1.Seq]].flatten.toArray].toArray w0 (fun e w'=>∃ v,e=.returned v∧v=.bool r∧True∧Iv w0 [] μ μ [] w'):=by
 refine enter Tryz.func119 rfl Tryz.ntmps119 rfl fun a hA=>?_
 have hI:=Iv.start hμ
 have H:=bI H
 refine w_seq fun _ hN1=>w_reg<|o_box [av .u8 32 x0.From.Tx,[.int .u32 x0.From.N],[u0_0],[.int .u32 x0.Seq]] hI hA rfl rfl rfl fun g1 a w hA hI hg1 =>
  o_box [av .u8 32 x1.From.Tx,[.int .u32 x1.From.N],[u1_0],[.int .u32 x1.Seq]] hI hA rfl rfl rfl fun g2 a w hA hI hg2 =>
  sta hA rfl rfl fun a hA=>?_
 refine o_nil<|hN1 _ _ ?_
 obtain ⟨c1,hz1,Hk1⟩:=bB H
 refine w_cut (fun a w=>Fr a 24 [(4,.bool c1)]∧Iv w0 [] μ μ [cel g2 [av .u8 32 x1.From.Tx,[.int .u32 x1.From.N],[u1_0],[.int .u32 x1.Seq]] 67,cel g1 [av .u8 32 x0.From.Tx,[.int .u32 x0.From.N],[u0_0],[.int .u32 x0.Seq]] 67] w) ?_ ?_
 ·have H:=bI hz1
  refine w_reg<|stp hA (r_fd (k:=0) U67 rfl sz65 hA rfl rfl) rfl fun a hA =>
   stp hA (r_ldA (j:=1) [] [av .u8 32 x0.From.Tx,[.int .u32 x0.From.N]] [[u0_0],[.int .u32 x0.Seq]] U65 rfl sz65 rfl hI rfl hA rfl rfl) rfl fun a hA =>
   stp hA (r_fd (k:=0) U67 rfl sz65 hA rfl rfl) rfl fun a hA =>
   stp hA (r_ldA (j:=0) [] [av .u8 32 x1.From.Tx,[.int .u32 x1.From.N]] [[u1_0],[.int .u32 x1.Seq]] U65 rfl sz65 rfl hI rfl hA rfl rfl) rfl fun a hA=>?_
  obtain ⟨r1,hr1,H⟩:=bB H
  refine o_callp (u:=.bool r1) cf96 hA rfl hI (q0_SamePoint.c μ _ hI.agr x0.From ⟨hx0.1,hx0.2.1⟩ x1.From ⟨hx1.1,hx1.2.1⟩ r1 hr1) rfl fun a w hz2 hI hA =>
   stm hA rfl rfl fun a hA=>?_
  rcases Bool.eq_false_or_eq_true r1 with hc1 | hc1
  ·have hc10:=hc1;have H:=bT H hc1
   refine o_yes hA rfl rfl hc10 <|
    stp hA (r_fd (k:=33) U67 rfl sz30 hA rfl rfl) rfl fun a hA =>
    o_yes hA rfl rfl hc10 <|
    stp hA (r_ld1 (j:=1) [av .u8 32 x0.From.Tx,[.int .u32 x0.From.N]] [[.int .u32 x0.Seq]] U30 rfl hI rfl hA rfl rfl) rfl fun a hA =>
    o_yes hA rfl rfl hc10 <|
    stp hA (r_fd (k:=33) U67 rfl sz30 hA rfl rfl) rfl fun a hA =>
    o_yes hA rfl rfl hc10 <|
    stp hA (r_ld1 (j:=0) [av .u8 32 x1.From.Tx,[.int .u32 x1.From.N]] [[.int .u32 x1.Seq]] U30 rfl hI rfl hA rfl rfl) rfl fun a hA =>
    o_yes hA rfl rfl hc10<|?_
   obtain ⟨r2,hr2,H⟩:=bB H
   refine o_callp (u:=.bool r2) cf9 hA rfl hI (q0_SameBytes.c μ _ hI.agr x0.Key u0_0 hx0.2.2.1 x1.Key u1_0 hx1.2.2.1 r2 hr2) rfl fun a w hz3 hI hA =>
    stp hA (r_pick_t hA rfl hc10 rfl) rfl fun a hA =>
    stm hA rfl rfl fun a hA=>?_
   rcases Bool.eq_false_or_eq_true r2 with hc2 | hc2
   ·have hc20:=hc2;have H:=bT H hc2
    refine o_yes hA rfl rfl hc20 <|
     stp hA (r_fd (k:=34) U67 rfl sz22 hA rfl rfl) rfl fun a hA =>
     o_yes hA rfl rfl hc20 <|
     stp hA (r_ld1 (j:=1) [av .u8 32 x0.From.Tx,[.int .u32 x0.From.N],[u0_0]] [] U22 rfl hI rfl hA rfl rfl) rfl fun a hA =>
     o_yes hA rfl rfl hc20 <|
     stp hA (r_fd (k:=34) U67 rfl sz22 hA rfl rfl) rfl fun a hA =>
     o_yes hA rfl rfl hc20 <|
     stp hA (r_ld1 (j:=0) [av .u8 32 x1.From.Tx,[.int .u32 x1.From.N],[u1_0]] [] U22 rfl hI rfl hA rfl rfl) rfl fun a hA =>
     o_yes hA rfl rfl hc20 <|
     stp hA (r_eql hA rfl rfl) rfl fun a hA =>
     stp hA (r_pick_t hA rfl hc20 rfl) rfl fun a hA =>
     sta hA rfl rfl fun a hA=>?_
    refine o_nil ?_
    cases sJ H
    exact ⟨hA.sub ⟨rfl,trivial⟩,hI⟩
   ·have hc20:=hc2;have hc2:=ft hc2;have H:=bF H hc2
    refine o_no hA rfl rfl (by rw [hc20];simp [vb]) rfl fun a hA =>
     o_no hA rfl rfl (by rw [hc20];simp [vb]) rfl fun a hA =>
     o_no hA rfl rfl (by rw [hc20];simp [vb]) rfl fun a hA =>
     o_no hA rfl rfl (by rw [hc20];simp [vb]) rfl fun a hA =>
     o_no hA rfl rfl (by rw [hc20];simp [vb]) rfl fun a hA =>
     stp hA (r_pick_f hA rfl hc20 rfl) rfl fun a hA =>
     sta hA rfl rfl fun a hA=>?_
    refine o_nil ?_
    cases sJ H
    exact ⟨hA.sub ⟨rfl,trivial⟩,hI⟩
  ·have hc10:=hc1;have hc1:=ft hc1;have H:=bF H hc1
   refine o_no hA rfl rfl (by rw [hc10];simp [vb]) rfl fun a hA =>
    o_no hA rfl rfl (by rw [hc10];simp [vb]) rfl fun a hA =>
    o_no hA rfl rfl (by rw [hc10];simp [vb]) rfl fun a hA =>
    o_no hA rfl rfl (by rw [hc10];simp [vb]) rfl fun a hA =>
    o_no hA rfl rfl (by rw [hc10];simp [vb]) rfl fun a hA =>
    stp hA (r_pick_f hA rfl hc10 rfl) rfl fun a hA =>
    stm hA rfl rfl fun a hA =>
    o_no hA rfl rfl (by simp [vb]) rfl fun a hA =>
    o_no hA rfl rfl (by simp [vb]) rfl fun a hA =>
    o_no hA rfl rfl (by simp [vb]) rfl fun a hA =>
    o_no hA rfl rfl (by simp [vb]) rfl fun a hA =>
    o_no hA rfl rfl (by simp [vb]) rfl fun a hA =>
    stp hA (r_pick_f hA rfl rfl rfl) rfl fun a hA =>
    sta hA rfl rfl fun a hA=>?_
   refine o_nil ?_
   cases sJ H
   exact ⟨hA.sub ⟨rfl,trivial⟩,hI⟩
 ·rintro a w ⟨hA,hI⟩
  have H:=Hk1
  refine w_ret ?_
  obtain rfl:=sJ H
  exact ret1 hA Tryz.results119 rfl ⟨_,rfl,rfl,trivial,hI.forget0⟩
theorem q0_SameOut.c (μ:Store)(w0:World)(hμ:Agr μ w0)(x0:Out)(hx0:OutW μ x0)(x1:Out)(hx1:OutW μ x1)(r:Bool)(H:q0_SameOut.f x0 x1=some r) :
  Calls Tryz.prog 120 [.agg [[.int .u64 x0.Value],av .u8 32 x0.Lock].flatten.toArray,.agg [[.int .u64 x1.Value],av .u8 32 x1.Lock].flatten.toArray].toArray w0 (fun e w'=>∃ v,e=.returned v∧v=.bool r∧True∧Iv w0 [] μ μ [] w'):=by
 refine enter Tryz.func120 rfl Tryz.ntmps120 rfl fun a hA=>?_
 have hI:=Iv.start hμ
 have H:=bI H
 refine w_seq fun _ hN1=>w_reg<|o_box [[.int .u64 x0.Value],av .u8 32 x0.Lock] hI hA rfl rfl rfl fun g1 a w hA hI hg1 =>
  o_box [[.int .u64 x1.Value],av .u8 32 x1.Lock] hI hA rfl rfl rfl fun g2 a w hA hI hg2 =>
  sta hA rfl rfl fun a hA=>?_
 refine o_nil<|hN1 _ _ ?_
 obtain ⟨c1,hz1,Hk1⟩:=bB H
 refine w_cut (fun a w=>Fr a 17 [(4,.bool c1)]∧Iv w0 [] μ μ [cel g2 [[.int .u64 x1.Value],av .u8 32 x1.Lock] 106,cel g1 [[.int .u64 x0.Value],av .u8 32 x0.Lock] 106] w) ?_ ?_
 ·have H:=bI hz1
  refine w_reg<|stp hA (r_fd (k:=0) U106 rfl sz70 hA rfl rfl) rfl fun a hA =>
   stp hA (r_ld1 (j:=1) [] [av .u8 32 x0.Lock] U70 rfl hI rfl hA rfl rfl) rfl fun a hA =>
   stp hA (r_fd (k:=0) U106 rfl sz70 hA rfl rfl) rfl fun a hA =>
   stp hA (r_ld1 (j:=0) [] [av .u8 32 x1.Lock] U70 rfl hI rfl hA rfl rfl) rfl fun a hA =>
   stp hA (r_eql hA rfl rfl) rfl fun a hA =>
   stm hA rfl rfl fun a hA=>?_
  rcases Bool.eq_false_or_eq_true (decide (x0.Value=x1.Value)) with hc1 | hc1
  ·have hc10:=hc1;obtain ⟨hc1,H⟩:=dT H hc1
   refine o_yes hA rfl rfl hc10 <|
    stp hA (r_fd (k:=1) U106 rfl sz24 hA rfl rfl) rfl fun a hA =>
    o_yes hA rfl rfl hc10 <|
    stp hA (r_ldA (j:=1) [[.int .u64 x0.Value]] [av .u8 32 x0.Lock] [] U24 rfl sz24 rfl hI rfl hA rfl rfl) rfl fun a hA =>
    o_yes hA rfl rfl hc10 <|
    stp hA (r_fd (k:=1) U106 rfl sz24 hA rfl rfl) rfl fun a hA =>
    o_yes hA rfl rfl hc10 <|
    stp hA (r_ldA (j:=0) [[.int .u64 x1.Value]] [av .u8 32 x1.Lock] [] U24 rfl sz24 rfl hI rfl hA rfl rfl) rfl fun a hA =>
    o_yes hA rfl rfl hc10<|?_
   obtain ⟨r1,hr1,H⟩:=bB H
   refine o_callp (u:=.bool r1) cf12 hA rfl hI (q0_SameHash.c μ _ hI.agr x0.Lock hx0.2 x1.Lock hx1.2 r1 hr1) rfl fun a w hz2 hI hA =>
    stp hA (r_pick_t hA rfl hc10 rfl) rfl fun a hA =>
    sta hA rfl rfl fun a hA=>?_
   refine o_nil ?_
   cases sJ H
   exact ⟨hA.sub ⟨rfl,trivial⟩,hI⟩
  ·have hc10:=hc1;obtain ⟨hc1,H⟩:=dF H hc1
   refine o_no hA rfl rfl (by rw [hc10];simp [vb]) rfl fun a hA =>
    o_no hA rfl rfl (by rw [hc10];simp [vb]) rfl fun a hA =>
    o_no hA rfl rfl (by rw [hc10];simp [vb]) rfl fun a hA =>
    o_no hA rfl rfl (by rw [hc10];simp [vb]) rfl fun a hA =>
    o_no hA rfl rfl (by rw [hc10];simp [vb]) rfl fun a hA =>
    stp hA (r_pick_f hA rfl hc10 rfl) rfl fun a hA =>
    sta hA rfl rfl fun a hA=>?_
   refine o_nil ?_
   cases sJ H
   exact ⟨hA.sub ⟨rfl,trivial⟩,hI⟩
 ·rintro a w ⟨hA,hI⟩
  have H:=Hk1
  refine w_ret ?_
  obtain rfl:=sJ H
  exact ret1 hA Tryz.results120 rfl ⟨_,rfl,rfl,trivial,hI.forget0⟩
theorem q0_SameTx.c (μ:Store)(w0:World)(hμ:Agr μ w0)(x0:Tx)(u0_0 u0_1:Value)(hx0:TxW μ x0 u0_0 u0_1)(x1:Tx)(u1_0 u1_1:Value)(hx1:TxW μ x1 u1_0 u1_1)(r:Bool)(H:q0_SameTx.f x0 x1=some r) :
  Calls Tryz.prog 98 [.agg [[.int .u32 x0.Version],[u0_0],[u0_1],[.int .u32 x0.Time]].flatten.toArray,.agg [[.int .u32 x1.Version],[u1_0],[u1_1],[.int .u32 x1.Time]].flatten.toArray].toArray w0 (fun e w'=>∃ v,e=.returned v∧v=.bool r∧True∧Iv w0 [] μ μ [] w'):=by
 refine enter Tryz.func98 rfl Tryz.ntmps98 rfl fun a hA=>?_
 have hI:=Iv.start hμ
 have H:=bI H
 refine w_seq fun _ hN1=>w_reg<|o_box [[.int .u32 x0.Version],[u0_0],[u0_1],[.int .u32 x0.Time]] hI hA rfl rfl rfl fun g1 a w hA hI hg1 =>
  o_box [[.int .u32 x1.Version],[u1_0],[u1_1],[.int .u32 x1.Time]] hI hA rfl rfl rfl fun g2 a w hA hI hg2 =>
  sta hA rfl rfl fun a hA=>?_
 refine o_nil<|hN1 _ _<|w_seq fun _ hN2=>?_
 obtain ⟨c1,hz1,Hk1⟩:=bB H
 refine w_cut (fun a w=>Fr a 75 [(2,pt g1 0),(3,pt g2 0),(4,.bool false),(36,.bool c1)]∧Iv w0 [] μ μ [cel g2 [[.int .u32 x1.Version],[u1_0],[u1_1],[.int .u32 x1.Time]] 63,cel g1 [[.int .u32 x0.Version],[u0_0],[u0_1],[.int .u32 x0.Time]] 63] w) ?_ ?_
 ·have H:=bI hz1
  refine w_reg<|stp hA (r_fd (k:=0) U63 rfl sz22 hA rfl rfl) rfl fun a hA =>
   stp hA (r_ld1 (j:=1) [] [[u0_0],[u0_1],[.int .u32 x0.Time]] U22 rfl hI rfl hA rfl rfl) rfl fun a hA =>
   stp hA (r_fd (k:=0) U63 rfl sz22 hA rfl rfl) rfl fun a hA =>
   stp hA (r_ld1 (j:=0) [] [[u1_0],[u1_1],[.int .u32 x1.Time]] U22 rfl hI rfl hA rfl rfl) rfl fun a hA =>
   stp hA (r_neq hA rfl rfl) rfl fun a hA =>
   stm hA rfl rfl fun a hA=>?_
  rcases Bool.eq_false_or_eq_true (decide (x0.Version≠x1.Version)) with hc1 | hc1
  ·have hc10:=hc1;obtain ⟨hc1,H⟩:=dT H hc1
   refine o_no hA rfl rfl (by rw [hc10];simp [vb]) rfl fun a hA =>
    o_no hA rfl rfl (by rw [hc10];simp [vb]) rfl fun a hA =>
    o_no hA rfl rfl (by rw [hc10];simp [vb]) rfl fun a hA =>
    o_no hA rfl rfl (by rw [hc10];simp [vb]) rfl fun a hA =>
    o_no hA rfl rfl (by rw [hc10];simp [vb]) rfl fun a hA =>
    stp hA (r_pick_t hA rfl hc10 rfl) rfl fun a hA =>
    stm hA rfl rfl fun a hA =>
    o_no hA rfl rfl (by simp [vb]) rfl fun a hA =>
    o_no hA rfl rfl (by simp [vb]) rfl fun a hA =>
    o_no hA rfl rfl (by simp [vb]) rfl fun a hA =>
    o_no hA rfl rfl (by simp [vb]) rfl fun a hA =>
    o_no hA rfl rfl (by simp [vb]) rfl fun a hA =>
    o_no hA rfl rfl (by simp [vb]) rfl fun a hA =>
    o_no hA rfl rfl (by simp [vb]) rfl fun a hA =>
    stp hA (r_pick_t hA rfl rfl rfl) rfl fun a hA =>
    stm hA rfl rfl fun a hA =>
    o_no hA rfl rfl (by simp [vb]) rfl fun a hA =>
    o_no hA rfl rfl (by simp [vb]) rfl fun a hA =>
    o_no hA rfl rfl (by simp [vb]) rfl fun a hA =>
    o_no hA rfl rfl (by simp [vb]) rfl fun a hA =>
    o_no hA rfl rfl (by simp [vb]) rfl fun a hA =>
    o_no hA rfl rfl (by simp [vb]) rfl fun a hA =>
    o_no hA rfl rfl (by simp [vb]) rfl fun a hA =>
    stp hA (r_pick_t hA rfl rfl rfl) rfl fun a hA=>?_
   refine o_nil ?_
   cases sJ H
   exact ⟨hA.sub ⟨rfl,rfl,rfl,rfl,trivial⟩,hI⟩
  ·have hc10:=hc1;obtain ⟨hc1,H⟩:=dF H hc1
   refine o_yes hA rfl rfl hc10 <|
    stp hA (r_fd (k:=3) U63 rfl sz22 hA rfl rfl) rfl fun a hA =>
    o_yes hA rfl rfl hc10 <|
    stp hA (r_ld1 (j:=1) [[.int .u32 x0.Version],[u0_0],[u0_1]] [] U22 rfl hI rfl hA rfl rfl) rfl fun a hA =>
    o_yes hA rfl rfl hc10 <|
    stp hA (r_fd (k:=3) U63 rfl sz22 hA rfl rfl) rfl fun a hA =>
    o_yes hA rfl rfl hc10 <|
    stp hA (r_ld1 (j:=0) [[.int .u32 x1.Version],[u1_0],[u1_1]] [] U22 rfl hI rfl hA rfl rfl) rfl fun a hA =>
    o_yes hA rfl rfl hc10 <|
    stp hA (r_neq hA rfl rfl) rfl fun a hA =>
    stp hA (r_pick_f hA rfl hc10 rfl) rfl fun a hA =>
    stm hA rfl rfl fun a hA=>?_
   rcases Bool.eq_false_or_eq_true (decide (x0.Time≠x1.Time)) with hc2 | hc2
   ·have hc20:=hc2;obtain ⟨hc2,H⟩:=dT H hc2
    refine o_no hA rfl rfl (by rw [hc20];simp [vb]) rfl fun a hA =>
     o_no hA rfl rfl (by rw [hc20];simp [vb]) rfl fun a hA =>
     o_no hA rfl rfl (by rw [hc20];simp [vb]) rfl fun a hA =>
     o_no hA rfl rfl (by rw [hc20];simp [vb]) rfl fun a hA =>
     o_no hA rfl rfl (by rw [hc20];simp [vb]) rfl fun a hA =>
     o_no hA rfl rfl (by rw [hc20];simp [vb]) rfl fun a hA =>
     o_no hA rfl rfl (by rw [hc20];simp [vb]) rfl fun a hA =>
     stp hA (r_pick_t hA rfl hc20 rfl) rfl fun a hA =>
     stm hA rfl rfl fun a hA =>
     o_no hA rfl rfl (by simp [vb]) rfl fun a hA =>
     o_no hA rfl rfl (by simp [vb]) rfl fun a hA =>
     o_no hA rfl rfl (by simp [vb]) rfl fun a hA =>
     o_no hA rfl rfl (by simp [vb]) rfl fun a hA =>
     o_no hA rfl rfl (by simp [vb]) rfl fun a hA =>
     o_no hA rfl rfl (by simp [vb]) rfl fun a hA =>
     o_no hA rfl rfl (by simp [vb]) rfl fun a hA =>
     stp hA (r_pick_t hA rfl rfl rfl) rfl fun a hA=>?_
    refine o_nil ?_
    cases sJ H
    exact ⟨hA.sub ⟨rfl,rfl,rfl,rfl,trivial⟩,hI⟩
   ·have hc20:=hc2;obtain ⟨hc2,H⟩:=dF H hc2
    refine o_yes hA rfl rfl hc20 <|
     stp hA (r_fd (k:=1) U63 rfl sz60 hA rfl rfl) rfl fun a hA =>
     o_yes hA rfl rfl hc20 <|
     stp hA (r_ld1 (j:=1) [[.int .u32 x0.Version]] [[u0_1],[.int .u32 x0.Time]] U60 rfl hI rfl hA rfl rfl) rfl fun a hA =>
     o_yes hA rfl rfl hc20<|?_
    obtain ⟨_,hsl1⟩:=Slc.sv hx0.2.1
    refine stp hA (r_slen U60 hsl1 hA rfl) rfl fun a hA =>
     o_yes hA rfl rfl hc20 <|
     stp hA (r_fd (k:=1) U63 rfl sz60 hA rfl rfl) rfl fun a hA =>
     o_yes hA rfl rfl hc20 <|
     stp hA (r_ld1 (j:=0) [[.int .u32 x1.Version]] [[u1_1],[.int .u32 x1.Time]] U60 rfl hI rfl hA rfl rfl) rfl fun a hA =>
     o_yes hA rfl rfl hc20<|?_
    obtain ⟨_,hsl2⟩:=Slc.sv hx1.2.1
    refine stp hA (r_slen U60 hsl2 hA rfl) rfl fun a hA =>
     o_yes hA rfl rfl hc20 <|
     stp hA (r_neq hA rfl rfl) rfl fun a hA =>
     stp hA (r_pick_f hA rfl hc20 rfl) rfl fun a hA =>
     stm hA rfl rfl fun a hA=>?_
    rcases Bool.eq_false_or_eq_true (decide ((x0.Ins.length:Int)≠(x1.Ins.length:Int))) with hc3 | hc3
    ·have hc30:=hc3;obtain ⟨hc3,H⟩:=dT H hc3
     refine o_no hA rfl rfl (by rw [hc30];simp [vb]) rfl fun a hA =>
      o_no hA rfl rfl (by rw [hc30];simp [vb]) rfl fun a hA =>
      o_no hA rfl rfl (by rw [hc30];simp [vb]) rfl fun a hA =>
      o_no hA rfl rfl (by rw [hc30];simp [vb]) rfl fun a hA =>
      o_no hA rfl rfl (by rw [hc30];simp [vb]) rfl fun a hA =>
      o_no hA rfl rfl (by rw [hc30];simp [vb]) rfl fun a hA =>
      o_no hA rfl rfl (by rw [hc30];simp [vb]) rfl fun a hA =>
      stp hA (r_pick_t hA rfl hc30 rfl) rfl fun a hA=>?_
     refine o_nil ?_
     cases sJ H
     exact ⟨hA.sub ⟨rfl,rfl,rfl,rfl,trivial⟩,hI⟩
    ·have hc30:=hc3;obtain ⟨hc3,H⟩:=dF H hc3
     refine o_yes hA rfl rfl hc30 <|
      stp hA (r_fd (k:=2) U63 rfl sz61 hA rfl rfl) rfl fun a hA =>
      o_yes hA rfl rfl hc30 <|
      stp hA (r_ld1 (j:=1) [[.int .u32 x0.Version],[u0_0]] [[.int .u32 x0.Time]] U61 rfl hI rfl hA rfl rfl) rfl fun a hA =>
      o_yes hA rfl rfl hc30<|?_
     obtain ⟨_,hsl3⟩:=Slc.sv hx0.2.2.1
     refine stp hA (r_slen U61 hsl3 hA rfl) rfl fun a hA =>
      o_yes hA rfl rfl hc30 <|
      stp hA (r_fd (k:=2) U63 rfl sz61 hA rfl rfl) rfl fun a hA =>
      o_yes hA rfl rfl hc30 <|
      stp hA (r_ld1 (j:=0) [[.int .u32 x1.Version],[u1_0]] [[.int .u32 x1.Time]] U61 rfl hI rfl hA rfl rfl) rfl fun a hA =>
      o_yes hA rfl rfl hc30<|?_
     obtain ⟨_,hsl4⟩:=Slc.sv hx1.2.2.1
     refine stp hA (r_slen U61 hsl4 hA rfl) rfl fun a hA =>
      o_yes hA rfl rfl hc30 <|
      stp hA (r_neq hA rfl rfl) rfl fun a hA =>
      stp hA (r_pick_f hA rfl hc30 rfl) rfl fun a hA=>?_
     refine o_nil ?_
     cases sJ H
     exact ⟨hA.sub ⟨rfl,rfl,rfl,rfl,trivial⟩,hI⟩
 ·rintro a w ⟨hA,hI⟩
  have H:=Hk1
  refine w_cond hA rfl (fun hc4=>?_) (fun hc4=>?_)
  ·have H:=bT H hc4
   refine w_seq fun _ hN3=>w_reg<|sta hA rfl rfl fun a hA=>?_
   refine o_nil<|hN3 _ _<|w_ret ?_
   obtain rfl:=sJ H
   exact ret1 hA Tryz.results98 rfl ⟨_,rfl,rfl,trivial,hI.forget0⟩
  ·have hc4:=ft hc4;have H:=bF H hc4
   refine w_skip<|hN2 _ _<|w_seq fun _ hN4=>w_seq fun _ hN5=>w_reg<|sta hA rfl rfl fun a hA=>?_
   refine o_nil<|hN5 _ _<|w_block ?_
   obtain ⟨z1,hz2,Hk2⟩:=bind_some H
   obtain ⟨n1,hn1⟩:=loopO_some hz2
   refine w_loop (fun n a w=>∃(s1:Int),loopN (q0_SameTx.s0 x0 x1) n s1=some z1∧InR .i64 s1∧Fr a 75 [(2,pt g1 0),(3,pt g2 0),(4,.bool false),(5,.int .i64 s1)]∧Iv w0 [] μ μ [cel g2 [[.int .u32 x1.Version],[u1_0],[u1_1],[.int .u32 x1.Time]] 63,cel g1 [[.int .u32 x0.Version],[u0_0],[u0_1],[.int .u32 x0.Time]] 63] w) n1 ⟨0,hn1,(in_lit .i64 0 rfl),hA.sub ⟨rfl,rfl,rfl,rfl,trivial⟩,hI⟩ ?_
   clear hA hI
   rintro n a w ⟨s1,hn1,ws1,hA,hI⟩
   obtain ⟨m1,rfl,H⟩:=loopN_bind hn1
   clear hn1
   refine w_seq fun _ hN6=>w_seq fun _ hN7=>w_reg<|stm hA rfl rfl fun a hA =>
    stp hA (r_fd (k:=1) U63 rfl sz60 hA rfl rfl) rfl fun a hA =>
    stp hA (r_ld1 (j:=1) [[.int .u32 x0.Version]] [[u0_1],[.int .u32 x0.Time]] U60 rfl hI rfl hA rfl rfl) rfl fun a hA=>?_
   obtain ⟨_,hsl5⟩:=Slc.sv hx0.2.1
   refine stp hA (r_slen U60 hsl5 hA rfl) rfl fun a hA =>
    stp hA (r_lss hA rfl rfl) rfl fun a hA=>?_
   refine o_nil<|hN7 _ _<|w_cond hA rfl (fun hc5=>?_) (fun hc5=>?_)
   ·obtain ⟨hc5,H⟩:=dT H hc5
    refine w_skip<|hN6 _ _<|w_seq fun _ hN8=>w_block<|w_seq fun _ hN9=>?_
    refine w_draw mo (by kernel_rfl) hI ?_
    refine qtp hA (fun _ hI=>r_fd (k:=1) U63 rfl sz60 hA rfl rfl) rfl fun a hA =>
     qtp hA (fun _ hI=>r_ld1 (j:=1) [[.int .u32 x0.Version]] [[u0_1],[.int .u32 x0.Time]] U60 rfl hI rfl hA rfl rfl) rfl fun a hA =>
     qtp hA (fun _ hI=>r_mv hA rfl) rfl fun a hA=>?_
    obtain ⟨hb1,H⟩:=bG H
    obtain ⟨_,he1,_,hat1⟩:=Slc.elem hx0.2.1 (getD_some default hb1.1 hb1.2)
    obtain ⟨v1,rfl,hw1⟩:=he1
    obtain ⟨_,hsl6⟩:=Slc.sv hx0.2.1
    refine qtp hA (fun _ hI=>r_six U60 sz67 hsl6 hA rfl rfl hb1.1 hb1.2) rfl fun a hA =>
     qtp hA (fun _ hI=>r_ldmA [] [av .u8 32 ((x0.Ins.getD s1.toNat default).From.Tx),[.int .u32 ((x0.Ins.getD s1.toNat default).From.N)],[v1],[.int .u32 ((x0.Ins.getD s1.toNat default).Seq)]] [] U67 rfl sz67 rfl hI.agr hat1 hA rfl rfl) rfl fun a hA =>
     qtp hA (fun _ hI=>r_fd (k:=1) U63 rfl sz60 hA rfl rfl) rfl fun a hA =>
     qtp hA (fun _ hI=>r_ld1 (j:=0) [[.int .u32 x1.Version]] [[u1_1],[.int .u32 x1.Time]] U60 rfl hI rfl hA rfl rfl) rfl fun a hA =>
     qtp hA (fun _ hI=>r_mv hA rfl) rfl fun a hA=>?_
    obtain ⟨hb2,H⟩:=bG H
    obtain ⟨_,he2,_,hat2⟩:=Slc.elem hx1.2.1 (getD_some default hb2.1 hb2.2)
    obtain ⟨v2,rfl,hw2⟩:=he2
    obtain ⟨_,hsl7⟩:=Slc.sv hx1.2.1
    refine qtp hA (fun _ hI=>r_six U60 sz67 hsl7 hA rfl rfl hb2.1 hb2.2) rfl fun a hA =>
     qtp hA (fun _ hI=>r_ldmA [] [av .u8 32 ((x1.Ins.getD s1.toNat default).From.Tx),[.int .u32 ((x1.Ins.getD s1.toNat default).From.N)],[v2],[.int .u32 ((x1.Ins.getD s1.toNat default).Seq)]] [] U67 rfl sz67 rfl hI.agr hat2 hA rfl rfl) rfl fun a hA=>?_
    obtain ⟨r1,hr1,H⟩:=bB H
    refine qcall (v:=.bool r1) cf119 hA rfl (fun _ hI=>plq (q0_SameIn.c μ _ hI.agr (x0.Ins.getD s1.toNat default) v1 ⟨hw1.1,hw1.2.1,hw1.2.2.1,hw1.2.2.2⟩ (x1.Ins.getD s1.toNat default) v2 ⟨hw2.1,hw2.2.1,hw2.2.2.1,hw2.2.2.2⟩ r1 hr1) hI) rfl fun a hA =>
     qtp hA (fun _ hI=>r_not hA rfl) rfl fun a hA=>?_
    refine q_nil fun w hI=>?_
    refine hN9 _ _<|w_cond hA rfl (fun hc6=>?_) (fun hc6=>?_)
    ·have hc6:=nT hc6;have hc6:=ft hc6;have H:=bF H hc6
     refine w_seq fun _ hN10=>w_reg<|sta hA rfl rfl fun a hA=>?_
     refine o_nil<|hN10 _ _<|w_ret ?_
     have H:some false=some z1:=H
     obtain rfl:=sI H
     have H:=Hk2
     obtain rfl:=sJ H
     exact ret1 hA Tryz.results98 rfl ⟨_,rfl,rfl,trivial,hI.forget0⟩
    ·have hc6:=nF hc6;have H:=bT H hc6
     refine w_skip<|hN8 _ _<|w_reg<|stm hA rfl rfl fun a hA =>
      stp hA (r_add hA rfl rfl) rfl fun a hA =>
      sta hA rfl rfl fun a hA=>?_
     refine o_nil<|⟨m1,lS _,IntKind.i64.wrap (s1+1),H,(wrap_in _ _),hA.sub ⟨rfl,rfl,rfl,rfl,trivial⟩,hI⟩
   ·obtain ⟨hc5,H⟩:=dF H hc5
    refine w_exit rfl<|hN4 _ _<|w_seq fun _ hN11=>w_seq fun _ hN12=>w_reg<|sta hA rfl rfl fun a hA=>?_
    refine o_nil<|hN12 _ _<|w_block ?_
    obtain ⟨z2,hz4,Hk3⟩:=bind_some H
    obtain ⟨n2,hn2⟩:=loopO_some hz4
    refine w_loop (fun n a w=>∃(s2:Int),loopN (q0_SameTx.s1 x0 x1) n s2=some z2∧InR .i64 s2∧Fr a 75 [(2,pt g1 0),(3,pt g2 0),(4,.bool false),(6,.int .i64 s2)]∧Iv w0 [] μ μ [cel g2 [[.int .u32 x1.Version],[u1_0],[u1_1],[.int .u32 x1.Time]] 63,cel g1 [[.int .u32 x0.Version],[u0_0],[u0_1],[.int .u32 x0.Time]] 63] w) n2 ⟨0,hn2,(in_lit .i64 0 rfl),hA.sub ⟨rfl,rfl,rfl,rfl,trivial⟩,hI⟩ ?_
    clear hA hI
    rintro n a w ⟨s2,hn2,ws2,hA,hI⟩
    obtain ⟨m2,rfl,H⟩:=loopN_bind hn2
    clear hn2
    refine w_seq fun _ hN13=>w_seq fun _ hN14=>w_reg<|stm hA rfl rfl fun a hA =>
     stp hA (r_fd (k:=2) U63 rfl sz61 hA rfl rfl) rfl fun a hA =>
     stp hA (r_ld1 (j:=1) [[.int .u32 x0.Version],[u0_0]] [[.int .u32 x0.Time]] U61 rfl hI rfl hA rfl rfl) rfl fun a hA=>?_
    obtain ⟨_,hsl8⟩:=Slc.sv hx0.2.2.1
    refine stp hA (r_slen U61 hsl8 hA rfl) rfl fun a hA =>
     stp hA (r_lss hA rfl rfl) rfl fun a hA=>?_
    refine o_nil<|hN14 _ _<|w_cond hA rfl (fun hc7=>?_) (fun hc7=>?_)
    ·obtain ⟨hc7,H⟩:=dT H hc7
     refine w_skip<|hN13 _ _<|w_seq fun _ hN15=>w_block<|w_seq fun _ hN16=>?_
     refine w_draw mo (by kernel_rfl) hI ?_
     refine qtp hA (fun _ hI=>r_fd (k:=2) U63 rfl sz61 hA rfl rfl) rfl fun a hA =>
      qtp hA (fun _ hI=>r_ld1 (j:=1) [[.int .u32 x0.Version],[u0_0]] [[.int .u32 x0.Time]] U61 rfl hI rfl hA rfl rfl) rfl fun a hA =>
      qtp hA (fun _ hI=>r_mv hA rfl) rfl fun a hA=>?_
     obtain ⟨hb3,H⟩:=bG H
     obtain ⟨_,he3,_,hat3⟩:=Slc.elem hx0.2.2.1 (getD_some default hb3.1 hb3.2)
     obtain ⟨rfl,hw3⟩:=he3
     obtain ⟨_,hsl9⟩:=Slc.sv hx0.2.2.1
     refine qtp hA (fun _ hI=>r_six U61 sz106 hsl9 hA rfl rfl hb3.1 hb3.2) rfl fun a hA =>
      qtp hA (fun _ hI=>r_ldmA [] [[.int .u64 ((x0.Outs.getD s2.toNat default).Value)],av .u8 32 ((x0.Outs.getD s2.toNat default).Lock)] [] U106 rfl sz106 rfl hI.agr hat3 hA rfl rfl) rfl fun a hA =>
      qtp hA (fun _ hI=>r_fd (k:=2) U63 rfl sz61 hA rfl rfl) rfl fun a hA =>
      qtp hA (fun _ hI=>r_ld1 (j:=0) [[.int .u32 x1.Version],[u1_0]] [[.int .u32 x1.Time]] U61 rfl hI rfl hA rfl rfl) rfl fun a hA =>
      qtp hA (fun _ hI=>r_mv hA rfl) rfl fun a hA=>?_
     obtain ⟨hb4,H⟩:=bG H
     obtain ⟨_,he4,_,hat4⟩:=Slc.elem hx1.2.2.1 (getD_some default hb4.1 hb4.2)
     obtain ⟨rfl,hw4⟩:=he4
     obtain ⟨_,hsl10⟩:=Slc.sv hx1.2.2.1
     refine qtp hA (fun _ hI=>r_six U61 sz106 hsl10 hA rfl rfl hb4.1 hb4.2) rfl fun a hA =>
      qtp hA (fun _ hI=>r_ldmA [] [[.int .u64 ((x1.Outs.getD s2.toNat default).Value)],av .u8 32 ((x1.Outs.getD s2.toNat default).Lock)] [] U106 rfl sz106 rfl hI.agr hat4 hA rfl rfl) rfl fun a hA=>?_
     obtain ⟨r2,hr2,H⟩:=bB H
     refine qcall (v:=.bool r2) cf120 hA rfl (fun _ hI=>plq (q0_SameOut.c μ _ hI.agr (x0.Outs.getD s2.toNat default) ⟨hw3.1,hw3.2⟩ (x1.Outs.getD s2.toNat default) ⟨hw4.1,hw4.2⟩ r2 hr2) hI) rfl fun a hA =>
      qtp hA (fun _ hI=>r_not hA rfl) rfl fun a hA=>?_
     refine q_nil fun w hI=>?_
     refine hN16 _ _<|w_cond hA rfl (fun hc8=>?_) (fun hc8=>?_)
     ·have hc8:=nT hc8;have hc8:=ft hc8;have H:=bF H hc8
      refine w_seq fun _ hN17=>w_reg<|sta hA rfl rfl fun a hA=>?_
      refine o_nil<|hN17 _ _<|w_ret ?_
      have H:some (.inr false)=some z2:=H
      obtain rfl:=sI H
      have H:=Hk3
      have H:some false=some z1:=H
      obtain rfl:=sI H
      have H:=Hk2
      obtain rfl:=sJ H
      exact ret1 hA Tryz.results98 rfl ⟨_,rfl,rfl,trivial,hI.forget0⟩
     ·have hc8:=nF hc8;have H:=bT H hc8
      refine w_skip<|hN15 _ _<|w_reg<|stm hA rfl rfl fun a hA =>
       stp hA (r_add hA rfl rfl) rfl fun a hA =>
       sta hA rfl rfl fun a hA=>?_
      refine o_nil<|⟨m2,lS _,IntKind.i64.wrap (s2+1),H,(wrap_in _ _),hA.sub ⟨rfl,rfl,rfl,rfl,trivial⟩,hI⟩
    ·obtain ⟨hc7,H⟩:=dF H hc7
     refine w_exit rfl<|hN11 _ _<|w_seq fun _ hN18=>w_reg<|sta hA rfl rfl fun a hA=>?_
     refine o_nil<|hN18 _ _<|w_ret ?_
     have H:some (.inr true)=some z2:=H
     obtain rfl:=sI H
     have H:=Hk3
     have H:some true=some z1:=H
     obtain rfl:=sI H
     have H:=Hk2
     obtain rfl:=sJ H
     exact ret1 hA Tryz.results98 rfl ⟨_,rfl,rfl,trivial,hI.forget0⟩
theorem q0_SameTxs.c (μ:Store)(w0:World)(hμ:Agr μ w0)(x0:List Tx)(u0:Value)(hx0:Slc (RTx μ) 4 μ u0 x0)(x1:List Tx)(u1:Value)(hx1:Slc (RTx μ) 4 μ u1 x1)(r:Bool)(H:q0_SameTxs.f x0 x1=some r) :
  Calls Tryz.prog 61 [u0,u1].toArray w0 (fun e w'=>∃ v,e=.returned v∧v=.bool r∧True∧Iv w0 [] μ μ [] w'):=by
 refine enter Tryz.func61 rfl Tryz.ntmps61 rfl fun a hA=>?_
 have hI:=Iv.start hμ
 have H:=bI H
 refine w_seq fun _ hN1=>w_reg<|sta hA rfl rfl fun a hA=>?_
 refine o_nil<|hN1 _ _<|w_seq fun _ hN2=>w_seq fun _ hN3=>w_reg<|stm hA rfl rfl fun a hA=>?_
 obtain ⟨_,hsl1⟩:=Slc.sv hx0
 refine stp hA (r_slen U27 hsl1 hA rfl) rfl fun a hA =>
  stm hA rfl rfl fun a hA=>?_
 obtain ⟨_,hsl2⟩:=Slc.sv hx1
 refine stp hA (r_slen U27 hsl2 hA rfl) rfl fun a hA =>
  stp hA (r_neq hA rfl rfl) rfl fun a hA=>?_
 refine o_nil<|hN3 _ _<|w_cond hA rfl (fun hc1=>?_) (fun hc1=>?_)
 ·obtain ⟨hc1,H⟩:=dT H hc1
  refine w_seq fun _ hN4=>w_reg<|sta hA rfl rfl fun a hA=>?_
  refine o_nil<|hN4 _ _<|w_ret ?_
  obtain rfl:=sJ H
  exact ret1 hA Tryz.results61 rfl ⟨_,rfl,rfl,trivial,hI.forget0⟩
 ·obtain ⟨hc1,H⟩:=dF H hc1
  refine w_skip<|hN2 _ _<|w_seq fun _ hN5=>w_seq fun _ hN6=>w_reg<|sta hA rfl rfl fun a hA=>?_
  refine o_nil<|hN6 _ _<|w_block ?_
  obtain ⟨z1,hz1,Hk1⟩:=bind_some H
  obtain ⟨n1,hn1⟩:=loopO_some hz1
  refine w_loop (fun n a w=>∃(s1:Int),loopN (q0_SameTxs.s0 x0 x1) n s1=some z1∧InR .i64 s1∧Fr a 29 [(0,u0),(1,u1),(4,.bool false),(5,.int .i64 s1)]∧Iv w0 [] μ μ [] w) n1 ⟨0,hn1,(in_lit .i64 0 rfl),hA.sub ⟨rfl,rfl,rfl,rfl,trivial⟩,hI⟩ ?_
  clear hA hI
  rintro n a w ⟨s1,hn1,ws1,hA,hI⟩
  obtain ⟨m1,rfl,H⟩:=loopN_bind hn1
  clear hn1
  refine w_seq fun _ hN7=>w_seq fun _ hN8=>w_reg<|stm hA rfl rfl fun a hA =>
   stm hA rfl rfl fun a hA=>?_
  obtain ⟨_,hsl3⟩:=Slc.sv hx0
  refine stp hA (r_slen U27 hsl3 hA rfl) rfl fun a hA =>
   stp hA (r_lss hA rfl rfl) rfl fun a hA=>?_
  refine o_nil<|hN8 _ _<|w_cond hA rfl (fun hc2=>?_) (fun hc2=>?_)
  ·obtain ⟨hc2,H⟩:=dT H hc2
   refine w_skip<|hN7 _ _<|w_seq fun _ hN9=>w_block<|w_seq fun _ hN10=>?_
   refine w_draw mo (by kernel_rfl) hI ?_
   refine qtp hA (fun _ hI=>r_mv hA rfl) rfl fun a hA =>
    qtp hA (fun _ hI=>r_mv hA rfl) rfl fun a hA=>?_
   obtain ⟨hb1,H⟩:=bG H
   obtain ⟨_,he1,_,hat1⟩:=Slc.elem hx0 (getD_some default hb1.1 hb1.2)
   obtain ⟨v1,v2,rfl,hw1⟩:=he1
   obtain ⟨_,hsl4⟩:=Slc.sv hx0
   refine qtp hA (fun _ hI=>r_six U27 sz63 hsl4 hA rfl rfl hb1.1 hb1.2) rfl fun a hA =>
    qtp hA (fun _ hI=>r_ldmA [] [[.int .u32 ((x0.getD s1.toNat default).Version)],[v1],[v2],[.int .u32 ((x0.getD s1.toNat default).Time)]] [] U63 rfl sz63 rfl hI.agr hat1 hA rfl rfl) rfl fun a hA =>
    qtp hA (fun _ hI=>r_mv hA rfl) rfl fun a hA =>
    qtp hA (fun _ hI=>r_mv hA rfl) rfl fun a hA=>?_
   obtain ⟨hb2,H⟩:=bG H
   obtain ⟨_,he2,_,hat2⟩:=Slc.elem hx1 (getD_some default hb2.1 hb2.2)
   obtain ⟨v3,v4,rfl,hw2⟩:=he2
   obtain ⟨_,hsl5⟩:=Slc.sv hx1
   refine qtp hA (fun _ hI=>r_six U27 sz63 hsl5 hA rfl rfl hb2.1 hb2.2) rfl fun a hA =>
    qtp hA (fun _ hI=>r_ldmA [] [[.int .u32 ((x1.getD s1.toNat default).Version)],[v3],[v4],[.int .u32 ((x1.getD s1.toNat default).Time)]] [] U63 rfl sz63 rfl hI.agr hat2 hA rfl rfl) rfl fun a hA=>?_
   obtain ⟨r1,hr1,H⟩:=bB H
   refine qcall (v:=.bool r1) cf98 hA rfl (fun _ hI=>plq (q0_SameTx.c μ _ hI.agr (x0.getD s1.toNat default) v1 v2 ⟨hw1.1,hw1.2.1,hw1.2.2.1,hw1.2.2.2⟩ (x1.getD s1.toNat default) v3 v4 ⟨hw2.1,hw2.2.1,hw2.2.2.1,hw2.2.2.2⟩ r1 hr1) hI) rfl fun a hA =>
    qtp hA (fun _ hI=>r_as hA rfl) rfl fun a hA=>?_
   refine q_nil fun w hI=>?_
   refine hN10 _ _<|w_seq fun _ hN11=>w_reg<|stm hA rfl rfl fun a hA =>
    stp hA (r_not hA rfl) rfl fun a hA=>?_
   refine o_nil<|hN11 _ _<|w_cond hA rfl (fun hc3=>?_) (fun hc3=>?_)
   ·have hc3:=nT hc3;have hc3:=ft hc3;have H:=bF H hc3
    refine w_seq fun _ hN12=>w_reg<|sta hA rfl rfl fun a hA=>?_
    refine o_nil<|hN12 _ _<|w_ret ?_
    have H:some false=some z1:=H
    obtain rfl:=sI H
    have H:=Hk1
    obtain rfl:=sJ H
    exact ret1 hA Tryz.results61 rfl ⟨_,rfl,rfl,trivial,hI.forget0⟩
   ·have hc3:=nF hc3;have H:=bT H hc3
    refine w_skip<|hN9 _ _<|w_reg<|stm hA rfl rfl fun a hA =>
     stp hA (r_add hA rfl rfl) rfl fun a hA =>
     sta hA rfl rfl fun a hA=>?_
    refine o_nil<|⟨m1,lS _,IntKind.i64.wrap (s1+1),H,(wrap_in _ _),hA.sub ⟨rfl,rfl,rfl,rfl,trivial⟩,hI⟩
  ·obtain ⟨hc2,H⟩:=dF H hc2
   refine w_exit rfl<|hN5 _ _<|w_seq fun _ hN13=>w_reg<|sta hA rfl rfl fun a hA=>?_
   refine o_nil<|hN13 _ _<|w_ret ?_
   have H:some true=some z1:=H
   obtain rfl:=sI H
   have H:=Hk1
   obtain rfl:=sJ H
   exact ret1 hA Tryz.results61 rfl ⟨_,rfl,rfl,trivial,hI.forget0⟩
theorem q0_SameBlock.c (μ:Store)(w0:World)(hμ:Agr μ w0)(x0:Block)(u0_0:Value)(hx0:BlockW μ x0 u0_0)(x1:Block)(u1_0:Value)(hx1:BlockW μ x1 u1_0)(r:Bool)(H:q0_SameBlock.f x0 x1=some r) :
  Calls Tryz.prog 23 [.agg [[.int .u32 x0.Head.Version],av .u8 32 x0.Head.Prev,av .u8 32 x0.Head.Root,[.int .u32 x0.Head.Time],[.int .u32 x0.Head.Work],[.int .u32 x0.Head.Nonce],[u0_0]].flatten.toArray,.agg [[.int .u32 x1.Head.Version],av .u8 32 x1.Head.Prev,av .u8 32 x1.Head.Root,[.int .u32 x1.Head.Time],[.int .u32 x1.Head.Work],[.int .u32 x1.Head.Nonce],[u1_0]].flatten.toArray].toArray w0 (fun e w'=>∃ v,e=.returned v∧v=.bool r∧True∧Iv w0 [] μ μ [] w'):=by
 refine enter Tryz.func23 rfl Tryz.ntmps23 rfl fun a hA=>?_
 have hI:=Iv.start hμ
 have H:=bI H
 refine w_seq fun _ hN1=>w_reg<|o_box [[.int .u32 x0.Head.Version],av .u8 32 x0.Head.Prev,av .u8 32 x0.Head.Root,[.int .u32 x0.Head.Time],[.int .u32 x0.Head.Work],[.int .u32 x0.Head.Nonce],[u0_0]] hI hA rfl rfl rfl fun g1 a w hA hI hg1 =>
  o_box [[.int .u32 x1.Head.Version],av .u8 32 x1.Head.Prev,av .u8 32 x1.Head.Root,[.int .u32 x1.Head.Time],[.int .u32 x1.Head.Work],[.int .u32 x1.Head.Nonce],[u1_0]] hI hA rfl rfl rfl fun g2 a w hA hI hg2 =>
  sta hA rfl rfl fun a hA=>?_
 refine o_nil<|hN1 _ _ ?_
 obtain ⟨c1,hz1,Hk1⟩:=bB H
 refine w_cut (fun a w=>Fr a 17 [(4,.bool c1)]∧Iv w0 [] μ μ [cel g2 [[.int .u32 x1.Head.Version],av .u8 32 x1.Head.Prev,av .u8 32 x1.Head.Root,[.int .u32 x1.Head.Time],[.int .u32 x1.Head.Work],[.int .u32 x1.Head.Nonce],[u1_0]] 29,cel g1 [[.int .u32 x0.Head.Version],av .u8 32 x0.Head.Prev,av .u8 32 x0.Head.Root,[.int .u32 x0.Head.Time],[.int .u32 x0.Head.Work],[.int .u32 x0.Head.Nonce],[u0_0]] 29] w) ?_ ?_
 ·have H:=bI hz1
  refine w_reg<|stp hA (r_fd (k:=0) U29 rfl sz26 hA rfl rfl) rfl fun a hA =>
   stp hA (r_ldA (j:=1) [] [[.int .u32 x0.Head.Version],av .u8 32 x0.Head.Prev,av .u8 32 x0.Head.Root,[.int .u32 x0.Head.Time],[.int .u32 x0.Head.Work],[.int .u32 x0.Head.Nonce]] [[u0_0]] U26 rfl sz26 rfl hI rfl hA rfl rfl) rfl fun a hA =>
   stp hA (r_fd (k:=0) U29 rfl sz26 hA rfl rfl) rfl fun a hA =>
   stp hA (r_ldA (j:=0) [] [[.int .u32 x1.Head.Version],av .u8 32 x1.Head.Prev,av .u8 32 x1.Head.Root,[.int .u32 x1.Head.Time],[.int .u32 x1.Head.Work],[.int .u32 x1.Head.Nonce]] [[u1_0]] U26 rfl sz26 rfl hI rfl hA rfl rfl) rfl fun a hA=>?_
  obtain ⟨r1,hr1,H⟩:=bB H
  refine o_callp (u:=.bool r1) cf60 hA rfl hI (q0_SameHead.c μ _ hI.agr x0.Head ⟨hx0.1,hx0.2.1,hx0.2.2.1,hx0.2.2.2.1,hx0.2.2.2.2.1,hx0.2.2.2.2.2.1⟩ x1.Head ⟨hx1.1,hx1.2.1,hx1.2.2.1,hx1.2.2.2.1,hx1.2.2.2.2.1,hx1.2.2.2.2.2.1⟩ r1 hr1) rfl fun a w hz2 hI hA =>
   stm hA rfl rfl fun a hA=>?_
  rcases Bool.eq_false_or_eq_true r1 with hc1 | hc1
  ·have hc10:=hc1;have H:=bT H hc1
   refine o_yes hA rfl rfl hc10 <|
    stp hA (r_fd (k:=68) U29 rfl sz27 hA rfl rfl) rfl fun a hA =>
    o_yes hA rfl rfl hc10 <|
    stp hA (r_ld1 (j:=1) [[.int .u32 x0.Head.Version],av .u8 32 x0.Head.Prev,av .u8 32 x0.Head.Root,[.int .u32 x0.Head.Time],[.int .u32 x0.Head.Work],[.int .u32 x0.Head.Nonce]] [] U27 rfl hI rfl hA rfl rfl) rfl fun a hA =>
    o_yes hA rfl rfl hc10 <|
    stp hA (r_fd (k:=68) U29 rfl sz27 hA rfl rfl) rfl fun a hA =>
    o_yes hA rfl rfl hc10 <|
    stp hA (r_ld1 (j:=0) [[.int .u32 x1.Head.Version],av .u8 32 x1.Head.Prev,av .u8 32 x1.Head.Root,[.int .u32 x1.Head.Time],[.int .u32 x1.Head.Work],[.int .u32 x1.Head.Nonce]] [] U27 rfl hI rfl hA rfl rfl) rfl fun a hA =>
    o_yes hA rfl rfl hc10<|?_
   obtain ⟨r2,hr2,H⟩:=bB H
   refine o_callp (u:=.bool r2) cf61 hA rfl hI (q0_SameTxs.c μ _ hI.agr x0.Txs u0_0 hx0.2.2.2.2.2.2 x1.Txs u1_0 hx1.2.2.2.2.2.2 r2 hr2) rfl fun a w hz3 hI hA =>
    stp hA (r_pick_t hA rfl hc10 rfl) rfl fun a hA =>
    sta hA rfl rfl fun a hA=>?_
   refine o_nil ?_
   cases sJ H
   exact ⟨hA.sub ⟨rfl,trivial⟩,hI⟩
  ·have hc10:=hc1;have hc1:=ft hc1;have H:=bF H hc1
   refine o_no hA rfl rfl (by rw [hc10];simp [vb]) rfl fun a hA =>
    o_no hA rfl rfl (by rw [hc10];simp [vb]) rfl fun a hA =>
    o_no hA rfl rfl (by rw [hc10];simp [vb]) rfl fun a hA =>
    o_no hA rfl rfl (by rw [hc10];simp [vb]) rfl fun a hA =>
    o_no hA rfl rfl (by rw [hc10];simp [vb]) rfl fun a hA =>
    stp hA (r_pick_f hA rfl hc10 rfl) rfl fun a hA =>
    sta hA rfl rfl fun a hA=>?_
   refine o_nil ?_
   cases sJ H
   exact ⟨hA.sub ⟨rfl,trivial⟩,hI⟩
 ·rintro a w ⟨hA,hI⟩
  have H:=Hk1
  refine w_ret ?_
  obtain rfl:=sJ H
  exact ret1 hA Tryz.results23 rfl ⟨_,rfl,rfl,trivial,hI.forget0⟩
theorem q2_Is.c (μ:Store)(w0:World)(hμ:Agr μ w0)(x0:Er)(u0:Value)(hx0:ErS μ u0 x0)(x1:Int)(hx1:InR .i64 x1)(hG:Gl μ)(r:Bool)(H:q2_Is.f x0 x1=some r) :
  Calls Tryz.prog 24 [u0,.int .i64 x1].toArray w0 (fun e w'=>∃ v,e=.returned v∧v=.bool r∧True∧Iv w0 [] μ μ [] w'):=by
 refine enter Tryz.func24 rfl Tryz.ntmps24 rfl fun a hA=>?_
 have hI:=Iv.start hμ
 have H:=bI H
 refine w_seq fun _ hN1=>w_reg<|sta hA rfl rfl fun a hA=>?_
 refine o_nil<|hN1 _ _<|w_seq fun _ hN2=>w_reg<|stm hA rfl rfl fun a hA =>
  stm hA rfl rfl fun a hA=>?_
 obtain ⟨r1,hr1,H⟩:=bB H
 refine o_callp (u:=.agg [[.int .i64 r1.Code],[.bool r1.Placed],[.int .i64 r1.Pos],[.bool r1.Outer],[.int .i64 r1.At]].flatten.toArray) cf54 hA rfl hI (q0_Bare.c μ _ hI.agr x1 hx1 r1 hr1) rfl fun a w hz1 hI hA=>?_
 obtain ⟨r2,hr2,H⟩:=bB H
 refine o_callp (u:=.bool r2) cf20 hA rfl hI (q2_Same.c μ _ hI.agr x0 u0 hx0 r1 ⟨hz1.1,hz1.2.1,hz1.2.2⟩ hG r2 hr2) rfl fun a w hz2 hI hA =>
  sta hA rfl rfl fun a hA=>?_
 refine o_nil<|hN2 _ _<|w_ret ?_
 obtain rfl:=sJ H
 exact ret1 hA Tryz.results24 rfl ⟨_,rfl,rfl,trivial,hI.forget0⟩
def bytes_Clone.f (x0:List Int):Option (List Int):=if x0.length≤140737488355328 then some x0 else none
def compact_Len.f (x0:Int):Option Int:=(if x0 < 253 then some 1 else (if x0 < 65536 then some 3 else (if x0 < 4294967296 then some 5 else some 9)))
def compact_number.s0 (x2:Int):((List Int)×Int×Int)→Option (((List Int)×Int×Int)⊕((List Int)×Int)):=fun (s1,s2,s3)=>(if s3 < x2 then (if s1.length+1≤140737488355328 then some (.inl (s1++([IntKind.u8.wrap s2]:List Int),sR .u64 s2 8,IntKind.i64.wrap (s3+1))) else none) else some (.inr (s1,s2)))
noncomputable def compact_number.f (x0:List Int)(x1 x2:Int):Option (List Int):=((loopO (compact_number.s0 x2) (x0,x1,0)).bind fun (c1,c2)=>some c1)
noncomputable def compact_Put.f (x0:List Int)(x1:Int):Option (List Int):=((bytes_Clone.f x0).bind fun r1=>((compact_Len.f x1).bind fun r2=>(if r2=1 then (if r1.length+1≤140737488355328 then some (r1++([IntKind.u8.wrap x1]:List Int)) else none) else (if r2=3 then (if r1.length+1≤140737488355328 then ((compact_number.f (r1++([253]:List Int)) x1 2).bind fun r3=>some r3) else none) else (if r2=5 then (if r1.length+1≤140737488355328 then ((compact_number.f (r1++([254]:List Int)) x1 4).bind fun r4=>some r4) else none) else (if r1.length+1≤140737488355328 then ((compact_number.f (r1++([255]:List Int)) x1 8).bind fun r5=>some r5) else none))))))
noncomputable def compact_Four.f (x0:List Int)(x1:Int):Option (List Int):=((bytes_Clone.f x0).bind fun r1=>((compact_number.f r1 (IntKind.u64.wrap x1) 4).bind fun r2=>some r2))
noncomputable def compact_Eight.f (x0:List Int)(x1:Int):Option (List Int):=((bytes_Clone.f x0).bind fun r1=>((compact_number.f r1 x1 8).bind fun r2=>some r2))
def compact_Sum.s0 (x0:List Int):(Int×Int)→Option ((Int×Int)⊕(Int×Bool)):=fun (s1,s2)=>(if s2 < (x0.length:Int) then (if 0≤s2∧s2 < (x0.length:Int) then (if (IntKind.u64.wrap (2100000000000000 - s1)) < (x0.getD s2.toNat 0) then some (.inr (0,false)) else some (.inl (IntKind.u64.wrap (s1+(x0.getD s2.toNat 0)),IntKind.i64.wrap (s2+1)))) else none) else some (.inr (s1,true)))
noncomputable def compact_Sum.f (x0:List Int):Option (Int×Bool):=loopO (compact_Sum.s0 x0) (0,0)
def q1_Len.f (x0:Int):Option Int:=(if x0 < 253 then some 1 else (if x0 < 65536 then some 3 else (if x0 < 4294967296 then some 5 else some 9)))
def q1_little.s0 (x1 x2:Int):((List Int)×Int)→Option (((List Int)×Int)⊕(List Int)):=fun (s1,s2)=>(if s2 < x2 then (if 0≤(IntKind.u64.wrap (IntKind.i64.wrap (8 * s2))) then (if s1.length+1≤140737488355328 then some (.inl (s1++([IntKind.u8.wrap (sR .u64 x1 (IntKind.u64.wrap (IntKind.i64.wrap (8 * s2))))]:List Int),IntKind.i64.wrap (s2+1))) else none) else none) else some (.inr s1))
noncomputable def q1_little.f (x0:List Int)(x1 x2:Int):Option (List Int):=((loopO (q1_little.s0 x1 x2) (x0,0)).bind fun c1=>some c1)
noncomputable def q1_Put.f (x0:List Int)(x1:Int):Option (List Int):=((q1_Len.f x1).bind fun r1=>(if r1=1 then (if x0.length+1≤140737488355328 then some (x0++([IntKind.u8.wrap x1]:List Int)) else none) else (if r1=3 then (if x0.length+1≤140737488355328 then ((q1_little.f (x0++([253]:List Int)) x1 2).bind fun r2=>some r2) else none) else (if r1=5 then (if x0.length+1≤140737488355328 then ((q1_little.f (x0++([254]:List Int)) x1 4).bind fun r3=>some r3) else none) else (if x0.length+1≤140737488355328 then ((q1_little.f (x0++([255]:List Int)) x1 8).bind fun r4=>some r4) else none)))))
noncomputable def q1_Four.f (x0:List Int)(x1:Int):Option (List Int):=((q1_little.f x0 (IntKind.u64.wrap x1) 4).bind fun r1=>some r1)
noncomputable def q1_Eight.f (x0:List Int)(x1:Int):Option (List Int):=((q1_little.f x0 x1 8).bind fun r1=>some r1)
def compact_Read.f (x0:List Int):Option cRd:=((bytes_Clone.f x0).bind fun r1=>some (⟨r1,0,(Er.b 0)⟩:cRd))
def cR_Err.f (x0:cRd):Option Er:=some x0.err
def cR_next.f (x0:cRd)(x1:Int):Option ((List Int)×cRd):=(if x0.err≠(Er.b 0) then some ([],x0) else (if (IntKind.i64.wrap ((x0.b.length:Int) - x0.at_)) < x1 then some ([],(⟨x0.b,x0.at_,xErrEnd⟩:cRd)) else (if 0≤(IntKind.i64.wrap ((IntKind.i64.wrap (x0.at_+x1)) - x1))∧(IntKind.i64.wrap ((IntKind.i64.wrap (x0.at_+x1)) - x1))≤(IntKind.i64.wrap (x0.at_+x1))∧(IntKind.i64.wrap (x0.at_+x1))≤(x0.b.length:Int) then some ((x0.b.take (IntKind.i64.wrap (x0.at_+x1)).toNat).drop (IntKind.i64.wrap ((IntKind.i64.wrap (x0.at_+x1)) - x1)).toNat,(⟨x0.b,IntKind.i64.wrap (x0.at_+x1),x0.err⟩:cRd)) else none)))
def cR_whole.s0 (r1:(List Int)×cRd):(Int×Int)→Option ((Int×Int)⊕(Int×(List Int)×Int×Er)):=fun (s1,s2)=>(if s2 < (r1.1.length:Int) then (if 0≤s2∧s2 < (r1.1.length:Int) then (if 0≤(IntKind.i64.wrap (8 * s2)) then some (.inl (bOr .u64 s1 (sL .u64 (IntKind.u64.wrap (r1.1.getD s2.toNat 0)) (IntKind.i64.wrap (8 * s2))),IntKind.i64.wrap (s2+1))) else none) else none) else some (.inr (s1,r1.2.b,r1.2.at_,r1.2.err)))
noncomputable def cR_whole.f (x0:cRd)(x1:Int):Option (Int×cRd):=((((cR_next.f x0 x1).bind fun r1=>loopO (cR_whole.s0 r1) (0,0))).bind fun (c1,c2,c3,c4)=>some (c1,(⟨c2,c3,c4⟩:cRd)))
noncomputable def cR_Four.f (x0:cRd):Option (Int×cRd):=((cR_whole.f x0 4).bind fun r1=>some (IntKind.u32.wrap r1.1,r1.2))
def cR_Hash.f (x0:cRd):Option ((List Int)×cRd):=((cR_next.f x0 32).bind fun r1=>some (cpy (List.replicate 32 0) r1.1,r1.2))
noncomputable def cR_Num.f (x0:cRd)(x1:Int):Option (Int×cRd):=((cR_whole.f x0 1).bind fun r1=>(((if r1.1=253 then some 2 else (if r1.1=254 then some 4 else (if r1.1=255 then some 8 else some 0)))).bind fun c1=>(((if 0 < c1 then ((cR_whole.f r1.2 c1).bind fun r2=>some (r2.1,r2.2.b,r2.2.at_,r2.2.err)) else some (r1.1,r1.2.b,r1.2.at_,r1.2.err))).bind fun (c2,c3,c4,c5)=>(if c5≠(Er.b 0) then some (0,(⟨c3,c4,c5⟩:cRd)) else ((compact_Len.f c2).bind fun r3=>(if r3≠(IntKind.i64.wrap (1+c1)) then some (0,(⟨c3,c4,xErrShape⟩:cRd)) else (if x1 < c2 then some (0,(⟨c3,c4,xErrMany⟩:cRd)) else some (c2,(⟨c3,c4,c5⟩:cRd)))))))))
def cR_Bytes.f (x0:cRd)(x1:Int):Option ((List Int)×cRd):=(if x1≤0 then some ([],x0) else ((cR_next.f x0 x1).bind fun r1=>((bytes_Clone.f r1.1).bind fun r2=>some (r2,r1.2))))
noncomputable def cR_Eight.f (x0:cRd):Option (Int×cRd):=((cR_whole.f x0 8).bind fun r1=>some (r1.1,r1.2))
def cR_Left.f (x0:cRd):Option Int:=some (IntKind.i64.wrap ((x0.b.length:Int) - x0.at_))
noncomputable def q1R_take.f (x0:q1Rd)(x1:Int):Option ((List Int)×q1Rd):=(((if x0.E≠0 then some true else some (decide (x1 < 0)))).bind fun c1=>(if c1=true then some ([],x0) else (if (x0.B.length:Int) < x1 then some ([],(⟨x0.B,101⟩:q1Rd)) else (if 0≤x1∧x1≤(x0.B.length:Int) then ((q0_Bytes.f ((x0.B.take (x1).toNat).drop (0:Int).toNat)).bind fun r1=>some (r1,(⟨(x0.B.take ((x0.B.length:Int)).toNat).drop (x1).toNat,x0.E⟩:q1Rd))) else none))))
def q1R_num.s0 (r1:(List Int)×q1Rd):(Int×Int)→Option ((Int×Int)⊕Int):=fun (s1,s2)=>(if s2 < (r1.1.length:Int) then (if 0≤s2∧s2 < (r1.1.length:Int) then (if 0≤(IntKind.u64.wrap (IntKind.i64.wrap (8 * s2))) then some (.inl (bOr .u64 s1 (sL .u64 (IntKind.u64.wrap (r1.1.getD s2.toNat 0)) (IntKind.u64.wrap (IntKind.i64.wrap (8 * s2)))),IntKind.i64.wrap (s2+1))) else none) else none) else some (.inr s1))
noncomputable def q1R_num.f (x0:q1Rd)(x1:Int):Option (Int×q1Rd):=((q1R_take.f x0 x1).bind fun r1=>((loopO (q1R_num.s0 r1) (0,0)).bind fun c1=>some (c1,r1.2)))
noncomputable def q1R_Four.f (x0:q1Rd):Option (Int×q1Rd):=((q1R_num.f x0 4).bind fun r1=>some (IntKind.u32.wrap r1.1,r1.2))
def q1R_Hash.s0 (r1:(List Int)×q1Rd):(Int×(List Int))→Option ((Int×(List Int))⊕(List Int)):=fun (s1,s2)=>(if s1 < (r1.1.length:Int) then (if 0≤s1∧s1 < (r1.1.length:Int) then (if 0≤s1∧s1 < 32 then some (.inl (IntKind.i64.wrap (s1+1),s2.set s1.toNat (r1.1.getD s1.toNat 0))) else none) else none) else some (.inr s2))
noncomputable def q1R_Hash.f (x0:q1Rd):Option ((List Int)×q1Rd):=((q1R_take.f x0 32).bind fun r1=>((loopO (q1R_Hash.s0 r1) (0,(List.replicate 32 0))).bind fun c1=>some (c1,r1.2)))
noncomputable def q1R_Num.f (x0:q1Rd)(x1:Int):Option (Int×q1Rd):=(if x0.E≠0 then some (0,x0) else ((q1R_num.f x0 1).bind fun r1=>(((if r1.1=253 then ((q1R_num.f r1.2 2).bind fun r2=>some (r2.1,r2.2.B,r2.2.E)) else (if r1.1=254 then ((q1R_num.f r1.2 4).bind fun r3=>some (r3.1,r3.2.B,r3.2.E)) else (if r1.1=255 then ((q1R_num.f r1.2 8).bind fun r4=>some (r4.1,r4.2.B,r4.2.E)) else some (r1.1,r1.2.B,r1.2.E))))).bind fun (c1,c2,c3)=>(if c3≠0 then some (0,(⟨c2,c3⟩:q1Rd)) else (((if 253≤r1.1 then (if 0≤(IntKind.u64.wrap (r1.1 - 253)) then some (IntKind.i64.wrap (1+(sL .i64 2 (IntKind.u64.wrap (r1.1 - 253))))) else none) else some 1)).bind fun c4=>((((q1_Len.f c1).bind fun r5=>(if r5≠c4 then some 102 else (if x1 < c1 then some 104 else some c3)))).bind fun c5=>(if c5≠0 then some (0,(⟨c2,c5⟩:q1Rd)) else some (c1,(⟨c2,c5⟩:q1Rd)))))))))
noncomputable def q1R_Bytes.f (x0:q1Rd)(x1:Int):Option ((List Int)×q1Rd):=((q1R_take.f x0 x1).bind fun r1=>some (r1.1,r1.2))
noncomputable def q1R_Eight.f (x0:q1Rd):Option (Int×q1Rd):=((q1R_num.f x0 8).bind fun r1=>some (r1.1,r1.2))
def q1_Sum.s0 (x0:List Int):(Int×Int)→Option ((Int×Int)⊕(Int×Bool)):=fun (s1,s2)=>(if s2 < (x0.length:Int) then (((if 0≤s2∧s2 < (x0.length:Int) then (if 2100000000000000 < (x0.getD s2.toNat 0) then some true else some (decide (2100000000000000 < (IntKind.u64.wrap (s1+(x0.getD s2.toNat 0)))))) else none)).bind fun c1=>(if c1=true then some (.inr (0,false)) else (if 0≤s2∧s2 < (x0.length:Int) then some (.inl (IntKind.u64.wrap (s1+(x0.getD s2.toNat 0)),IntKind.i64.wrap (s2+1))) else none))) else some (.inr (s1,true)))
noncomputable def q1_Sum.f (x0:List Int):Option (Int×Bool):=loopO (q1_Sum.s0 x0) (0,0)
end Go.Proofs.YticejmbhhehfdaaGreatDoor.T
