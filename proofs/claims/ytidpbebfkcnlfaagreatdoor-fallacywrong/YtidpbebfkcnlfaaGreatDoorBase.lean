/-
  The code is the program's. No conditions: definitions and closed facts.
-/
import Derived.Test.YtidpbebfkcnlfaaGreatDoorCodes0
import Derived.Test.YtidpbebfkcnlfaaGreatDoorRows
import Derived.KernelRfl
noncomputable section
namespace Go.Lyc.T
open Go.Lyc Go.Proofs
set_option maxRecDepth 100000
set_option maxHeartbeats 4000000
theorem i3 : FuncIs Tryz.prog 3 c3 := ⟨Tryz.f3, Tryz.func3, by kernel_rfl, by kernel_rfl⟩
theorem i4 : FuncIs Tryz.prog 4 c4 := ⟨Tryz.f4, Tryz.func4, by kernel_rfl, by kernel_rfl⟩
theorem i5 : FuncIs Tryz.prog 5 c5 := ⟨Tryz.f5, Tryz.func5, by kernel_rfl, by kernel_rfl⟩
theorem i6 : FuncIs Tryz.prog 6 c6 := ⟨Tryz.f6, Tryz.func6, by kernel_rfl, by kernel_rfl⟩
theorem i7 : FuncIs Tryz.prog 7 c7 := ⟨Tryz.f7, Tryz.func7, by kernel_rfl, by kernel_rfl⟩
theorem i8 : FuncIs Tryz.prog 8 c8 := ⟨Tryz.f8, Tryz.func8, by kernel_rfl, by kernel_rfl⟩
theorem i9 : FuncIs Tryz.prog 9 c9 := ⟨Tryz.f9, Tryz.func9, by kernel_rfl, by kernel_rfl⟩
theorem i10 : FuncIs Tryz.prog 10 c10 := ⟨Tryz.f10, Tryz.func10, by kernel_rfl, by kernel_rfl⟩
theorem i11 : FuncIs Tryz.prog 11 c11 := ⟨Tryz.f11, Tryz.func11, by kernel_rfl, by kernel_rfl⟩
theorem i12 : FuncIs Tryz.prog 12 c12 := ⟨Tryz.f12, Tryz.func12, by kernel_rfl, by kernel_rfl⟩
theorem i13 : FuncIs Tryz.prog 13 c13 := ⟨Tryz.f13, Tryz.func13, by kernel_rfl, by kernel_rfl⟩
theorem i14 : FuncIs Tryz.prog 14 c14 := ⟨Tryz.f14, Tryz.func14, by kernel_rfl, by kernel_rfl⟩
theorem i15 : FuncIs Tryz.prog 15 c15 := ⟨Tryz.f15, Tryz.func15, by kernel_rfl, by kernel_rfl⟩
theorem i16 : FuncIs Tryz.prog 16 c16 := ⟨Tryz.f16, Tryz.func16, by kernel_rfl, by kernel_rfl⟩
theorem i17 : FuncIs Tryz.prog 17 c17 := ⟨Tryz.f17, Tryz.func17, by kernel_rfl, by kernel_rfl⟩
theorem i18 : FuncIs Tryz.prog 18 c18 := ⟨Tryz.f18, Tryz.func18, by kernel_rfl, by kernel_rfl⟩
theorem i19 : FuncIs Tryz.prog 19 c19 := ⟨Tryz.f19, Tryz.func19, by kernel_rfl, by kernel_rfl⟩
theorem i20 : FuncIs Tryz.prog 20 c20 := ⟨Tryz.f20, Tryz.func20, by kernel_rfl, by kernel_rfl⟩
theorem i21 : FuncIs Tryz.prog 21 c21 := ⟨Tryz.f21, Tryz.func21, by kernel_rfl, by kernel_rfl⟩
theorem i22 : FuncIs Tryz.prog 22 c22 := ⟨Tryz.f22, Tryz.func22, by kernel_rfl, by kernel_rfl⟩
theorem i23 : FuncIs Tryz.prog 23 c23 := ⟨Tryz.f23, Tryz.func23, by kernel_rfl, by kernel_rfl⟩
theorem i24 : FuncIs Tryz.prog 24 c24 := ⟨Tryz.f24, Tryz.func24, by kernel_rfl, by kernel_rfl⟩
theorem i25 : FuncIs Tryz.prog 25 c25 := ⟨Tryz.f25, Tryz.func25, by kernel_rfl, by kernel_rfl⟩
theorem i26 : FuncIs Tryz.prog 26 c26 := ⟨Tryz.f26, Tryz.func26, by kernel_rfl, by kernel_rfl⟩
theorem i27 : FuncIs Tryz.prog 27 c27 := ⟨Tryz.f27, Tryz.func27, by kernel_rfl, by kernel_rfl⟩
theorem i28 : FuncIs Tryz.prog 28 c28 := ⟨Tryz.f28, Tryz.func28, by kernel_rfl, by kernel_rfl⟩
theorem i29 : FuncIs Tryz.prog 29 c29 := ⟨Tryz.f29, Tryz.func29, by kernel_rfl, by kernel_rfl⟩
theorem i30 : FuncIs Tryz.prog 30 c30 := ⟨Tryz.f30, Tryz.func30, by kernel_rfl, by kernel_rfl⟩
theorem i31 : FuncIs Tryz.prog 31 c31 := ⟨Tryz.f31, Tryz.func31, by kernel_rfl, by kernel_rfl⟩
theorem i32 : FuncIs Tryz.prog 32 c32 := ⟨Tryz.f32, Tryz.func32, by kernel_rfl, by kernel_rfl⟩
theorem i33 : FuncIs Tryz.prog 33 c33 := ⟨Tryz.f33, Tryz.func33, by kernel_rfl, by kernel_rfl⟩
theorem i34 : FuncIs Tryz.prog 34 c34 := ⟨Tryz.f34, Tryz.func34, by kernel_rfl, by kernel_rfl⟩
theorem i35 : FuncIs Tryz.prog 35 c35 := ⟨Tryz.f35, Tryz.func35, by kernel_rfl, by kernel_rfl⟩
theorem i36 : FuncIs Tryz.prog 36 c36 := ⟨Tryz.f36, Tryz.func36, by kernel_rfl, by kernel_rfl⟩
theorem i37 : FuncIs Tryz.prog 37 c37 := ⟨Tryz.f37, Tryz.func37, by kernel_rfl, by kernel_rfl⟩
theorem i38 : FuncIs Tryz.prog 38 c38 := ⟨Tryz.f38, Tryz.func38, by kernel_rfl, by kernel_rfl⟩
theorem i41 : FuncIs Tryz.prog 41 c41 := ⟨Tryz.f41, Tryz.func41, by kernel_rfl, by kernel_rfl⟩
theorem i42 : FuncIs Tryz.prog 42 c42 := ⟨Tryz.f42, Tryz.func42, by kernel_rfl, by kernel_rfl⟩
theorem i43 : FuncIs Tryz.prog 43 c43 := ⟨Tryz.f43, Tryz.func43, by kernel_rfl, by kernel_rfl⟩
theorem i44 : FuncIs Tryz.prog 44 c44 := ⟨Tryz.f44, Tryz.func44, by kernel_rfl, by kernel_rfl⟩
theorem i45 : FuncIs Tryz.prog 45 c45 := ⟨Tryz.f45, Tryz.func45, by kernel_rfl, by kernel_rfl⟩
theorem i46 : FuncIs Tryz.prog 46 c46 := ⟨Tryz.f46, Tryz.func46, by kernel_rfl, by kernel_rfl⟩
theorem i47 : FuncIs Tryz.prog 47 c47 := ⟨Tryz.f47, Tryz.func47, by kernel_rfl, by kernel_rfl⟩
theorem i48 : FuncIs Tryz.prog 48 c48 := ⟨Tryz.f48, Tryz.func48, by kernel_rfl, by kernel_rfl⟩
theorem i49 : FuncIs Tryz.prog 49 c49 := ⟨Tryz.f49, Tryz.func49, by kernel_rfl, by kernel_rfl⟩
theorem i50 : FuncIs Tryz.prog 50 c50 := ⟨Tryz.f50, Tryz.func50, by kernel_rfl, by kernel_rfl⟩
theorem i51 : FuncIs Tryz.prog 51 c51 := ⟨Tryz.f51, Tryz.func51, by kernel_rfl, by kernel_rfl⟩
theorem i52 : FuncIs Tryz.prog 52 c52 := ⟨Tryz.f52, Tryz.func52, by kernel_rfl, by kernel_rfl⟩
theorem i53 : FuncIs Tryz.prog 53 c53 := ⟨Tryz.f53, Tryz.func53, by kernel_rfl, by kernel_rfl⟩
theorem i54 : FuncIs Tryz.prog 54 c54 := ⟨Tryz.f54, Tryz.func54, by kernel_rfl, by kernel_rfl⟩
theorem i55 : FuncIs Tryz.prog 55 c55 := ⟨Tryz.f55, Tryz.func55, by kernel_rfl, by kernel_rfl⟩
theorem i56 : FuncIs Tryz.prog 56 c56 := ⟨Tryz.f56, Tryz.func56, by kernel_rfl, by kernel_rfl⟩
theorem i57 : FuncIs Tryz.prog 57 c57 := ⟨Tryz.f57, Tryz.func57, by kernel_rfl, by kernel_rfl⟩
theorem i58 : FuncIs Tryz.prog 58 c58 := ⟨Tryz.f58, Tryz.func58, by kernel_rfl, by kernel_rfl⟩
theorem i59 : FuncIs Tryz.prog 59 c59 := ⟨Tryz.f59, Tryz.func59, by kernel_rfl, by kernel_rfl⟩
theorem i60 : FuncIs Tryz.prog 60 c60 := ⟨Tryz.f60, Tryz.func60, by kernel_rfl, by kernel_rfl⟩
theorem i61 : FuncIs Tryz.prog 61 c61 := ⟨Tryz.f61, Tryz.func61, by kernel_rfl, by kernel_rfl⟩
theorem i62 : FuncIs Tryz.prog 62 c62 := ⟨Tryz.f62, Tryz.func62, by kernel_rfl, by kernel_rfl⟩
theorem i63 : FuncIs Tryz.prog 63 c63 := ⟨Tryz.f63, Tryz.func63, by kernel_rfl, by kernel_rfl⟩
theorem i64 : FuncIs Tryz.prog 64 c64 := ⟨Tryz.f64, Tryz.func64, by kernel_rfl, by kernel_rfl⟩
theorem i65 : FuncIs Tryz.prog 65 c65 := ⟨Tryz.f65, Tryz.func65, by kernel_rfl, by kernel_rfl⟩
theorem i66 : FuncIs Tryz.prog 66 c66 := ⟨Tryz.f66, Tryz.func66, by kernel_rfl, by kernel_rfl⟩
theorem i70 : FuncIs Tryz.prog 70 c70 := ⟨Tryz.f70, Tryz.func70, by kernel_rfl, by kernel_rfl⟩
theorem i71 : FuncIs Tryz.prog 71 c71 := ⟨Tryz.f71, Tryz.func71, by kernel_rfl, by kernel_rfl⟩
theorem i72 : FuncIs Tryz.prog 72 c72 := ⟨Tryz.f72, Tryz.func72, by kernel_rfl, by kernel_rfl⟩
theorem i73 : FuncIs Tryz.prog 73 c73 := ⟨Tryz.f73, Tryz.func73, by kernel_rfl, by kernel_rfl⟩
theorem i74 : FuncIs Tryz.prog 74 c74 := ⟨Tryz.f74, Tryz.func74, by kernel_rfl, by kernel_rfl⟩
theorem i75 : FuncIs Tryz.prog 75 c75 := ⟨Tryz.f75, Tryz.func75, by kernel_rfl, by kernel_rfl⟩
theorem i76 : FuncIs Tryz.prog 76 c76 := ⟨Tryz.f76, Tryz.func76, by kernel_rfl, by kernel_rfl⟩
theorem i77 : FuncIs Tryz.prog 77 c77 := ⟨Tryz.f77, Tryz.func77, by kernel_rfl, by kernel_rfl⟩
theorem i78 : FuncIs Tryz.prog 78 c78 := ⟨Tryz.f78, Tryz.func78, by kernel_rfl, by kernel_rfl⟩
theorem i79 : FuncIs Tryz.prog 79 c79 := ⟨Tryz.f79, Tryz.func79, by kernel_rfl, by kernel_rfl⟩
theorem i80 : FuncIs Tryz.prog 80 c80 := ⟨Tryz.f80, Tryz.func80, by kernel_rfl, by kernel_rfl⟩
theorem i81 : FuncIs Tryz.prog 81 c81 := ⟨Tryz.f81, Tryz.func81, by kernel_rfl, by kernel_rfl⟩
theorem i82 : FuncIs Tryz.prog 82 c82 := ⟨Tryz.f82, Tryz.func82, by kernel_rfl, by kernel_rfl⟩
theorem i83 : FuncIs Tryz.prog 83 c83 := ⟨Tryz.f83, Tryz.func83, by kernel_rfl, by kernel_rfl⟩
theorem i84 : FuncIs Tryz.prog 84 c84 := ⟨Tryz.f84, Tryz.func84, by kernel_rfl, by kernel_rfl⟩
theorem i85 : FuncIs Tryz.prog 85 c85 := ⟨Tryz.f85, Tryz.func85, by kernel_rfl, by kernel_rfl⟩
theorem i86 : FuncIs Tryz.prog 86 c86 := ⟨Tryz.f86, Tryz.func86, by kernel_rfl, by kernel_rfl⟩
theorem i87 : FuncIs Tryz.prog 87 c87 := ⟨Tryz.f87, Tryz.func87, by kernel_rfl, by kernel_rfl⟩
theorem i88 : FuncIs Tryz.prog 88 c88 := ⟨Tryz.f88, Tryz.func88, by kernel_rfl, by kernel_rfl⟩
theorem i89 : FuncIs Tryz.prog 89 c89 := ⟨Tryz.f89, Tryz.func89, by kernel_rfl, by kernel_rfl⟩
theorem i90 : FuncIs Tryz.prog 90 c90 := ⟨Tryz.f90, Tryz.func90, by kernel_rfl, by kernel_rfl⟩
theorem i91 : FuncIs Tryz.prog 91 c91 := ⟨Tryz.f91, Tryz.func91, by kernel_rfl, by kernel_rfl⟩
theorem i92 : FuncIs Tryz.prog 92 c92 := ⟨Tryz.f92, Tryz.func92, by kernel_rfl, by kernel_rfl⟩
theorem i93 : FuncIs Tryz.prog 93 c93 := ⟨Tryz.f93, Tryz.func93, by kernel_rfl, by kernel_rfl⟩
theorem i94 : FuncIs Tryz.prog 94 c94 := ⟨Tryz.f94, Tryz.func94, by kernel_rfl, by kernel_rfl⟩
theorem i95 : FuncIs Tryz.prog 95 c95 := ⟨Tryz.f95, Tryz.func95, by kernel_rfl, by kernel_rfl⟩
theorem i96 : FuncIs Tryz.prog 96 c96 := ⟨Tryz.f96, Tryz.func96, by kernel_rfl, by kernel_rfl⟩
theorem i97 : FuncIs Tryz.prog 97 c97 := ⟨Tryz.f97, Tryz.func97, by kernel_rfl, by kernel_rfl⟩
theorem i98 : FuncIs Tryz.prog 98 c98 := ⟨Tryz.f98, Tryz.func98, by kernel_rfl, by kernel_rfl⟩
theorem i99 : FuncIs Tryz.prog 99 c99 := ⟨Tryz.f99, Tryz.func99, by kernel_rfl, by kernel_rfl⟩
theorem i100 : FuncIs Tryz.prog 100 c100 := ⟨Tryz.f100, Tryz.func100, by kernel_rfl, by kernel_rfl⟩
theorem i101 : FuncIs Tryz.prog 101 c101 := ⟨Tryz.f101, Tryz.func101, by kernel_rfl, by kernel_rfl⟩
theorem i102 : FuncIs Tryz.prog 102 c102 := ⟨Tryz.f102, Tryz.func102, by kernel_rfl, by kernel_rfl⟩
theorem i103 : FuncIs Tryz.prog 103 c103 := ⟨Tryz.f103, Tryz.func103, by kernel_rfl, by kernel_rfl⟩
theorem i104 : FuncIs Tryz.prog 104 c104 := ⟨Tryz.f104, Tryz.func104, by kernel_rfl, by kernel_rfl⟩
theorem i105 : FuncIs Tryz.prog 105 c105 := ⟨Tryz.f105, Tryz.func105, by kernel_rfl, by kernel_rfl⟩
theorem i106 : FuncIs Tryz.prog 106 c106 := ⟨Tryz.f106, Tryz.func106, by kernel_rfl, by kernel_rfl⟩
theorem i110 : FuncIs Tryz.prog 110 c110 := ⟨Tryz.f110, Tryz.func110, by kernel_rfl, by kernel_rfl⟩
theorem i111 : FuncIs Tryz.prog 111 c111 := ⟨Tryz.f111, Tryz.func111, by kernel_rfl, by kernel_rfl⟩
theorem i112 : FuncIs Tryz.prog 112 c112 := ⟨Tryz.f112, Tryz.func112, by kernel_rfl, by kernel_rfl⟩
theorem i113 : FuncIs Tryz.prog 113 c113 := ⟨Tryz.f113, Tryz.func113, by kernel_rfl, by kernel_rfl⟩
theorem i114 : FuncIs Tryz.prog 114 c114 := ⟨Tryz.f114, Tryz.func114, by kernel_rfl, by kernel_rfl⟩
theorem i115 : FuncIs Tryz.prog 115 c115 := ⟨Tryz.f115, Tryz.func115, by kernel_rfl, by kernel_rfl⟩
theorem i116 : FuncIs Tryz.prog 116 c116 := ⟨Tryz.f116, Tryz.func116, by kernel_rfl, by kernel_rfl⟩
theorem i117 : FuncIs Tryz.prog 117 c117 := ⟨Tryz.f117, Tryz.func117, by kernel_rfl, by kernel_rfl⟩
theorem i118 : FuncIs Tryz.prog 118 c118 := ⟨Tryz.f118, Tryz.func118, by kernel_rfl, by kernel_rfl⟩
theorem i119 : FuncIs Tryz.prog 119 c119 := ⟨Tryz.f119, Tryz.func119, by kernel_rfl, by kernel_rfl⟩
theorem i120 : FuncIs Tryz.prog 120 c120 := ⟨Tryz.f120, Tryz.func120, by kernel_rfl, by kernel_rfl⟩
theorem i121 : FuncIs Tryz.prog 121 c121 := ⟨Tryz.f121, Tryz.func121, by kernel_rfl, by kernel_rfl⟩
theorem i122 : FuncIs Tryz.prog 122 c122 := ⟨Tryz.f122, Tryz.func122, by kernel_rfl, by kernel_rfl⟩
theorem i123 : FuncIs Tryz.prog 123 c123 := ⟨Tryz.f123, Tryz.func123, by kernel_rfl, by kernel_rfl⟩
theorem i124 : FuncIs Tryz.prog 124 c124 := ⟨Tryz.f124, Tryz.func124, by kernel_rfl, by kernel_rfl⟩
theorem i125 : FuncIs Tryz.prog 125 c125 := ⟨Tryz.f125, Tryz.func125, by kernel_rfl, by kernel_rfl⟩
theorem i126 : FuncIs Tryz.prog 126 c126 := ⟨Tryz.f126, Tryz.func126, by kernel_rfl, by kernel_rfl⟩
theorem i127 : FuncIs Tryz.prog 127 c127 := ⟨Tryz.f127, Tryz.func127, by kernel_rfl, by kernel_rfl⟩
theorem i129 : FuncIs Tryz.prog 129 c129 := ⟨Tryz.f129, Tryz.func129, by kernel_rfl, by kernel_rfl⟩
theorem i130 : FuncIs Tryz.prog 130 c130 := ⟨Tryz.f130, Tryz.func130, by kernel_rfl, by kernel_rfl⟩
theorem i132 : FuncIs Tryz.prog 132 c132 := ⟨Tryz.f132, Tryz.func132, by kernel_rfl, by kernel_rfl⟩
theorem i133 : FuncIs Tryz.prog 133 c133 := ⟨Tryz.f133, Tryz.func133, by kernel_rfl, by kernel_rfl⟩
theorem i134 : FuncIs Tryz.prog 134 c134 := ⟨Tryz.f134, Tryz.func134, by kernel_rfl, by kernel_rfl⟩
theorem i135 : FuncIs Tryz.prog 135 c135 := ⟨Tryz.f135, Tryz.func135, by kernel_rfl, by kernel_rfl⟩
theorem i136 : FuncIs Tryz.prog 136 c136 := ⟨Tryz.f136, Tryz.func136, by kernel_rfl, by kernel_rfl⟩
theorem i137 : FuncIs Tryz.prog 137 c137 := ⟨Tryz.f137, Tryz.func137, by kernel_rfl, by kernel_rfl⟩
theorem i138 : FuncIs Tryz.prog 138 c138 := ⟨Tryz.f138, Tryz.func138, by kernel_rfl, by kernel_rfl⟩
theorem i139 : FuncIs Tryz.prog 139 c139 := ⟨Tryz.f139, Tryz.func139, by kernel_rfl, by kernel_rfl⟩
theorem i140 : FuncIs Tryz.prog 140 c140 := ⟨Tryz.f140, Tryz.func140, by kernel_rfl, by kernel_rfl⟩
theorem i141 : FuncIs Tryz.prog 141 c141 := ⟨Tryz.f141, Tryz.func141, by kernel_rfl, by kernel_rfl⟩
theorem i145 : FuncIs Tryz.prog 145 c145 := ⟨Tryz.f145, Tryz.func145, by kernel_rfl, by kernel_rfl⟩
theorem i146 : FuncIs Tryz.prog 146 c146 := ⟨Tryz.f146, Tryz.func146, by kernel_rfl, by kernel_rfl⟩
theorem i147 : FuncIs Tryz.prog 147 c147 := ⟨Tryz.f147, Tryz.func147, by kernel_rfl, by kernel_rfl⟩
theorem i148 : FuncIs Tryz.prog 148 c148 := ⟨Tryz.f148, Tryz.func148, by kernel_rfl, by kernel_rfl⟩
theorem i149 : FuncIs Tryz.prog 149 c149 := ⟨Tryz.f149, Tryz.func149, by kernel_rfl, by kernel_rfl⟩
theorem i150 : FuncIs Tryz.prog 150 c150 := ⟨Tryz.f150, Tryz.func150, by kernel_rfl, by kernel_rfl⟩
theorem i151 : FuncIs Tryz.prog 151 c151 := ⟨Tryz.f151, Tryz.func151, by kernel_rfl, by kernel_rfl⟩
theorem i152 : FuncIs Tryz.prog 152 c152 := ⟨Tryz.f152, Tryz.func152, by kernel_rfl, by kernel_rfl⟩
theorem i153 : FuncIs Tryz.prog 153 c153 := ⟨Tryz.f153, Tryz.func153, by kernel_rfl, by kernel_rfl⟩
theorem i154 : FuncIs Tryz.prog 154 c154 := ⟨Tryz.f154, Tryz.func154, by kernel_rfl, by kernel_rfl⟩
theorem i155 : FuncIs Tryz.prog 155 c155 := ⟨Tryz.f155, Tryz.func155, by kernel_rfl, by kernel_rfl⟩
theorem i156 : FuncIs Tryz.prog 156 c156 := ⟨Tryz.f156, Tryz.func156, by kernel_rfl, by kernel_rfl⟩
theorem i157 : FuncIs Tryz.prog 157 c157 := ⟨Tryz.f157, Tryz.func157, by kernel_rfl, by kernel_rfl⟩
theorem i158 : FuncIs Tryz.prog 158 c158 := ⟨Tryz.f158, Tryz.func158, by kernel_rfl, by kernel_rfl⟩
theorem i159 : FuncIs Tryz.prog 159 c159 := ⟨Tryz.f159, Tryz.func159, by kernel_rfl, by kernel_rfl⟩
theorem i160 : FuncIs Tryz.prog 160 c160 := ⟨Tryz.f160, Tryz.func160, by kernel_rfl, by kernel_rfl⟩
theorem i161 : FuncIs Tryz.prog 161 c161 := ⟨Tryz.f161, Tryz.func161, by kernel_rfl, by kernel_rfl⟩
theorem i163 : FuncIs Tryz.prog 163 c163 := ⟨Tryz.f163, Tryz.func163, by kernel_rfl, by kernel_rfl⟩
theorem i164 : FuncIs Tryz.prog 164 c164 := ⟨Tryz.f164, Tryz.func164, by kernel_rfl, by kernel_rfl⟩
theorem i165 : FuncIs Tryz.prog 165 c165 := ⟨Tryz.f165, Tryz.func165, by kernel_rfl, by kernel_rfl⟩
theorem i166 : FuncIs Tryz.prog 166 c166 := ⟨Tryz.f166, Tryz.func166, by kernel_rfl, by kernel_rfl⟩
theorem i167 : FuncIs Tryz.prog 167 c167 := ⟨Tryz.f167, Tryz.func167, by kernel_rfl, by kernel_rfl⟩
theorem i168 : FuncIs Tryz.prog 168 c168 := ⟨Tryz.f168, Tryz.func168, by kernel_rfl, by kernel_rfl⟩
theorem i169 : FuncIs Tryz.prog 169 c169 := ⟨Tryz.f169, Tryz.func169, by kernel_rfl, by kernel_rfl⟩
theorem i170 : FuncIs Tryz.prog 170 c170 := ⟨Tryz.f170, Tryz.func170, by kernel_rfl, by kernel_rfl⟩
theorem i184 : FuncIs Tryz.prog 184 c184 := ⟨Tryz.f184, Tryz.func184, by kernel_rfl, by kernel_rfl⟩
theorem i185 : FuncIs Tryz.prog 185 c185 := ⟨Tryz.f185, Tryz.func185, by kernel_rfl, by kernel_rfl⟩
theorem i186 : FuncIs Tryz.prog 186 c186 := ⟨Tryz.f186, Tryz.func186, by kernel_rfl, by kernel_rfl⟩
theorem i187 : FuncIs Tryz.prog 187 c187 := ⟨Tryz.f187, Tryz.func187, by kernel_rfl, by kernel_rfl⟩
theorem i188 : FuncIs Tryz.prog 188 c188 := ⟨Tryz.f188, Tryz.func188, by kernel_rfl, by kernel_rfl⟩
theorem i189 : FuncIs Tryz.prog 189 c189 := ⟨Tryz.f189, Tryz.func189, by kernel_rfl, by kernel_rfl⟩
theorem i190 : FuncIs Tryz.prog 190 c190 := ⟨Tryz.f190, Tryz.func190, by kernel_rfl, by kernel_rfl⟩
theorem i191 : FuncIs Tryz.prog 191 c191 := ⟨Tryz.f191, Tryz.func191, by kernel_rfl, by kernel_rfl⟩
theorem i193 : FuncIs Tryz.prog 193 c193 := ⟨Tryz.f193, Tryz.func193, by kernel_rfl, by kernel_rfl⟩
theorem i194 : FuncIs Tryz.prog 194 c194 := ⟨Tryz.f194, Tryz.func194, by kernel_rfl, by kernel_rfl⟩
theorem i195 : FuncIs Tryz.prog 195 c195 := ⟨Tryz.f195, Tryz.func195, by kernel_rfl, by kernel_rfl⟩
theorem i196 : FuncIs Tryz.prog 196 c196 := ⟨Tryz.f196, Tryz.func196, by kernel_rfl, by kernel_rfl⟩
theorem i198 : FuncIs Tryz.prog 198 c198 := ⟨Tryz.f198, Tryz.func198, by kernel_rfl, by kernel_rfl⟩
theorem i199 : FuncIs Tryz.prog 199 c199 := ⟨Tryz.f199, Tryz.func199, by kernel_rfl, by kernel_rfl⟩
theorem i200 : FuncIs Tryz.prog 200 c200 := ⟨Tryz.f200, Tryz.func200, by kernel_rfl, by kernel_rfl⟩
theorem i201 : FuncIs Tryz.prog 201 c201 := ⟨Tryz.f201, Tryz.func201, by kernel_rfl, by kernel_rfl⟩
theorem i202 : FuncIs Tryz.prog 202 c202 := ⟨Tryz.f202, Tryz.func202, by kernel_rfl, by kernel_rfl⟩
theorem i203 : FuncIs Tryz.prog 203 c203 := ⟨Tryz.f203, Tryz.func203, by kernel_rfl, by kernel_rfl⟩
theorem i204 : FuncIs Tryz.prog 204 c204 := ⟨Tryz.f204, Tryz.func204, by kernel_rfl, by kernel_rfl⟩
theorem i205 : FuncIs Tryz.prog 205 c205 := ⟨Tryz.f205, Tryz.func205, by kernel_rfl, by kernel_rfl⟩
theorem i206 : FuncIs Tryz.prog 206 c206 := ⟨Tryz.f206, Tryz.func206, by kernel_rfl, by kernel_rfl⟩
theorem i209 : FuncIs Tryz.prog 209 c209 := ⟨Tryz.f209, Tryz.func209, by kernel_rfl, by kernel_rfl⟩
theorem i210 : FuncIs Tryz.prog 210 c210 := ⟨Tryz.f210, Tryz.func210, by kernel_rfl, by kernel_rfl⟩
theorem i211 : FuncIs Tryz.prog 211 c211 := ⟨Tryz.f211, Tryz.func211, by kernel_rfl, by kernel_rfl⟩
theorem i212 : FuncIs Tryz.prog 212 c212 := ⟨Tryz.f212, Tryz.func212, by kernel_rfl, by kernel_rfl⟩
theorem i213 : FuncIs Tryz.prog 213 c213 := ⟨Tryz.f213, Tryz.func213, by kernel_rfl, by kernel_rfl⟩
theorem i215 : FuncIs Tryz.prog 215 c215 := ⟨Tryz.f215, Tryz.func215, by kernel_rfl, by kernel_rfl⟩
theorem i216 : FuncIs Tryz.prog 216 c216 := ⟨Tryz.f216, Tryz.func216, by kernel_rfl, by kernel_rfl⟩
theorem i217 : FuncIs Tryz.prog 217 c217 := ⟨Tryz.f217, Tryz.func217, by kernel_rfl, by kernel_rfl⟩
theorem i218 : FuncIs Tryz.prog 218 c218 := ⟨Tryz.f218, Tryz.func218, by kernel_rfl, by kernel_rfl⟩
theorem i219 : FuncIs Tryz.prog 219 c219 := ⟨Tryz.f219, Tryz.func219, by kernel_rfl, by kernel_rfl⟩
theorem i220 : FuncIs Tryz.prog 220 c220 := ⟨Tryz.f220, Tryz.func220, by kernel_rfl, by kernel_rfl⟩
theorem i221 : FuncIs Tryz.prog 221 c221 := ⟨Tryz.f221, Tryz.func221, by kernel_rfl, by kernel_rfl⟩
theorem i226 : FuncIs Tryz.prog 226 c226 := ⟨Tryz.f226, Tryz.func226, by kernel_rfl, by kernel_rfl⟩
theorem i227 : FuncIs Tryz.prog 227 c227 := ⟨Tryz.f227, Tryz.func227, by kernel_rfl, by kernel_rfl⟩
theorem i228 : FuncIs Tryz.prog 228 c228 := ⟨Tryz.f228, Tryz.func228, by kernel_rfl, by kernel_rfl⟩
theorem i230 : FuncIs Tryz.prog 230 c230 := ⟨Tryz.f230, Tryz.func230, by kernel_rfl, by kernel_rfl⟩
theorem i231 : FuncIs Tryz.prog 231 c231 := ⟨Tryz.f231, Tryz.func231, by kernel_rfl, by kernel_rfl⟩
theorem i232 : FuncIs Tryz.prog 232 c232 := ⟨Tryz.f232, Tryz.func232, by kernel_rfl, by kernel_rfl⟩
theorem i233 : FuncIs Tryz.prog 233 c233 := ⟨Tryz.f233, Tryz.func233, by kernel_rfl, by kernel_rfl⟩
theorem i234 : FuncIs Tryz.prog 234 c234 := ⟨Tryz.f234, Tryz.func234, by kernel_rfl, by kernel_rfl⟩
theorem i235 : FuncIs Tryz.prog 235 c235 := ⟨Tryz.f235, Tryz.func235, by kernel_rfl, by kernel_rfl⟩
theorem i236 : FuncIs Tryz.prog 236 c236 := ⟨Tryz.f236, Tryz.func236, by kernel_rfl, by kernel_rfl⟩
theorem i237 : FuncIs Tryz.prog 237 c237 := ⟨Tryz.f237, Tryz.func237, by kernel_rfl, by kernel_rfl⟩
theorem i238 : FuncIs Tryz.prog 238 c238 := ⟨Tryz.f238, Tryz.func238, by kernel_rfl, by kernel_rfl⟩
theorem i239 : FuncIs Tryz.prog 239 c239 := ⟨Tryz.f239, Tryz.func239, by kernel_rfl, by kernel_rfl⟩
theorem i240 : FuncIs Tryz.prog 240 c240 := ⟨Tryz.f240, Tryz.func240, by kernel_rfl, by kernel_rfl⟩
theorem i241 : FuncIs Tryz.prog 241 c241 := ⟨Tryz.f241, Tryz.func241, by kernel_rfl, by kernel_rfl⟩
theorem i242 : FuncIs Tryz.prog 242 c242 := ⟨Tryz.f242, Tryz.func242, by kernel_rfl, by kernel_rfl⟩
theorem i243 : FuncIs Tryz.prog 243 c243 := ⟨Tryz.f243, Tryz.func243, by kernel_rfl, by kernel_rfl⟩
theorem i247 : FuncIs Tryz.prog 247 c247 := ⟨Tryz.f247, Tryz.func247, by kernel_rfl, by kernel_rfl⟩
theorem i248 : FuncIs Tryz.prog 248 c248 := ⟨Tryz.f248, Tryz.func248, by kernel_rfl, by kernel_rfl⟩
theorem i249 : FuncIs Tryz.prog 249 c249 := ⟨Tryz.f249, Tryz.func249, by kernel_rfl, by kernel_rfl⟩
theorem i251 : FuncIs Tryz.prog 251 c251 := ⟨Tryz.f251, Tryz.func251, by kernel_rfl, by kernel_rfl⟩
theorem i252 : FuncIs Tryz.prog 252 c252 := ⟨Tryz.f252, Tryz.func252, by kernel_rfl, by kernel_rfl⟩
theorem i253 : FuncIs Tryz.prog 253 c253 := ⟨Tryz.f253, Tryz.func253, by kernel_rfl, by kernel_rfl⟩
theorem i254 : FuncIs Tryz.prog 254 c254 := ⟨Tryz.f254, Tryz.func254, by kernel_rfl, by kernel_rfl⟩
theorem i259 : FuncIs Tryz.prog 259 c259 := ⟨Tryz.f259, Tryz.func259, by kernel_rfl, by kernel_rfl⟩
theorem i265 : FuncIs Tryz.prog 265 c265 := ⟨Tryz.f265, Tryz.func265, by kernel_rfl, by kernel_rfl⟩
theorem i268 : FuncIs Tryz.prog 268 c268 := ⟨Tryz.f268, Tryz.func268, by kernel_rfl, by kernel_rfl⟩
theorem i269 : FuncIs Tryz.prog 269 c269 := ⟨Tryz.f269, Tryz.func269, by kernel_rfl, by kernel_rfl⟩
theorem i270 : FuncIs Tryz.prog 270 c270 := ⟨Tryz.f270, Tryz.func270, by kernel_rfl, by kernel_rfl⟩
theorem i271 : FuncIs Tryz.prog 271 c271 := ⟨Tryz.f271, Tryz.func271, by kernel_rfl, by kernel_rfl⟩
theorem i272 : FuncIs Tryz.prog 272 c272 := ⟨Tryz.f272, Tryz.func272, by kernel_rfl, by kernel_rfl⟩
theorem i273 : FuncIs Tryz.prog 273 c273 := ⟨Tryz.f273, Tryz.func273, by kernel_rfl, by kernel_rfl⟩
theorem i274 : FuncIs Tryz.prog 274 c274 := ⟨Tryz.f274, Tryz.func274, by kernel_rfl, by kernel_rfl⟩
theorem i275 : FuncIs Tryz.prog 275 c275 := ⟨Tryz.f275, Tryz.func275, by kernel_rfl, by kernel_rfl⟩
theorem i277 : FuncIs Tryz.prog 277 c277 := ⟨Tryz.f277, Tryz.func277, by kernel_rfl, by kernel_rfl⟩
theorem i278 : FuncIs Tryz.prog 278 c278 := ⟨Tryz.f278, Tryz.func278, by kernel_rfl, by kernel_rfl⟩
theorem i279 : FuncIs Tryz.prog 279 c279 := ⟨Tryz.f279, Tryz.func279, by kernel_rfl, by kernel_rfl⟩
theorem i280 : FuncIs Tryz.prog 280 c280 := ⟨Tryz.f280, Tryz.func280, by kernel_rfl, by kernel_rfl⟩
theorem i281 : FuncIs Tryz.prog 281 c281 := ⟨Tryz.f281, Tryz.func281, by kernel_rfl, by kernel_rfl⟩
theorem i282 : FuncIs Tryz.prog 282 c282 := ⟨Tryz.f282, Tryz.func282, by kernel_rfl, by kernel_rfl⟩
theorem i283 : FuncIs Tryz.prog 283 c283 := ⟨Tryz.f283, Tryz.func283, by kernel_rfl, by kernel_rfl⟩
theorem i284 : FuncIs Tryz.prog 284 c284 := ⟨Tryz.f284, Tryz.func284, by kernel_rfl, by kernel_rfl⟩
theorem i288 : FuncIs Tryz.prog 288 c288 := ⟨Tryz.f288, Tryz.func288, by kernel_rfl, by kernel_rfl⟩
theorem i289 : FuncIs Tryz.prog 289 c289 := ⟨Tryz.f289, Tryz.func289, by kernel_rfl, by kernel_rfl⟩
theorem i290 : FuncIs Tryz.prog 290 c290 := ⟨Tryz.f290, Tryz.func290, by kernel_rfl, by kernel_rfl⟩
theorem i291 : FuncIs Tryz.prog 291 c291 := ⟨Tryz.f291, Tryz.func291, by kernel_rfl, by kernel_rfl⟩
theorem i292 : FuncIs Tryz.prog 292 c292 := ⟨Tryz.f292, Tryz.func292, by kernel_rfl, by kernel_rfl⟩
theorem i293 : FuncIs Tryz.prog 293 c293 := ⟨Tryz.f293, Tryz.func293, by kernel_rfl, by kernel_rfl⟩
theorem i299 : FuncIs Tryz.prog 299 c299 := ⟨Tryz.f299, Tryz.func299, by kernel_rfl, by kernel_rfl⟩
theorem i303 : FuncIs Tryz.prog 303 c303 := ⟨Tryz.f303, Tryz.func303, by kernel_rfl, by kernel_rfl⟩
theorem i304 : FuncIs Tryz.prog 304 c304 := ⟨Tryz.f304, Tryz.func304, by kernel_rfl, by kernel_rfl⟩
theorem i305 : FuncIs Tryz.prog 305 c305 := ⟨Tryz.f305, Tryz.func305, by kernel_rfl, by kernel_rfl⟩
theorem i306 : FuncIs Tryz.prog 306 c306 := ⟨Tryz.f306, Tryz.func306, by kernel_rfl, by kernel_rfl⟩
theorem i307 : FuncIs Tryz.prog 307 c307 := ⟨Tryz.f307, Tryz.func307, by kernel_rfl, by kernel_rfl⟩
theorem i308 : FuncIs Tryz.prog 308 c308 := ⟨Tryz.f308, Tryz.func308, by kernel_rfl, by kernel_rfl⟩
theorem i310 : FuncIs Tryz.prog 310 c310 := ⟨Tryz.f310, Tryz.func310, by kernel_rfl, by kernel_rfl⟩
theorem i311 : FuncIs Tryz.prog 311 c311 := ⟨Tryz.f311, Tryz.func311, by kernel_rfl, by kernel_rfl⟩
theorem i312 : FuncIs Tryz.prog 312 c312 := ⟨Tryz.f312, Tryz.func312, by kernel_rfl, by kernel_rfl⟩
theorem i318 : FuncIs Tryz.prog 318 c318 := ⟨Tryz.f318, Tryz.func318, by kernel_rfl, by kernel_rfl⟩
theorem i319 : FuncIs Tryz.prog 319 c319 := ⟨Tryz.f319, Tryz.func319, by kernel_rfl, by kernel_rfl⟩
theorem i322 : FuncIs Tryz.prog 322 c322 := ⟨Tryz.f322, Tryz.func322, by kernel_rfl, by kernel_rfl⟩
theorem i323 : FuncIs Tryz.prog 323 c323 := ⟨Tryz.f323, Tryz.func323, by kernel_rfl, by kernel_rfl⟩
theorem i324 : FuncIs Tryz.prog 324 c324 := ⟨Tryz.f324, Tryz.func324, by kernel_rfl, by kernel_rfl⟩
theorem i325 : FuncIs Tryz.prog 325 c325 := ⟨Tryz.f325, Tryz.func325, by kernel_rfl, by kernel_rfl⟩
theorem i326 : FuncIs Tryz.prog 326 c326 := ⟨Tryz.f326, Tryz.func326, by kernel_rfl, by kernel_rfl⟩
theorem i327 : FuncIs Tryz.prog 327 c327 := ⟨Tryz.f327, Tryz.func327, by kernel_rfl, by kernel_rfl⟩
theorem i328 : FuncIs Tryz.prog 328 c328 := ⟨Tryz.f328, Tryz.func328, by kernel_rfl, by kernel_rfl⟩
theorem i329 : FuncIs Tryz.prog 329 c329 := ⟨Tryz.f329, Tryz.func329, by kernel_rfl, by kernel_rfl⟩
theorem i331 : FuncIs Tryz.prog 331 c331 := ⟨Tryz.f331, Tryz.func331, by kernel_rfl, by kernel_rfl⟩
theorem i332 : FuncIs Tryz.prog 332 c332 := ⟨Tryz.f332, Tryz.func332, by kernel_rfl, by kernel_rfl⟩
theorem i333 : FuncIs Tryz.prog 333 c333 := ⟨Tryz.f333, Tryz.func333, by kernel_rfl, by kernel_rfl⟩
theorem i334 : FuncIs Tryz.prog 334 c334 := ⟨Tryz.f334, Tryz.func334, by kernel_rfl, by kernel_rfl⟩
theorem i335 : FuncIs Tryz.prog 335 c335 := ⟨Tryz.f335, Tryz.func335, by kernel_rfl, by kernel_rfl⟩
theorem i336 : FuncIs Tryz.prog 336 c336 := ⟨Tryz.f336, Tryz.func336, by kernel_rfl, by kernel_rfl⟩
theorem i337 : FuncIs Tryz.prog 337 c337 := ⟨Tryz.f337, Tryz.func337, by kernel_rfl, by kernel_rfl⟩
theorem i341 : FuncIs Tryz.prog 341 c341 := ⟨Tryz.f341, Tryz.func341, by kernel_rfl, by kernel_rfl⟩
theorem i342 : FuncIs Tryz.prog 342 c342 := ⟨Tryz.f342, Tryz.func342, by kernel_rfl, by kernel_rfl⟩
theorem i348 : FuncIs Tryz.prog 348 c348 := ⟨Tryz.f348, Tryz.func348, by kernel_rfl, by kernel_rfl⟩
theorem i350 : FuncIs Tryz.prog 350 c350 := ⟨Tryz.f350, Tryz.func350, by kernel_rfl, by kernel_rfl⟩
theorem i351 : FuncIs Tryz.prog 351 c351 := ⟨Tryz.f351, Tryz.func351, by kernel_rfl, by kernel_rfl⟩
theorem i352 : FuncIs Tryz.prog 352 c352 := ⟨Tryz.f352, Tryz.func352, by kernel_rfl, by kernel_rfl⟩
theorem i353 : FuncIs Tryz.prog 353 c353 := ⟨Tryz.f353, Tryz.func353, by kernel_rfl, by kernel_rfl⟩
theorem i354 : FuncIs Tryz.prog 354 c354 := ⟨Tryz.f354, Tryz.func354, by kernel_rfl, by kernel_rfl⟩
theorem i355 : FuncIs Tryz.prog 355 c355 := ⟨Tryz.f355, Tryz.func355, by kernel_rfl, by kernel_rfl⟩
theorem i356 : FuncIs Tryz.prog 356 c356 := ⟨Tryz.f356, Tryz.func356, by kernel_rfl, by kernel_rfl⟩
theorem i357 : FuncIs Tryz.prog 357 c357 := ⟨Tryz.f357, Tryz.func357, by kernel_rfl, by kernel_rfl⟩
theorem i358 : FuncIs Tryz.prog 358 c358 := ⟨Tryz.f358, Tryz.func358, by kernel_rfl, by kernel_rfl⟩
theorem i359 : FuncIs Tryz.prog 359 c359 := ⟨Tryz.f359, Tryz.func359, by kernel_rfl, by kernel_rfl⟩
theorem i360 : FuncIs Tryz.prog 360 c360 := ⟨Tryz.f360, Tryz.func360, by kernel_rfl, by kernel_rfl⟩
theorem i361 : FuncIs Tryz.prog 361 c361 := ⟨Tryz.f361, Tryz.func361, by kernel_rfl, by kernel_rfl⟩
theorem i375 : FuncIs Tryz.prog 375 c375 := ⟨Tryz.f375, Tryz.func375, by kernel_rfl, by kernel_rfl⟩
theorem i376 : FuncIs Tryz.prog 376 c376 := ⟨Tryz.f376, Tryz.func376, by kernel_rfl, by kernel_rfl⟩
theorem i377 : FuncIs Tryz.prog 377 c377 := ⟨Tryz.f377, Tryz.func377, by kernel_rfl, by kernel_rfl⟩
theorem i378 : FuncIs Tryz.prog 378 c378 := ⟨Tryz.f378, Tryz.func378, by kernel_rfl, by kernel_rfl⟩
theorem i379 : FuncIs Tryz.prog 379 c379 := ⟨Tryz.f379, Tryz.func379, by kernel_rfl, by kernel_rfl⟩
theorem i380 : FuncIs Tryz.prog 380 c380 := ⟨Tryz.f380, Tryz.func380, by kernel_rfl, by kernel_rfl⟩
theorem i381 : FuncIs Tryz.prog 381 c381 := ⟨Tryz.f381, Tryz.func381, by kernel_rfl, by kernel_rfl⟩
theorem i382 : FuncIs Tryz.prog 382 c382 := ⟨Tryz.f382, Tryz.func382, by kernel_rfl, by kernel_rfl⟩
theorem i383 : FuncIs Tryz.prog 383 c383 := ⟨Tryz.f383, Tryz.func383, by kernel_rfl, by kernel_rfl⟩
theorem i384 : FuncIs Tryz.prog 384 c384 := ⟨Tryz.f384, Tryz.func384, by kernel_rfl, by kernel_rfl⟩
theorem i385 : FuncIs Tryz.prog 385 c385 := ⟨Tryz.f385, Tryz.func385, by kernel_rfl, by kernel_rfl⟩
theorem i386 : FuncIs Tryz.prog 386 c386 := ⟨Tryz.f386, Tryz.func386, by kernel_rfl, by kernel_rfl⟩
theorem i387 : FuncIs Tryz.prog 387 c387 := ⟨Tryz.f387, Tryz.func387, by kernel_rfl, by kernel_rfl⟩
theorem i388 : FuncIs Tryz.prog 388 c388 := ⟨Tryz.f388, Tryz.func388, by kernel_rfl, by kernel_rfl⟩
theorem i396 : FuncIs Tryz.prog 396 c396 := ⟨Tryz.f396, Tryz.func396, by kernel_rfl, by kernel_rfl⟩
theorem i397 : FuncIs Tryz.prog 397 c397 := ⟨Tryz.f397, Tryz.func397, by kernel_rfl, by kernel_rfl⟩
theorem i398 : FuncIs Tryz.prog 398 c398 := ⟨Tryz.f398, Tryz.func398, by kernel_rfl, by kernel_rfl⟩
theorem i402 : FuncIs Tryz.prog 402 c402 := ⟨Tryz.f402, Tryz.func402, by kernel_rfl, by kernel_rfl⟩
def ft : FT := (.node 164 (.node 81 (.node 41 (.node 21 (.node 12 (.node 7 (.node 5 (.node 4 (.one 3 c3) (.one 4 c4)) (.node 6 (.one 5 c5) (.one 6 c6))) (.node 9 (.node 8 (.one 7 c7) (.one 8 c8)) (.node 10 (.one 9 c9) (.node 11 (.one 10 c10) (.one 11 c11))))) (.node 16 (.node 14 (.node 13 (.one 12 c12) (.one 13 c13)) (.node 15 (.one 14 c14) (.one 15 c15))) (.node 18 (.node 17 (.one 16 c16) (.one 17 c17)) (.node 19 (.one 18 c18) (.node 20 (.one 19 c19) (.one 20 c20)))))) (.node 30 (.node 25 (.node 23 (.node 22 (.one 21 c21) (.one 22 c22)) (.node 24 (.one 23 c23) (.one 24 c24))) (.node 27 (.node 26 (.one 25 c25) (.one 26 c26)) (.node 28 (.one 27 c27) (.node 29 (.one 28 c28) (.one 29 c29))))) (.node 34 (.node 32 (.node 31 (.one 30 c30) (.one 31 c31)) (.node 33 (.one 32 c32) (.one 33 c33))) (.node 36 (.node 35 (.one 34 c34) (.one 35 c35)) (.node 37 (.one 36 c36) (.node 38 (.one 37 c37) (.one 38 c38))))))) (.node 59 (.node 50 (.node 45 (.node 43 (.node 42 (.one 41 c41) (.one 42 c42)) (.node 44 (.one 43 c43) (.one 44 c44))) (.node 47 (.node 46 (.one 45 c45) (.one 46 c46)) (.node 48 (.one 47 c47) (.node 49 (.one 48 c48) (.one 49 c49))))) (.node 54 (.node 52 (.node 51 (.one 50 c50) (.one 51 c51)) (.node 53 (.one 52 c52) (.one 53 c53))) (.node 56 (.node 55 (.one 54 c54) (.one 55 c55)) (.node 57 (.one 56 c56) (.node 58 (.one 57 c57) (.one 58 c58)))))) (.node 71 (.node 63 (.node 61 (.node 60 (.one 59 c59) (.one 60 c60)) (.node 62 (.one 61 c61) (.one 62 c62))) (.node 65 (.node 64 (.one 63 c63) (.one 64 c64)) (.node 66 (.one 65 c65) (.node 70 (.one 66 c66) (.one 70 c70))))) (.node 76 (.node 73 (.node 72 (.one 71 c71) (.one 72 c72)) (.node 74 (.one 73 c73) (.node 75 (.one 74 c74) (.one 75 c75)))) (.node 78 (.node 77 (.one 76 c76) (.one 77 c77)) (.node 79 (.one 78 c78) (.node 80 (.one 79 c79) (.one 80 c80)))))))) (.node 121 (.node 99 (.node 90 (.node 85 (.node 83 (.node 82 (.one 81 c81) (.one 82 c82)) (.node 84 (.one 83 c83) (.one 84 c84))) (.node 87 (.node 86 (.one 85 c85) (.one 86 c86)) (.node 88 (.one 87 c87) (.node 89 (.one 88 c88) (.one 89 c89))))) (.node 94 (.node 92 (.node 91 (.one 90 c90) (.one 91 c91)) (.node 93 (.one 92 c92) (.one 93 c93))) (.node 96 (.node 95 (.one 94 c94) (.one 95 c95)) (.node 97 (.one 96 c96) (.node 98 (.one 97 c97) (.one 98 c98)))))) (.node 111 (.node 103 (.node 101 (.node 100 (.one 99 c99) (.one 100 c100)) (.node 102 (.one 101 c101) (.one 102 c102))) (.node 105 (.node 104 (.one 103 c103) (.one 104 c104)) (.node 106 (.one 105 c105) (.node 110 (.one 106 c106) (.one 110 c110))))) (.node 116 (.node 113 (.node 112 (.one 111 c111) (.one 112 c112)) (.node 114 (.one 113 c113) (.node 115 (.one 114 c114) (.one 115 c115)))) (.node 118 (.node 117 (.one 116 c116) (.one 117 c117)) (.node 119 (.one 118 c118) (.node 120 (.one 119 c119) (.one 120 c120))))))) (.node 141 (.node 132 (.node 125 (.node 123 (.node 122 (.one 121 c121) (.one 122 c122)) (.node 124 (.one 123 c123) (.one 124 c124))) (.node 127 (.node 126 (.one 125 c125) (.one 126 c126)) (.node 129 (.one 127 c127) (.node 130 (.one 129 c129) (.one 130 c130))))) (.node 136 (.node 134 (.node 133 (.one 132 c132) (.one 133 c133)) (.node 135 (.one 134 c134) (.one 135 c135))) (.node 138 (.node 137 (.one 136 c136) (.one 137 c137)) (.node 139 (.one 138 c138) (.node 140 (.one 139 c139) (.one 140 c140)))))) (.node 153 (.node 148 (.node 146 (.node 145 (.one 141 c141) (.one 145 c145)) (.node 147 (.one 146 c146) (.one 147 c147))) (.node 150 (.node 149 (.one 148 c148) (.one 149 c149)) (.node 151 (.one 150 c150) (.node 152 (.one 151 c151) (.one 152 c152))))) (.node 158 (.node 155 (.node 154 (.one 153 c153) (.one 154 c154)) (.node 156 (.one 155 c155) (.node 157 (.one 156 c156) (.one 157 c157)))) (.node 160 (.node 159 (.one 158 c158) (.one 159 c159)) (.node 161 (.one 160 c160) (.node 163 (.one 161 c161) (.one 163 c163))))))))) (.node 277 (.node 219 (.node 196 (.node 186 (.node 168 (.node 166 (.node 165 (.one 164 c164) (.one 165 c165)) (.node 167 (.one 166 c166) (.one 167 c167))) (.node 170 (.node 169 (.one 168 c168) (.one 169 c169)) (.node 184 (.one 170 c170) (.node 185 (.one 184 c184) (.one 185 c185))))) (.node 190 (.node 188 (.node 187 (.one 186 c186) (.one 187 c187)) (.node 189 (.one 188 c188) (.one 189 c189))) (.node 193 (.node 191 (.one 190 c190) (.one 191 c191)) (.node 194 (.one 193 c193) (.node 195 (.one 194 c194) (.one 195 c195)))))) (.node 206 (.node 201 (.node 199 (.node 198 (.one 196 c196) (.one 198 c198)) (.node 200 (.one 199 c199) (.one 200 c200))) (.node 203 (.node 202 (.one 201 c201) (.one 202 c202)) (.node 204 (.one 203 c203) (.node 205 (.one 204 c204) (.one 205 c205))))) (.node 213 (.node 210 (.node 209 (.one 206 c206) (.one 209 c209)) (.node 211 (.one 210 c210) (.node 212 (.one 211 c211) (.one 212 c212)))) (.node 216 (.node 215 (.one 213 c213) (.one 215 c215)) (.node 217 (.one 216 c216) (.node 218 (.one 217 c217) (.one 218 c218))))))) (.node 242 (.node 233 (.node 227 (.node 221 (.node 220 (.one 219 c219) (.one 220 c220)) (.node 226 (.one 221 c221) (.one 226 c226))) (.node 230 (.node 228 (.one 227 c227) (.one 228 c228)) (.node 231 (.one 230 c230) (.node 232 (.one 231 c231) (.one 232 c232))))) (.node 237 (.node 235 (.node 234 (.one 233 c233) (.one 234 c234)) (.node 236 (.one 235 c235) (.one 236 c236))) (.node 239 (.node 238 (.one 237 c237) (.one 238 c238)) (.node 240 (.one 239 c239) (.node 241 (.one 240 c240) (.one 241 c241)))))) (.node 259 (.node 249 (.node 247 (.node 243 (.one 242 c242) (.one 243 c243)) (.node 248 (.one 247 c247) (.one 248 c248))) (.node 252 (.node 251 (.one 249 c249) (.one 251 c251)) (.node 253 (.one 252 c252) (.node 254 (.one 253 c253) (.one 254 c254))))) (.node 271 (.node 268 (.node 265 (.one 259 c259) (.one 265 c265)) (.node 269 (.one 268 c268) (.node 270 (.one 269 c269) (.one 270 c270)))) (.node 273 (.node 272 (.one 271 c271) (.one 272 c272)) (.node 274 (.one 273 c273) (.node 275 (.one 274 c274) (.one 275 c275)))))))) (.node 334 (.node 306 (.node 289 (.node 281 (.node 279 (.node 278 (.one 277 c277) (.one 278 c278)) (.node 280 (.one 279 c279) (.one 280 c280))) (.node 283 (.node 282 (.one 281 c281) (.one 282 c282)) (.node 284 (.one 283 c283) (.node 288 (.one 284 c284) (.one 288 c288))))) (.node 293 (.node 291 (.node 290 (.one 289 c289) (.one 290 c290)) (.node 292 (.one 291 c291) (.one 292 c292))) (.node 303 (.node 299 (.one 293 c293) (.one 299 c299)) (.node 304 (.one 303 c303) (.node 305 (.one 304 c304) (.one 305 c305)))))) (.node 323 (.node 311 (.node 308 (.node 307 (.one 306 c306) (.one 307 c307)) (.node 310 (.one 308 c308) (.one 310 c310))) (.node 318 (.node 312 (.one 311 c311) (.one 312 c312)) (.node 319 (.one 318 c318) (.node 322 (.one 319 c319) (.one 322 c322))))) (.node 328 (.node 325 (.node 324 (.one 323 c323) (.one 324 c324)) (.node 326 (.one 325 c325) (.node 327 (.one 326 c326) (.one 327 c327)))) (.node 331 (.node 329 (.one 328 c328) (.one 329 c329)) (.node 332 (.one 331 c331) (.node 333 (.one 332 c332) (.one 333 c333))))))) (.node 361 (.node 352 (.node 341 (.node 336 (.node 335 (.one 334 c334) (.one 335 c335)) (.node 337 (.one 336 c336) (.one 337 c337))) (.node 348 (.node 342 (.one 341 c341) (.one 342 c342)) (.node 350 (.one 348 c348) (.node 351 (.one 350 c350) (.one 351 c351))))) (.node 356 (.node 354 (.node 353 (.one 352 c352) (.one 353 c353)) (.node 355 (.one 354 c354) (.one 355 c355))) (.node 358 (.node 357 (.one 356 c356) (.one 357 c357)) (.node 359 (.one 358 c358) (.node 360 (.one 359 c359) (.one 360 c360)))))) (.node 383 (.node 378 (.node 376 (.node 375 (.one 361 c361) (.one 375 c375)) (.node 377 (.one 376 c376) (.one 377 c377))) (.node 380 (.node 379 (.one 378 c378) (.one 379 c379)) (.node 381 (.one 380 c380) (.node 382 (.one 381 c381) (.one 382 c382))))) (.node 388 (.node 385 (.node 384 (.one 383 c383) (.one 384 c384)) (.node 386 (.one 385 c385) (.node 387 (.one 386 c386) (.one 387 c387)))) (.node 397 (.node 396 (.one 388 c388) (.one 396 c396)) (.node 398 (.one 397 c397) (.node 402 (.one 398 c398) (.one 402 c402))))))))))
theorem ft_ok : ft.All (FuncIs Tryz.prog) := ⟨⟨⟨⟨⟨⟨⟨⟨i3, i4⟩, ⟨i5, i6⟩⟩, ⟨⟨i7, i8⟩, ⟨i9, ⟨i10, i11⟩⟩⟩⟩, ⟨⟨⟨i12, i13⟩, ⟨i14, i15⟩⟩, ⟨⟨i16, i17⟩, ⟨i18, ⟨i19, i20⟩⟩⟩⟩⟩, ⟨⟨⟨⟨i21, i22⟩, ⟨i23, i24⟩⟩, ⟨⟨i25, i26⟩, ⟨i27, ⟨i28, i29⟩⟩⟩⟩, ⟨⟨⟨i30, i31⟩, ⟨i32, i33⟩⟩, ⟨⟨i34, i35⟩, ⟨i36, ⟨i37, i38⟩⟩⟩⟩⟩⟩, ⟨⟨⟨⟨⟨i41, i42⟩, ⟨i43, i44⟩⟩, ⟨⟨i45, i46⟩, ⟨i47, ⟨i48, i49⟩⟩⟩⟩, ⟨⟨⟨i50, i51⟩, ⟨i52, i53⟩⟩, ⟨⟨i54, i55⟩, ⟨i56, ⟨i57, i58⟩⟩⟩⟩⟩, ⟨⟨⟨⟨i59, i60⟩, ⟨i61, i62⟩⟩, ⟨⟨i63, i64⟩, ⟨i65, ⟨i66, i70⟩⟩⟩⟩, ⟨⟨⟨i71, i72⟩, ⟨i73, ⟨i74, i75⟩⟩⟩, ⟨⟨i76, i77⟩, ⟨i78, ⟨i79, i80⟩⟩⟩⟩⟩⟩⟩, ⟨⟨⟨⟨⟨⟨i81, i82⟩, ⟨i83, i84⟩⟩, ⟨⟨i85, i86⟩, ⟨i87, ⟨i88, i89⟩⟩⟩⟩, ⟨⟨⟨i90, i91⟩, ⟨i92, i93⟩⟩, ⟨⟨i94, i95⟩, ⟨i96, ⟨i97, i98⟩⟩⟩⟩⟩, ⟨⟨⟨⟨i99, i100⟩, ⟨i101, i102⟩⟩, ⟨⟨i103, i104⟩, ⟨i105, ⟨i106, i110⟩⟩⟩⟩, ⟨⟨⟨i111, i112⟩, ⟨i113, ⟨i114, i115⟩⟩⟩, ⟨⟨i116, i117⟩, ⟨i118, ⟨i119, i120⟩⟩⟩⟩⟩⟩, ⟨⟨⟨⟨⟨i121, i122⟩, ⟨i123, i124⟩⟩, ⟨⟨i125, i126⟩, ⟨i127, ⟨i129, i130⟩⟩⟩⟩, ⟨⟨⟨i132, i133⟩, ⟨i134, i135⟩⟩, ⟨⟨i136, i137⟩, ⟨i138, ⟨i139, i140⟩⟩⟩⟩⟩, ⟨⟨⟨⟨i141, i145⟩, ⟨i146, i147⟩⟩, ⟨⟨i148, i149⟩, ⟨i150, ⟨i151, i152⟩⟩⟩⟩, ⟨⟨⟨i153, i154⟩, ⟨i155, ⟨i156, i157⟩⟩⟩, ⟨⟨i158, i159⟩, ⟨i160, ⟨i161, i163⟩⟩⟩⟩⟩⟩⟩⟩, ⟨⟨⟨⟨⟨⟨⟨i164, i165⟩, ⟨i166, i167⟩⟩, ⟨⟨i168, i169⟩, ⟨i170, ⟨i184, i185⟩⟩⟩⟩, ⟨⟨⟨i186, i187⟩, ⟨i188, i189⟩⟩, ⟨⟨i190, i191⟩, ⟨i193, ⟨i194, i195⟩⟩⟩⟩⟩, ⟨⟨⟨⟨i196, i198⟩, ⟨i199, i200⟩⟩, ⟨⟨i201, i202⟩, ⟨i203, ⟨i204, i205⟩⟩⟩⟩, ⟨⟨⟨i206, i209⟩, ⟨i210, ⟨i211, i212⟩⟩⟩, ⟨⟨i213, i215⟩, ⟨i216, ⟨i217, i218⟩⟩⟩⟩⟩⟩, ⟨⟨⟨⟨⟨i219, i220⟩, ⟨i221, i226⟩⟩, ⟨⟨i227, i228⟩, ⟨i230, ⟨i231, i232⟩⟩⟩⟩, ⟨⟨⟨i233, i234⟩, ⟨i235, i236⟩⟩, ⟨⟨i237, i238⟩, ⟨i239, ⟨i240, i241⟩⟩⟩⟩⟩, ⟨⟨⟨⟨i242, i243⟩, ⟨i247, i248⟩⟩, ⟨⟨i249, i251⟩, ⟨i252, ⟨i253, i254⟩⟩⟩⟩, ⟨⟨⟨i259, i265⟩, ⟨i268, ⟨i269, i270⟩⟩⟩, ⟨⟨i271, i272⟩, ⟨i273, ⟨i274, i275⟩⟩⟩⟩⟩⟩⟩, ⟨⟨⟨⟨⟨⟨i277, i278⟩, ⟨i279, i280⟩⟩, ⟨⟨i281, i282⟩, ⟨i283, ⟨i284, i288⟩⟩⟩⟩, ⟨⟨⟨i289, i290⟩, ⟨i291, i292⟩⟩, ⟨⟨i293, i299⟩, ⟨i303, ⟨i304, i305⟩⟩⟩⟩⟩, ⟨⟨⟨⟨i306, i307⟩, ⟨i308, i310⟩⟩, ⟨⟨i311, i312⟩, ⟨i318, ⟨i319, i322⟩⟩⟩⟩, ⟨⟨⟨i323, i324⟩, ⟨i325, ⟨i326, i327⟩⟩⟩, ⟨⟨i328, i329⟩, ⟨i331, ⟨i332, i333⟩⟩⟩⟩⟩⟩, ⟨⟨⟨⟨⟨i334, i335⟩, ⟨i336, i337⟩⟩, ⟨⟨i341, i342⟩, ⟨i348, ⟨i350, i351⟩⟩⟩⟩, ⟨⟨⟨i352, i353⟩, ⟨i354, i355⟩⟩, ⟨⟨i356, i357⟩, ⟨i358, ⟨i359, i360⟩⟩⟩⟩⟩, ⟨⟨⟨⟨i361, i375⟩, ⟨i376, i377⟩⟩, ⟨⟨i378, i379⟩, ⟨i380, ⟨i381, i382⟩⟩⟩⟩, ⟨⟨⟨i383, i384⟩, ⟨i385, ⟨i386, i387⟩⟩⟩, ⟨⟨i388, i396⟩, ⟨i397, ⟨i398, i402⟩⟩⟩⟩⟩⟩⟩⟩⟩
def pureM : Nat := 17730385009532611762387061698245252832960929966686134976971941554798235197066676424278276177912
def extF (i : Nat) : Nat := cond (Nat.beq i 339) 1 (cond (Nat.beq i 343) 2 (cond (Nat.beq i 287) 3 0))

def gl0 : AV := (.ag [(.b false), (.b false), (.i .u8 0), (.i .i64 0), (.i .i64 0), (.b true), (.b true), (.i .u8 1), (.i .i64 4), (.i .i64 0), (.b true), (.b true), (.i .u8 0), (.i .i64 0), (.i .i64 0), (.b true), (.b true), (.i .u8 0), (.i .i64 0), (.i .i64 1), (.b true), (.b true), (.i .u8 0), (.i .i64 0), (.i .i64 2), (.b true), (.b true), (.i .u8 0), (.i .i64 0), (.i .i64 2), (.b true), (.b true), (.i .u8 0), (.i .i64 0), (.i .i64 2), (.b true), (.b true), (.i .u8 0), (.i .i64 0), (.i .i64 2), (.b true), (.b true), (.i .u8 2), (.i .i64 0), (.i .i64 1), (.b true), (.b true), (.i .u8 2), (.i .i64 0), (.i .i64 1), (.b true), (.b true), (.i .u8 0), (.i .i64 0), (.i .i64 1), (.b true), (.b true), (.i .u8 0), (.i .i64 0), (.i .i64 1), (.b true), (.b true), (.i .u8 0), (.i .i64 0), (.i .i64 1), (.b true), (.b true), (.i .u8 0), (.i .i64 0), (.i .i64 1), (.b true), (.b true), (.i .u8 0), (.i .i64 0), (.i .i64 2), (.b false), (.b true), (.i .u8 3), (.i .i64 0), (.i .i64 0), (.b false), (.b true), (.i .u8 3), (.i .i64 2), (.i .i64 0)])
def gl1 : AV := (.ag [(.i .u8 0), (.i .u8 0), (.i .u8 0), (.i .u8 0), (.i .u8 0), (.i .u8 0), (.i .u8 0), (.i .u8 0), (.i .u8 0), (.i .u8 1), (.i .u8 1), (.i .u8 1), (.i .u8 1), (.i .u8 1), (.i .u8 0), (.i .u8 0), (.i .u8 0), (.i .u8 0), (.i .u8 0), (.i .u8 0), (.i .u8 0), (.i .u8 0), (.i .u8 0), (.i .u8 0), (.i .u8 0), (.i .u8 0), (.i .u8 0), (.i .u8 0), (.i .u8 0), (.i .u8 0), (.i .u8 0), (.i .u8 0), (.i .u8 1), (.i .u8 0), (.i .u8 0), (.i .u8 0), (.i .u8 0), (.i .u8 0), (.i .u8 0), (.i .u8 0), (.i .u8 0), (.i .u8 0), (.i .u8 0), (.i .u8 0), (.i .u8 0), (.i .u8 0), (.i .u8 0), (.i .u8 0), (.i .u8 0), (.i .u8 0), (.i .u8 0), (.i .u8 0), (.i .u8 0), (.i .u8 0), (.i .u8 0), (.i .u8 0), (.i .u8 0), (.i .u8 0), (.i .u8 0), (.i .u8 0), (.i .u8 0), (.i .u8 0), (.i .u8 0), (.i .u8 0), (.i .u8 0), (.i .u8 0), (.i .u8 0), (.i .u8 0), (.i .u8 0), (.i .u8 0), (.i .u8 0), (.i .u8 0), (.i .u8 0), (.i .u8 0), (.i .u8 0), (.i .u8 0), (.i .u8 0), (.i .u8 0), (.i .u8 0), (.i .u8 0), (.i .u8 0), (.i .u8 0), (.i .u8 0), (.i .u8 0), (.i .u8 0), (.i .u8 0), (.i .u8 0), (.i .u8 0), (.i .u8 0), (.i .u8 0), (.i .u8 0), (.i .u8 0), (.i .u8 0), (.i .u8 0), (.i .u8 0), (.i .u8 0), (.i .u8 0), (.i .u8 0), (.i .u8 0), (.i .u8 0), (.i .u8 0), (.i .u8 0), (.i .u8 0), (.i .u8 0), (.i .u8 0), (.i .u8 0), (.i .u8 0), (.i .u8 0), (.i .u8 0), (.i .u8 0), (.i .u8 0), (.i .u8 0), (.i .u8 0), (.i .u8 0), (.i .u8 0), (.i .u8 0), (.i .u8 0), (.i .u8 0), (.i .u8 0), (.i .u8 0), (.i .u8 0), (.i .u8 0), (.i .u8 0), (.i .u8 0), (.i .u8 0), (.i .u8 0), (.i .u8 0), (.i .u8 0), (.i .u8 0), (.i .u8 0), (.i .u8 0), (.i .u8 0), (.i .u8 0), (.i .u8 0), (.i .u8 0), (.i .u8 0), (.i .u8 0), (.i .u8 0), (.i .u8 0), (.i .u8 0), (.i .u8 0), (.i .u8 0), (.i .u8 0), (.i .u8 0), (.i .u8 0), (.i .u8 0), (.i .u8 0), (.i .u8 0), (.i .u8 0), (.i .u8 0), (.i .u8 0), (.i .u8 0), (.i .u8 0), (.i .u8 0), (.i .u8 0), (.i .u8 0), (.i .u8 0), (.i .u8 0), (.i .u8 0), (.i .u8 0), (.i .u8 0), (.i .u8 0), (.i .u8 0), (.i .u8 0), (.i .u8 0), (.i .u8 0), (.i .u8 0), (.i .u8 0), (.i .u8 0), (.i .u8 0), (.i .u8 0), (.i .u8 0), (.i .u8 0), (.i .u8 0), (.i .u8 0), (.i .u8 0), (.i .u8 0), (.i .u8 0), (.i .u8 0), (.i .u8 0), (.i .u8 0), (.i .u8 0), (.i .u8 0), (.i .u8 0), (.i .u8 0), (.i .u8 0), (.i .u8 0), (.i .u8 0), (.i .u8 0), (.i .u8 0), (.i .u8 0), (.i .u8 0), (.i .u8 0), (.i .u8 0), (.i .u8 0), (.i .u8 0), (.i .u8 0), (.i .u8 0), (.i .u8 0), (.i .u8 0), (.i .u8 0), (.i .u8 0), (.i .u8 0), (.i .u8 0), (.i .u8 0), (.i .u8 0), (.i .u8 0), (.i .u8 0), (.i .u8 0), (.i .u8 0), (.i .u8 0), (.i .u8 0), (.i .u8 0), (.i .u8 0), (.i .u8 0), (.i .u8 0), (.i .u8 0), (.i .u8 0), (.i .u8 0), (.i .u8 0), (.i .u8 0), (.i .u8 0), (.i .u8 0), (.i .u8 0), (.i .u8 0), (.i .u8 0), (.i .u8 0), (.i .u8 0), (.i .u8 0), (.i .u8 0), (.i .u8 0), (.i .u8 0), (.i .u8 0), (.i .u8 0), (.i .u8 0), (.i .u8 0), (.i .u8 0), (.i .u8 0), (.i .u8 0), (.i .u8 0), (.i .u8 0), (.i .u8 0), (.i .u8 0), (.i .u8 0), (.i .u8 0), (.i .u8 0), (.i .u8 0), (.i .u8 0), (.i .u8 0), (.i .u8 0), (.i .u8 0), (.i .u8 0), (.i .u8 0), (.i .u8 0), (.i .u8 0), (.i .u8 0)])
def gl3 : AV := (.ag [(.s [60, 45, 62]), (.i .u8 7), (.b false), (.s [45, 62]), (.i .u8 6), (.b true), (.s [117, 110, 116, 105, 108]), (.i .u8 14), (.b true), (.s [124]), (.i .u8 5), (.b false), (.s [38]), (.i .u8 4), (.b false)])
def gl8 : AV := (.ag [(.s [60, 45, 62]), (.s [45, 62]), (.s [91, 93]), (.s [60, 62]), (.s [40]), (.s [41]), (.s [44]), (.s [126]), (.s [38]), (.s [124]), (.s [47]), (.s [91]), (.s [93])])
def laid : List (String × DataW Unit) := Go.Proofs.YtidpbebfkcnlfaaGreatDoor.Rows.fallacyWrongRow.laid
def laidNames : List String := ((laid.drop 5).take 4).map Prod.fst
def globL : List (Nat × AV) := [(1, gl1), (0, gl0), (8, gl8), (3, gl3)]
theorem globL_ok : mapOL (avVar Tryz.prog 12) (laid.filter fun x => laidNames.contains x.1) = some globL := by kernel_rfl
def base : Base := { funcs := ft, glob := lookG globL, pure := fun g => Nat.testBit pureM g, fz := 0, ext := extF }
variable [Tok] [TokOk]
theorem base_ok : BaseOk Tryz.prog base where
  funcs := ft_ok
  orders := by kernel_rfl
  ext g hg args v h w m O B us cs ha := by
    have hb : base.ext g = cond (Nat.beq g 339) 1 (cond (Nat.beq g 343) 2 (cond (Nat.beq g 287) 3 0)) := rfl
    rw [hb] at hg h
    cases h1 : Nat.beq g 339 with
    | true =>
      obtain rfl := Nat.eq_of_beq_eq_true h1
      exact ext_index Tryz.func339 (by kernel_rfl) (by kernel_rfl) (by kernel_rfl) (by kernel_rfl) args v h w m O B us cs ha
    | false =>
      rw [h1] at hg h
      cases h2 : Nat.beq g 343 with
      | true =>
        obtain rfl := Nat.eq_of_beq_eq_true h2
        exact ext_cmp Tryz.func343 (by kernel_rfl) (by kernel_rfl) (by kernel_rfl) (by kernel_rfl) args v h w m O B us cs ha
      | false =>
        rw [h2] at hg h
        cases h3 : Nat.beq g 287 with
        | true =>
          obtain rfl := Nat.eq_of_beq_eq_true h3
          exact ext_count Tryz.func287 (by kernel_rfl) (by kernel_rfl) (by kernel_rfl) (by kernel_rfl) args v h w m O B us cs ha
        | false => rw [h3] at hg; exact absurd rfl hg
/-- What is known of a call. -/
def EOk (e : Nat × List AV × AV) : Prop := ∀ B0, SpecEntry Tryz.prog (base.env []) B0 e.1 e.2.1 e.2.2
def AllOk : List (Nat × List AV × AV) → Prop
  | [] => True
  | e :: l => EOk e ∧ AllOk l
omit [TokOk] in
theorem AllOk.mem : ∀ {l : List (Nat × List AV × AV)}, AllOk l → ∀ e ∈ l, EOk e
  | [], _, e, he => by cases he
  | x :: l, h, e, he => by
    rcases List.mem_cons.1 he with rfl | he
    · exact h.1
    · exact AllOk.mem h.2 e he
theorem eok (l : List (Nat × List AV × AV)) (hl : AllOk l) {e : Nat × List AV × AV} (hr : runsTo base l 100000 e = true) : EOk e := fun B0 => TabOk.entry base_ok (fun e he => hl.mem e he) hr B0
theorem ek (l : List (Nat × List AV × AV)) (hl : AllOk l) {e : Nat × List AV × AV} (hr : runsTo base l 100000 e = true := by decide +kernel) : EOk e := eok l hl hr
theorem ek0 {e : Nat × List AV × AV} (hr : runsTo base [] 100000 e = true := by decide +kernel) : EOk e := eok [] trivial hr
abbrev En := Nat × List AV × AV
/-- The same, with other functions run as pure ones. -/
def base2 : Base := { funcs := ft, glob := lookG globL, pure := fun g => Nat.testBit 17730385009532611762387061698245239977456575894763930639914073357813661165589227732208520921080 g, fz := 0, ext := extF }
theorem eok2 (l : List (Nat × List AV × AV)) (hl : AllOk l) {e : Nat × List AV × AV} (hr : runsTo base2 l 100000 e = true) : EOk e := fun B0 => TabOk.entry (b := base2) ⟨base_ok.funcs, base_ok.ext, base_ok.orders⟩ (fun e he => hl.mem e he) hr B0
theorem ek2 (l : List (Nat × List AV × AV)) (hl : AllOk l) {e : Nat × List AV × AV} (hr : runsTo base2 l 100000 e = true := by decide +kernel) : EOk e := eok2 l hl hr
end Go.Lyc.T
