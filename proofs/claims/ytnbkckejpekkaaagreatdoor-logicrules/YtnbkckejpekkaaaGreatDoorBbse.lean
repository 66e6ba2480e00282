/-
  The code is the program's. No conditions: definitions and closed facts.
-/
import Derived.Test.YtnbkckejpekkaaaGreatDoorDodes1
import Derived.Test.YtnbkckejpekkaaaGreatDoorRows
import Derived.KernelRfl
noncomputable section
namespace Go.Lyc.T
open Go.Lyc Go.Proofs
set_option maxRecDepth 100000
set_option maxHeartbeats 4000000
theorem i5 : FuncIs Tryz.prog 5 c5 := ⟨Tryz.f5, Tryz.func5, by kernel_rfl, by kernel_rfl⟩
theorem i7 : FuncIs Tryz.prog 7 c7 := ⟨Tryz.f7, Tryz.func7, by kernel_rfl, by kernel_rfl⟩
theorem i11 : FuncIs Tryz.prog 11 c11 := ⟨Tryz.f11, Tryz.func11, by kernel_rfl, by kernel_rfl⟩
theorem i13 : FuncIs Tryz.prog 13 c13 := ⟨Tryz.f13, Tryz.func13, by kernel_rfl, by kernel_rfl⟩
theorem i14 : FuncIs Tryz.prog 14 c14 := ⟨Tryz.f14, Tryz.func14, by kernel_rfl, by kernel_rfl⟩
theorem i15 : FuncIs Tryz.prog 15 c15 := ⟨Tryz.f15, Tryz.func15, by kernel_rfl, by kernel_rfl⟩
theorem i17 : FuncIs Tryz.prog 17 c17 := ⟨Tryz.f17, Tryz.func17, by kernel_rfl, by kernel_rfl⟩
theorem i18 : FuncIs Tryz.prog 18 c18 := ⟨Tryz.f18, Tryz.func18, by kernel_rfl, by kernel_rfl⟩
theorem i19 : FuncIs Tryz.prog 19 c19 := ⟨Tryz.f19, Tryz.func19, by kernel_rfl, by kernel_rfl⟩
theorem i20 : FuncIs Tryz.prog 20 c20 := ⟨Tryz.f20, Tryz.func20, by kernel_rfl, by kernel_rfl⟩
theorem i21 : FuncIs Tryz.prog 21 c21 := ⟨Tryz.f21, Tryz.func21, by kernel_rfl, by kernel_rfl⟩
theorem i22 : FuncIs Tryz.prog 22 c22 := ⟨Tryz.f22, Tryz.func22, by kernel_rfl, by kernel_rfl⟩
theorem i23 : FuncIs Tryz.prog 23 c23 := ⟨Tryz.f23, Tryz.func23, by kernel_rfl, by kernel_rfl⟩
theorem i24 : FuncIs Tryz.prog 24 c24 := ⟨Tryz.f24, Tryz.func24, by kernel_rfl, by kernel_rfl⟩
theorem i25 : FuncIs Tryz.prog 25 c25 := ⟨Tryz.f25, Tryz.func25, by kernel_rfl, by kernel_rfl⟩
theorem i26 : FuncIs Tryz.prog 26 c26 := ⟨Tryz.f26, Tryz.func26, by kernel_rfl, by kernel_rfl⟩
theorem i27 : FuncIs Tryz.prog 27 c27 := ⟨Tryz.f27, Tryz.func27, by kernel_rfl, by kernel_rfl⟩
theorem i28 : FuncIs Tryz.prog 28 c28 := ⟨Tryz.f28, Tryz.func28, by kernel_rfl, by kernel_rfl⟩
theorem i29 : FuncIs Tryz.prog 29 c29 := ⟨Tryz.f29, Tryz.func29, by kernel_rfl, by kernel_rfl⟩
theorem i30 : FuncIs Tryz.prog 30 c30 := ⟨Tryz.f30, Tryz.func30, by kernel_rfl, by kernel_rfl⟩
theorem i31 : FuncIs Tryz.prog 31 c31 := ⟨Tryz.f31, Tryz.func31, by kernel_rfl, by kernel_rfl⟩
theorem i32 : FuncIs Tryz.prog 32 c32 := ⟨Tryz.f32, Tryz.func32, by kernel_rfl, by kernel_rfl⟩
theorem i42 : FuncIs Tryz.prog 42 c42 := ⟨Tryz.f42, Tryz.func42, by kernel_rfl, by kernel_rfl⟩
theorem i43 : FuncIs Tryz.prog 43 c43 := ⟨Tryz.f43, Tryz.func43, by kernel_rfl, by kernel_rfl⟩
theorem i44 : FuncIs Tryz.prog 44 c44 := ⟨Tryz.f44, Tryz.func44, by kernel_rfl, by kernel_rfl⟩
theorem i45 : FuncIs Tryz.prog 45 c45 := ⟨Tryz.f45, Tryz.func45, by kernel_rfl, by kernel_rfl⟩
theorem i46 : FuncIs Tryz.prog 46 c46 := ⟨Tryz.f46, Tryz.func46, by kernel_rfl, by kernel_rfl⟩
theorem i47 : FuncIs Tryz.prog 47 c47 := ⟨Tryz.f47, Tryz.func47, by kernel_rfl, by kernel_rfl⟩
theorem i48 : FuncIs Tryz.prog 48 c48 := ⟨Tryz.f48, Tryz.func48, by kernel_rfl, by kernel_rfl⟩
theorem i49 : FuncIs Tryz.prog 49 c49 := ⟨Tryz.f49, Tryz.func49, by kernel_rfl, by kernel_rfl⟩
theorem i55 : FuncIs Tryz.prog 55 c55 := ⟨Tryz.f55, Tryz.func55, by kernel_rfl, by kernel_rfl⟩
theorem i56 : FuncIs Tryz.prog 56 c56 := ⟨Tryz.f56, Tryz.func56, by kernel_rfl, by kernel_rfl⟩
theorem i57 : FuncIs Tryz.prog 57 c57 := ⟨Tryz.f57, Tryz.func57, by kernel_rfl, by kernel_rfl⟩
theorem i58 : FuncIs Tryz.prog 58 c58 := ⟨Tryz.f58, Tryz.func58, by kernel_rfl, by kernel_rfl⟩
theorem i59 : FuncIs Tryz.prog 59 c59 := ⟨Tryz.f59, Tryz.func59, by kernel_rfl, by kernel_rfl⟩
theorem i60 : FuncIs Tryz.prog 60 c60 := ⟨Tryz.f60, Tryz.func60, by kernel_rfl, by kernel_rfl⟩
theorem i61 : FuncIs Tryz.prog 61 c61 := ⟨Tryz.f61, Tryz.func61, by kernel_rfl, by kernel_rfl⟩
theorem i62 : FuncIs Tryz.prog 62 c62 := ⟨Tryz.f62, Tryz.func62, by kernel_rfl, by kernel_rfl⟩
theorem i63 : FuncIs Tryz.prog 63 c63 := ⟨Tryz.f63, Tryz.func63, by kernel_rfl, by kernel_rfl⟩
theorem i64 : FuncIs Tryz.prog 64 c64 := ⟨Tryz.f64, Tryz.func64, by kernel_rfl, by kernel_rfl⟩
theorem i65 : FuncIs Tryz.prog 65 c65 := ⟨Tryz.f65, Tryz.func65, by kernel_rfl, by kernel_rfl⟩
theorem i66 : FuncIs Tryz.prog 66 c66 := ⟨Tryz.f66, Tryz.func66, by kernel_rfl, by kernel_rfl⟩
theorem i67 : FuncIs Tryz.prog 67 c67 := ⟨Tryz.f67, Tryz.func67, by kernel_rfl, by kernel_rfl⟩
theorem i68 : FuncIs Tryz.prog 68 c68 := ⟨Tryz.f68, Tryz.func68, by kernel_rfl, by kernel_rfl⟩
theorem i80 : FuncIs Tryz.prog 80 c80 := ⟨Tryz.f80, Tryz.func80, by kernel_rfl, by kernel_rfl⟩
theorem i81 : FuncIs Tryz.prog 81 c81 := ⟨Tryz.f81, Tryz.func81, by kernel_rfl, by kernel_rfl⟩
theorem i82 : FuncIs Tryz.prog 82 c82 := ⟨Tryz.f82, Tryz.func82, by kernel_rfl, by kernel_rfl⟩
theorem i85 : FuncIs Tryz.prog 85 c85 := ⟨Tryz.f85, Tryz.func85, by kernel_rfl, by kernel_rfl⟩
theorem i86 : FuncIs Tryz.prog 86 c86 := ⟨Tryz.f86, Tryz.func86, by kernel_rfl, by kernel_rfl⟩
theorem i87 : FuncIs Tryz.prog 87 c87 := ⟨Tryz.f87, Tryz.func87, by kernel_rfl, by kernel_rfl⟩
theorem i88 : FuncIs Tryz.prog 88 c88 := ⟨Tryz.f88, Tryz.func88, by kernel_rfl, by kernel_rfl⟩
theorem i89 : FuncIs Tryz.prog 89 c89 := ⟨Tryz.f89, Tryz.func89, by kernel_rfl, by kernel_rfl⟩
theorem i90 : FuncIs Tryz.prog 90 c90 := ⟨Tryz.f90, Tryz.func90, by kernel_rfl, by kernel_rfl⟩
theorem i91 : FuncIs Tryz.prog 91 c91 := ⟨Tryz.f91, Tryz.func91, by kernel_rfl, by kernel_rfl⟩
theorem i92 : FuncIs Tryz.prog 92 c92 := ⟨Tryz.f92, Tryz.func92, by kernel_rfl, by kernel_rfl⟩
theorem i93 : FuncIs Tryz.prog 93 c93 := ⟨Tryz.f93, Tryz.func93, by kernel_rfl, by kernel_rfl⟩
theorem i94 : FuncIs Tryz.prog 94 c94 := ⟨Tryz.f94, Tryz.func94, by kernel_rfl, by kernel_rfl⟩
theorem i95 : FuncIs Tryz.prog 95 c95 := ⟨Tryz.f95, Tryz.func95, by kernel_rfl, by kernel_rfl⟩
theorem i96 : FuncIs Tryz.prog 96 c96 := ⟨Tryz.f96, Tryz.func96, by kernel_rfl, by kernel_rfl⟩
theorem i97 : FuncIs Tryz.prog 97 c97 := ⟨Tryz.f97, Tryz.func97, by kernel_rfl, by kernel_rfl⟩
theorem i98 : FuncIs Tryz.prog 98 c98 := ⟨Tryz.f98, Tryz.func98, by kernel_rfl, by kernel_rfl⟩
theorem i99 : FuncIs Tryz.prog 99 c99 := ⟨Tryz.f99, Tryz.func99, by kernel_rfl, by kernel_rfl⟩
theorem i100 : FuncIs Tryz.prog 100 c100 := ⟨Tryz.f100, Tryz.func100, by kernel_rfl, by kernel_rfl⟩
theorem i101 : FuncIs Tryz.prog 101 c101 := ⟨Tryz.f101, Tryz.func101, by kernel_rfl, by kernel_rfl⟩
theorem i102 : FuncIs Tryz.prog 102 c102 := ⟨Tryz.f102, Tryz.func102, by kernel_rfl, by kernel_rfl⟩
theorem i106 : FuncIs Tryz.prog 106 c106 := ⟨Tryz.f106, Tryz.func106, by kernel_rfl, by kernel_rfl⟩
theorem i107 : FuncIs Tryz.prog 107 c107 := ⟨Tryz.f107, Tryz.func107, by kernel_rfl, by kernel_rfl⟩
theorem i108 : FuncIs Tryz.prog 108 c108 := ⟨Tryz.f108, Tryz.func108, by kernel_rfl, by kernel_rfl⟩
theorem i109 : FuncIs Tryz.prog 109 c109 := ⟨Tryz.f109, Tryz.func109, by kernel_rfl, by kernel_rfl⟩
theorem i110 : FuncIs Tryz.prog 110 c110 := ⟨Tryz.f110, Tryz.func110, by kernel_rfl, by kernel_rfl⟩
theorem i111 : FuncIs Tryz.prog 111 c111 := ⟨Tryz.f111, Tryz.func111, by kernel_rfl, by kernel_rfl⟩
theorem i113 : FuncIs Tryz.prog 113 c113 := ⟨Tryz.f113, Tryz.func113, by kernel_rfl, by kernel_rfl⟩
theorem i114 : FuncIs Tryz.prog 114 c114 := ⟨Tryz.f114, Tryz.func114, by kernel_rfl, by kernel_rfl⟩
theorem i115 : FuncIs Tryz.prog 115 c115 := ⟨Tryz.f115, Tryz.func115, by kernel_rfl, by kernel_rfl⟩
theorem i116 : FuncIs Tryz.prog 116 c116 := ⟨Tryz.f116, Tryz.func116, by kernel_rfl, by kernel_rfl⟩
theorem i117 : FuncIs Tryz.prog 117 c117 := ⟨Tryz.f117, Tryz.func117, by kernel_rfl, by kernel_rfl⟩
theorem i118 : FuncIs Tryz.prog 118 c118 := ⟨Tryz.f118, Tryz.func118, by kernel_rfl, by kernel_rfl⟩
theorem i120 : FuncIs Tryz.prog 120 c120 := ⟨Tryz.f120, Tryz.func120, by kernel_rfl, by kernel_rfl⟩
theorem i121 : FuncIs Tryz.prog 121 c121 := ⟨Tryz.f121, Tryz.func121, by kernel_rfl, by kernel_rfl⟩
theorem i123 : FuncIs Tryz.prog 123 c123 := ⟨Tryz.f123, Tryz.func123, by kernel_rfl, by kernel_rfl⟩
theorem i124 : FuncIs Tryz.prog 124 c124 := ⟨Tryz.f124, Tryz.func124, by kernel_rfl, by kernel_rfl⟩
theorem i125 : FuncIs Tryz.prog 125 c125 := ⟨Tryz.f125, Tryz.func125, by kernel_rfl, by kernel_rfl⟩
theorem i126 : FuncIs Tryz.prog 126 c126 := ⟨Tryz.f126, Tryz.func126, by kernel_rfl, by kernel_rfl⟩
theorem i127 : FuncIs Tryz.prog 127 c127 := ⟨Tryz.f127, Tryz.func127, by kernel_rfl, by kernel_rfl⟩
theorem i128 : FuncIs Tryz.prog 128 c128 := ⟨Tryz.f128, Tryz.func128, by kernel_rfl, by kernel_rfl⟩
theorem i129 : FuncIs Tryz.prog 129 c129 := ⟨Tryz.f129, Tryz.func129, by kernel_rfl, by kernel_rfl⟩
theorem i130 : FuncIs Tryz.prog 130 c130 := ⟨Tryz.f130, Tryz.func130, by kernel_rfl, by kernel_rfl⟩
theorem i131 : FuncIs Tryz.prog 131 c131 := ⟨Tryz.f131, Tryz.func131, by kernel_rfl, by kernel_rfl⟩
theorem i132 : FuncIs Tryz.prog 132 c132 := ⟨Tryz.f132, Tryz.func132, by kernel_rfl, by kernel_rfl⟩
theorem i136 : FuncIs Tryz.prog 136 c136 := ⟨Tryz.f136, Tryz.func136, by kernel_rfl, by kernel_rfl⟩
theorem i137 : FuncIs Tryz.prog 137 c137 := ⟨Tryz.f137, Tryz.func137, by kernel_rfl, by kernel_rfl⟩
theorem i138 : FuncIs Tryz.prog 138 c138 := ⟨Tryz.f138, Tryz.func138, by kernel_rfl, by kernel_rfl⟩
theorem i143 : FuncIs Tryz.prog 143 c143 := ⟨Tryz.f143, Tryz.func143, by kernel_rfl, by kernel_rfl⟩
theorem i144 : FuncIs Tryz.prog 144 c144 := ⟨Tryz.f144, Tryz.func144, by kernel_rfl, by kernel_rfl⟩
theorem i145 : FuncIs Tryz.prog 145 c145 := ⟨Tryz.f145, Tryz.func145, by kernel_rfl, by kernel_rfl⟩
theorem i146 : FuncIs Tryz.prog 146 c146 := ⟨Tryz.f146, Tryz.func146, by kernel_rfl, by kernel_rfl⟩
theorem i147 : FuncIs Tryz.prog 147 c147 := ⟨Tryz.f147, Tryz.func147, by kernel_rfl, by kernel_rfl⟩
theorem i148 : FuncIs Tryz.prog 148 c148 := ⟨Tryz.f148, Tryz.func148, by kernel_rfl, by kernel_rfl⟩
theorem i149 : FuncIs Tryz.prog 149 c149 := ⟨Tryz.f149, Tryz.func149, by kernel_rfl, by kernel_rfl⟩
theorem i150 : FuncIs Tryz.prog 150 c150 := ⟨Tryz.f150, Tryz.func150, by kernel_rfl, by kernel_rfl⟩
theorem i151 : FuncIs Tryz.prog 151 c151 := ⟨Tryz.f151, Tryz.func151, by kernel_rfl, by kernel_rfl⟩
theorem i152 : FuncIs Tryz.prog 152 c152 := ⟨Tryz.f152, Tryz.func152, by kernel_rfl, by kernel_rfl⟩
theorem i153 : FuncIs Tryz.prog 153 c153 := ⟨Tryz.f153, Tryz.func153, by kernel_rfl, by kernel_rfl⟩
theorem i154 : FuncIs Tryz.prog 154 c154 := ⟨Tryz.f154, Tryz.func154, by kernel_rfl, by kernel_rfl⟩
theorem i162 : FuncIs Tryz.prog 162 c162 := ⟨Tryz.f162, Tryz.func162, by kernel_rfl, by kernel_rfl⟩
theorem i163 : FuncIs Tryz.prog 163 c163 := ⟨Tryz.f163, Tryz.func163, by kernel_rfl, by kernel_rfl⟩
theorem i165 : FuncIs Tryz.prog 165 c165 := ⟨Tryz.f165, Tryz.func165, by kernel_rfl, by kernel_rfl⟩
theorem i174 : FuncIs Tryz.prog 174 c174 := ⟨Tryz.f174, Tryz.func174, by kernel_rfl, by kernel_rfl⟩
theorem i175 : FuncIs Tryz.prog 175 c175 := ⟨Tryz.f175, Tryz.func175, by kernel_rfl, by kernel_rfl⟩
theorem i176 : FuncIs Tryz.prog 176 c176 := ⟨Tryz.f176, Tryz.func176, by kernel_rfl, by kernel_rfl⟩
theorem i177 : FuncIs Tryz.prog 177 c177 := ⟨Tryz.f177, Tryz.func177, by kernel_rfl, by kernel_rfl⟩
theorem i179 : FuncIs Tryz.prog 179 c179 := ⟨Tryz.f179, Tryz.func179, by kernel_rfl, by kernel_rfl⟩
theorem i180 : FuncIs Tryz.prog 180 c180 := ⟨Tryz.f180, Tryz.func180, by kernel_rfl, by kernel_rfl⟩
theorem i181 : FuncIs Tryz.prog 181 c181 := ⟨Tryz.f181, Tryz.func181, by kernel_rfl, by kernel_rfl⟩
theorem i182 : FuncIs Tryz.prog 182 c182 := ⟨Tryz.f182, Tryz.func182, by kernel_rfl, by kernel_rfl⟩
theorem i183 : FuncIs Tryz.prog 183 c183 := ⟨Tryz.f183, Tryz.func183, by kernel_rfl, by kernel_rfl⟩
theorem i184 : FuncIs Tryz.prog 184 c184 := ⟨Tryz.f184, Tryz.func184, by kernel_rfl, by kernel_rfl⟩
theorem i186 : FuncIs Tryz.prog 186 c186 := ⟨Tryz.f186, Tryz.func186, by kernel_rfl, by kernel_rfl⟩
theorem i191 : FuncIs Tryz.prog 191 c191 := ⟨Tryz.f191, Tryz.func191, by kernel_rfl, by kernel_rfl⟩
theorem i192 : FuncIs Tryz.prog 192 c192 := ⟨Tryz.f192, Tryz.func192, by kernel_rfl, by kernel_rfl⟩
theorem i193 : FuncIs Tryz.prog 193 c193 := ⟨Tryz.f193, Tryz.func193, by kernel_rfl, by kernel_rfl⟩
theorem i194 : FuncIs Tryz.prog 194 c194 := ⟨Tryz.f194, Tryz.func194, by kernel_rfl, by kernel_rfl⟩
theorem i198 : FuncIs Tryz.prog 198 c198 := ⟨Tryz.f198, Tryz.func198, by kernel_rfl, by kernel_rfl⟩
theorem i199 : FuncIs Tryz.prog 199 c199 := ⟨Tryz.f199, Tryz.func199, by kernel_rfl, by kernel_rfl⟩
theorem i200 : FuncIs Tryz.prog 200 c200 := ⟨Tryz.f200, Tryz.func200, by kernel_rfl, by kernel_rfl⟩
theorem i201 : FuncIs Tryz.prog 201 c201 := ⟨Tryz.f201, Tryz.func201, by kernel_rfl, by kernel_rfl⟩
theorem i202 : FuncIs Tryz.prog 202 c202 := ⟨Tryz.f202, Tryz.func202, by kernel_rfl, by kernel_rfl⟩
theorem i203 : FuncIs Tryz.prog 203 c203 := ⟨Tryz.f203, Tryz.func203, by kernel_rfl, by kernel_rfl⟩
theorem i219 : FuncIs Tryz.prog 219 c219 := ⟨Tryz.f219, Tryz.func219, by kernel_rfl, by kernel_rfl⟩
theorem i220 : FuncIs Tryz.prog 220 c220 := ⟨Tryz.f220, Tryz.func220, by kernel_rfl, by kernel_rfl⟩
theorem i221 : FuncIs Tryz.prog 221 c221 := ⟨Tryz.f221, Tryz.func221, by kernel_rfl, by kernel_rfl⟩
theorem i222 : FuncIs Tryz.prog 222 c222 := ⟨Tryz.f222, Tryz.func222, by kernel_rfl, by kernel_rfl⟩
theorem i223 : FuncIs Tryz.prog 223 c223 := ⟨Tryz.f223, Tryz.func223, by kernel_rfl, by kernel_rfl⟩
theorem i224 : FuncIs Tryz.prog 224 c224 := ⟨Tryz.f224, Tryz.func224, by kernel_rfl, by kernel_rfl⟩
theorem i226 : FuncIs Tryz.prog 226 c226 := ⟨Tryz.f226, Tryz.func226, by kernel_rfl, by kernel_rfl⟩
theorem i227 : FuncIs Tryz.prog 227 c227 := ⟨Tryz.f227, Tryz.func227, by kernel_rfl, by kernel_rfl⟩
theorem i228 : FuncIs Tryz.prog 228 c228 := ⟨Tryz.f228, Tryz.func228, by kernel_rfl, by kernel_rfl⟩
theorem i234 : FuncIs Tryz.prog 234 c234 := ⟨Tryz.f234, Tryz.func234, by kernel_rfl, by kernel_rfl⟩
theorem i238 : FuncIs Tryz.prog 238 c238 := ⟨Tryz.f238, Tryz.func238, by kernel_rfl, by kernel_rfl⟩
theorem i244 : FuncIs Tryz.prog 244 c244 := ⟨Tryz.f244, Tryz.func244, by kernel_rfl, by kernel_rfl⟩
theorem i248 : FuncIs Tryz.prog 248 c248 := ⟨Tryz.f248, Tryz.func248, by kernel_rfl, by kernel_rfl⟩
theorem i249 : FuncIs Tryz.prog 249 c249 := ⟨Tryz.f249, Tryz.func249, by kernel_rfl, by kernel_rfl⟩
theorem i263 : FuncIs Tryz.prog 263 c263 := ⟨Tryz.f263, Tryz.func263, by kernel_rfl, by kernel_rfl⟩
theorem i264 : FuncIs Tryz.prog 264 c264 := ⟨Tryz.f264, Tryz.func264, by kernel_rfl, by kernel_rfl⟩
theorem i265 : FuncIs Tryz.prog 265 c265 := ⟨Tryz.f265, Tryz.func265, by kernel_rfl, by kernel_rfl⟩
theorem i266 : FuncIs Tryz.prog 266 c266 := ⟨Tryz.f266, Tryz.func266, by kernel_rfl, by kernel_rfl⟩
theorem i268 : FuncIs Tryz.prog 268 c268 := ⟨Tryz.f268, Tryz.func268, by kernel_rfl, by kernel_rfl⟩
theorem i269 : FuncIs Tryz.prog 269 c269 := ⟨Tryz.f269, Tryz.func269, by kernel_rfl, by kernel_rfl⟩
theorem i270 : FuncIs Tryz.prog 270 c270 := ⟨Tryz.f270, Tryz.func270, by kernel_rfl, by kernel_rfl⟩
theorem i271 : FuncIs Tryz.prog 271 c271 := ⟨Tryz.f271, Tryz.func271, by kernel_rfl, by kernel_rfl⟩
theorem i272 : FuncIs Tryz.prog 272 c272 := ⟨Tryz.f272, Tryz.func272, by kernel_rfl, by kernel_rfl⟩
theorem i273 : FuncIs Tryz.prog 273 c273 := ⟨Tryz.f273, Tryz.func273, by kernel_rfl, by kernel_rfl⟩
theorem i274 : FuncIs Tryz.prog 274 c274 := ⟨Tryz.f274, Tryz.func274, by kernel_rfl, by kernel_rfl⟩
theorem i283 : FuncIs Tryz.prog 283 c283 := ⟨Tryz.f283, Tryz.func283, by kernel_rfl, by kernel_rfl⟩
theorem i293 : FuncIs Tryz.prog 293 c293 := ⟨Tryz.f293, Tryz.func293, by kernel_rfl, by kernel_rfl⟩
theorem i294 : FuncIs Tryz.prog 294 c294 := ⟨Tryz.f294, Tryz.func294, by kernel_rfl, by kernel_rfl⟩
theorem i296 : FuncIs Tryz.prog 296 c296 := ⟨Tryz.f296, Tryz.func296, by kernel_rfl, by kernel_rfl⟩
theorem i297 : FuncIs Tryz.prog 297 c297 := ⟨Tryz.f297, Tryz.func297, by kernel_rfl, by kernel_rfl⟩
theorem i298 : FuncIs Tryz.prog 298 c298 := ⟨Tryz.f298, Tryz.func298, by kernel_rfl, by kernel_rfl⟩
theorem i306 : FuncIs Tryz.prog 306 c306 := ⟨Tryz.f306, Tryz.func306, by kernel_rfl, by kernel_rfl⟩
theorem i314 : FuncIs Tryz.prog 314 c314 := ⟨Tryz.f314, Tryz.func314, by kernel_rfl, by kernel_rfl⟩
theorem i315 : FuncIs Tryz.prog 315 c315 := ⟨Tryz.f315, Tryz.func315, by kernel_rfl, by kernel_rfl⟩
theorem i316 : FuncIs Tryz.prog 316 c316 := ⟨Tryz.f316, Tryz.func316, by kernel_rfl, by kernel_rfl⟩
theorem i317 : FuncIs Tryz.prog 317 c317 := ⟨Tryz.f317, Tryz.func317, by kernel_rfl, by kernel_rfl⟩
theorem i318 : FuncIs Tryz.prog 318 c318 := ⟨Tryz.f318, Tryz.func318, by kernel_rfl, by kernel_rfl⟩
theorem i319 : FuncIs Tryz.prog 319 c319 := ⟨Tryz.f319, Tryz.func319, by kernel_rfl, by kernel_rfl⟩
theorem i320 : FuncIs Tryz.prog 320 c320 := ⟨Tryz.f320, Tryz.func320, by kernel_rfl, by kernel_rfl⟩
theorem i321 : FuncIs Tryz.prog 321 c321 := ⟨Tryz.f321, Tryz.func321, by kernel_rfl, by kernel_rfl⟩
theorem i322 : FuncIs Tryz.prog 322 c322 := ⟨Tryz.f322, Tryz.func322, by kernel_rfl, by kernel_rfl⟩
theorem i329 : FuncIs Tryz.prog 329 c329 := ⟨Tryz.f329, Tryz.func329, by kernel_rfl, by kernel_rfl⟩
theorem i330 : FuncIs Tryz.prog 330 c330 := ⟨Tryz.f330, Tryz.func330, by kernel_rfl, by kernel_rfl⟩
theorem i336 : FuncIs Tryz.prog 336 c336 := ⟨Tryz.f336, Tryz.func336, by kernel_rfl, by kernel_rfl⟩
def ft : FT := (.node 130 (.node 68 (.node 32 (.node 21 (.node 15 (.node 11 (.node 7 (.one 5 c5) (.one 7 c7)) (.node 13 (.one 11 c11) (.node 14 (.one 13 c13) (.one 14 c14)))) (.node 18 (.node 17 (.one 15 c15) (.one 17 c17)) (.node 19 (.one 18 c18) (.node 20 (.one 19 c19) (.one 20 c20))))) (.node 26 (.node 23 (.node 22 (.one 21 c21) (.one 22 c22)) (.node 24 (.one 23 c23) (.node 25 (.one 24 c24) (.one 25 c25)))) (.node 29 (.node 27 (.one 26 c26) (.node 28 (.one 27 c27) (.one 28 c28))) (.node 30 (.one 29 c29) (.node 31 (.one 30 c30) (.one 31 c31)))))) (.node 57 (.node 46 (.node 43 (.node 42 (.one 32 c32) (.one 42 c42)) (.node 44 (.one 43 c43) (.node 45 (.one 44 c44) (.one 45 c45)))) (.node 49 (.node 47 (.one 46 c46) (.node 48 (.one 47 c47) (.one 48 c48))) (.node 55 (.one 49 c49) (.node 56 (.one 55 c55) (.one 56 c56))))) (.node 62 (.node 59 (.node 58 (.one 57 c57) (.one 58 c58)) (.node 60 (.one 59 c59) (.node 61 (.one 60 c60) (.one 61 c61)))) (.node 65 (.node 63 (.one 62 c62) (.node 64 (.one 63 c63) (.one 64 c64))) (.node 66 (.one 65 c65) (.node 67 (.one 66 c66) (.one 67 c67))))))) (.node 102 (.node 91 (.node 86 (.node 81 (.node 80 (.one 68 c68) (.one 80 c80)) (.node 82 (.one 81 c81) (.node 85 (.one 82 c82) (.one 85 c85)))) (.node 88 (.node 87 (.one 86 c86) (.one 87 c87)) (.node 89 (.one 88 c88) (.node 90 (.one 89 c89) (.one 90 c90))))) (.node 96 (.node 93 (.node 92 (.one 91 c91) (.one 92 c92)) (.node 94 (.one 93 c93) (.node 95 (.one 94 c94) (.one 95 c95)))) (.node 99 (.node 97 (.one 96 c96) (.node 98 (.one 97 c97) (.one 98 c98))) (.node 100 (.one 99 c99) (.node 101 (.one 100 c100) (.one 101 c101)))))) (.node 117 (.node 110 (.node 107 (.node 106 (.one 102 c102) (.one 106 c106)) (.node 108 (.one 107 c107) (.node 109 (.one 108 c108) (.one 109 c109)))) (.node 114 (.node 111 (.one 110 c110) (.node 113 (.one 111 c111) (.one 113 c113))) (.node 115 (.one 114 c114) (.node 116 (.one 115 c115) (.one 116 c116))))) (.node 124 (.node 120 (.node 118 (.one 117 c117) (.one 118 c118)) (.node 121 (.one 120 c120) (.node 123 (.one 121 c121) (.one 123 c123)))) (.node 127 (.node 125 (.one 124 c124) (.node 126 (.one 125 c125) (.one 126 c126))) (.node 128 (.one 127 c127) (.node 129 (.one 128 c128) (.one 129 c129)))))))) (.node 220 (.node 174 (.node 147 (.node 138 (.node 132 (.node 131 (.one 130 c130) (.one 131 c131)) (.node 136 (.one 132 c132) (.node 137 (.one 136 c136) (.one 137 c137)))) (.node 144 (.node 143 (.one 138 c138) (.one 143 c143)) (.node 145 (.one 144 c144) (.node 146 (.one 145 c145) (.one 146 c146))))) (.node 152 (.node 149 (.node 148 (.one 147 c147) (.one 148 c148)) (.node 150 (.one 149 c149) (.node 151 (.one 150 c150) (.one 151 c151)))) (.node 162 (.node 153 (.one 152 c152) (.node 154 (.one 153 c153) (.one 154 c154))) (.node 163 (.one 162 c162) (.node 165 (.one 163 c163) (.one 165 c165)))))) (.node 191 (.node 180 (.node 176 (.node 175 (.one 174 c174) (.one 175 c175)) (.node 177 (.one 176 c176) (.node 179 (.one 177 c177) (.one 179 c179)))) (.node 183 (.node 181 (.one 180 c180) (.node 182 (.one 181 c181) (.one 182 c182))) (.node 184 (.one 183 c183) (.node 186 (.one 184 c184) (.one 186 c186))))) (.node 199 (.node 193 (.node 192 (.one 191 c191) (.one 192 c192)) (.node 194 (.one 193 c193) (.node 198 (.one 194 c194) (.one 198 c198)))) (.node 202 (.node 200 (.one 199 c199) (.node 201 (.one 200 c200) (.one 201 c201))) (.node 203 (.one 202 c202) (.node 219 (.one 203 c203) (.one 219 c219))))))) (.node 272 (.node 244 (.node 226 (.node 222 (.node 221 (.one 220 c220) (.one 221 c221)) (.node 223 (.one 222 c222) (.node 224 (.one 223 c223) (.one 224 c224)))) (.node 228 (.node 227 (.one 226 c226) (.one 227 c227)) (.node 234 (.one 228 c228) (.node 238 (.one 234 c234) (.one 238 c238))))) (.node 265 (.node 249 (.node 248 (.one 244 c244) (.one 248 c248)) (.node 263 (.one 249 c249) (.node 264 (.one 263 c263) (.one 264 c264)))) (.node 269 (.node 266 (.one 265 c265) (.node 268 (.one 266 c266) (.one 268 c268))) (.node 270 (.one 269 c269) (.node 271 (.one 270 c270) (.one 271 c271)))))) (.node 315 (.node 294 (.node 274 (.node 273 (.one 272 c272) (.one 273 c273)) (.node 283 (.one 274 c274) (.node 293 (.one 283 c283) (.one 293 c293)))) (.node 298 (.node 296 (.one 294 c294) (.node 297 (.one 296 c296) (.one 297 c297))) (.node 306 (.one 298 c298) (.node 314 (.one 306 c306) (.one 314 c314))))) (.node 320 (.node 317 (.node 316 (.one 315 c315) (.one 316 c316)) (.node 318 (.one 317 c317) (.node 319 (.one 318 c318) (.one 319 c319)))) (.node 329 (.node 321 (.one 320 c320) (.node 322 (.one 321 c321) (.one 322 c322))) (.node 330 (.one 329 c329) (.node 336 (.one 330 c330) (.one 336 c336)))))))))
theorem ft_ok : ft.All (FuncIs Tryz.prog) := ⟨⟨⟨⟨⟨⟨⟨i5, i7⟩, ⟨i11, ⟨i13, i14⟩⟩⟩, ⟨⟨i15, i17⟩, ⟨i18, ⟨i19, i20⟩⟩⟩⟩, ⟨⟨⟨i21, i22⟩, ⟨i23, ⟨i24, i25⟩⟩⟩, ⟨⟨i26, ⟨i27, i28⟩⟩, ⟨i29, ⟨i30, i31⟩⟩⟩⟩⟩, ⟨⟨⟨⟨i32, i42⟩, ⟨i43, ⟨i44, i45⟩⟩⟩, ⟨⟨i46, ⟨i47, i48⟩⟩, ⟨i49, ⟨i55, i56⟩⟩⟩⟩, ⟨⟨⟨i57, i58⟩, ⟨i59, ⟨i60, i61⟩⟩⟩, ⟨⟨i62, ⟨i63, i64⟩⟩, ⟨i65, ⟨i66, i67⟩⟩⟩⟩⟩⟩, ⟨⟨⟨⟨⟨i68, i80⟩, ⟨i81, ⟨i82, i85⟩⟩⟩, ⟨⟨i86, i87⟩, ⟨i88, ⟨i89, i90⟩⟩⟩⟩, ⟨⟨⟨i91, i92⟩, ⟨i93, ⟨i94, i95⟩⟩⟩, ⟨⟨i96, ⟨i97, i98⟩⟩, ⟨i99, ⟨i100, i101⟩⟩⟩⟩⟩, ⟨⟨⟨⟨i102, i106⟩, ⟨i107, ⟨i108, i109⟩⟩⟩, ⟨⟨i110, ⟨i111, i113⟩⟩, ⟨i114, ⟨i115, i116⟩⟩⟩⟩, ⟨⟨⟨i117, i118⟩, ⟨i120, ⟨i121, i123⟩⟩⟩, ⟨⟨i124, ⟨i125, i126⟩⟩, ⟨i127, ⟨i128, i129⟩⟩⟩⟩⟩⟩⟩, ⟨⟨⟨⟨⟨⟨i130, i131⟩, ⟨i132, ⟨i136, i137⟩⟩⟩, ⟨⟨i138, i143⟩, ⟨i144, ⟨i145, i146⟩⟩⟩⟩, ⟨⟨⟨i147, i148⟩, ⟨i149, ⟨i150, i151⟩⟩⟩, ⟨⟨i152, ⟨i153, i154⟩⟩, ⟨i162, ⟨i163, i165⟩⟩⟩⟩⟩, ⟨⟨⟨⟨i174, i175⟩, ⟨i176, ⟨i177, i179⟩⟩⟩, ⟨⟨i180, ⟨i181, i182⟩⟩, ⟨i183, ⟨i184, i186⟩⟩⟩⟩, ⟨⟨⟨i191, i192⟩, ⟨i193, ⟨i194, i198⟩⟩⟩, ⟨⟨i199, ⟨i200, i201⟩⟩, ⟨i202, ⟨i203, i219⟩⟩⟩⟩⟩⟩, ⟨⟨⟨⟨⟨i220, i221⟩, ⟨i222, ⟨i223, i224⟩⟩⟩, ⟨⟨i226, i227⟩, ⟨i228, ⟨i234, i238⟩⟩⟩⟩, ⟨⟨⟨i244, i248⟩, ⟨i249, ⟨i263, i264⟩⟩⟩, ⟨⟨i265, ⟨i266, i268⟩⟩, ⟨i269, ⟨i270, i271⟩⟩⟩⟩⟩, ⟨⟨⟨⟨i272, i273⟩, ⟨i274, ⟨i283, i293⟩⟩⟩, ⟨⟨i294, ⟨i296, i297⟩⟩, ⟨i298, ⟨i306, i314⟩⟩⟩⟩, ⟨⟨⟨i315, i316⟩, ⟨i317, ⟨i318, i319⟩⟩⟩, ⟨⟨i320, ⟨i321, i322⟩⟩, ⟨i329, ⟨i330, i336⟩⟩⟩⟩⟩⟩⟩⟩
def pureM : Nat := 658214678432839481939913226746325373746598194736596035738554858368
def extF (i : Nat) : Nat := cond (Nat.beq i 276) 1 (cond (Nat.beq i 295) 2 0)

def gl0 : AV := (.ag [(.b false), (.b false), (.i .u8 0), (.i .i64 0), (.i .i64 0), (.b true), (.b true), (.i .u8 1), (.i .i64 4), (.i .i64 0), (.b true), (.b true), (.i .u8 0), (.i .i64 0), (.i .i64 0), (.b true), (.b true), (.i .u8 0), (.i .i64 0), (.i .i64 1), (.b true), (.b true), (.i .u8 0), (.i .i64 0), (.i .i64 2), (.b true), (.b true), (.i .u8 0), (.i .i64 0), (.i .i64 2), (.b true), (.b true), (.i .u8 0), (.i .i64 0), (.i .i64 2), (.b true), (.b true), (.i .u8 0), (.i .i64 0), (.i .i64 2), (.b true), (.b true), (.i .u8 2), (.i .i64 0), (.i .i64 1), (.b true), (.b true), (.i .u8 2), (.i .i64 0), (.i .i64 1), (.b true), (.b true), (.i .u8 0), (.i .i64 0), (.i .i64 1), (.b true), (.b true), (.i .u8 0), (.i .i64 0), (.i .i64 1), (.b true), (.b true), (.i .u8 0), (.i .i64 0), (.i .i64 1), (.b true), (.b true), (.i .u8 0), (.i .i64 0), (.i .i64 1), (.b true), (.b true), (.i .u8 0), (.i .i64 0), (.i .i64 2), (.b false), (.b true), (.i .u8 3), (.i .i64 0), (.i .i64 0), (.b false), (.b true), (.i .u8 3), (.i .i64 2), (.i .i64 0)])
def gl1 : AV := (.ag [(.i .u8 0), (.i .u8 0), (.i .u8 0), (.i .u8 0), (.i .u8 0), (.i .u8 0), (.i .u8 0), (.i .u8 0), (.i .u8 0), (.i .u8 1), (.i .u8 1), (.i .u8 1), (.i .u8 1), (.i .u8 1), (.i .u8 0), (.i .u8 0), (.i .u8 0), (.i .u8 0), (.i .u8 0), (.i .u8 0), (.i .u8 0), (.i .u8 0), (.i .u8 0), (.i .u8 0), (.i .u8 0), (.i .u8 0), (.i .u8 0), (.i .u8 0), (.i .u8 0), (.i .u8 0), (.i .u8 0), (.i .u8 0), (.i .u8 1), (.i .u8 0), (.i .u8 0), (.i .u8 0), (.i .u8 0), (.i .u8 0), (.i .u8 0), (.i .u8 0), (.i .u8 0), (.i .u8 0), (.i .u8 0), (.i .u8 0), (.i .u8 0), (.i .u8 0), (.i .u8 0), (.i .u8 0), (.i .u8 0), (.i .u8 0), (.i .u8 0), (.i .u8 0), (.i .u8 0), (.i .u8 0), (.i .u8 0), (.i .u8 0), (.i .u8 0), (.i .u8 0), (.i .u8 0), (.i .u8 0), (.i .u8 0), (.i .u8 0), (.i .u8 0), (.i .u8 0), (.i .u8 0), (.i .u8 0), (.i .u8 0), (.i .u8 0), (.i .u8 0), (.i .u8 0), (.i .u8 0), (.i .u8 0), (.i .u8 0), (.i .u8 0), (.i .u8 0), (.i .u8 0), (.i .u8 0), (.i .u8 0), (.i .u8 0), (.i .u8 0), (.i .u8 0), (.i .u8 0), (.i .u8 0), (.i .u8 0), (.i .u8 0), (.i .u8 0), (.i .u8 0), (.i .u8 0), (.i .u8 0), (.i .u8 0), (.i .u8 0), (.i .u8 0), (.i .u8 0), (.i .u8 0), (.i .u8 0), (.i .u8 0), (.i .u8 0), (.i .u8 0), (.i .u8 0), (.i .u8 0), (.i .u8 0), (.i .u8 0), (.i .u8 0), (.i .u8 0), (.i .u8 0), (.i .u8 0), (.i .u8 0), (.i .u8 0), (.i .u8 0), (.i .u8 0), (.i .u8 0), (.i .u8 0), (.i .u8 0), (.i .u8 0), (.i .u8 0), (.i .u8 0), (.i .u8 0), (.i .u8 0), (.i .u8 0), (.i .u8 0), (.i .u8 0), (.i .u8 0), (.i .u8 0), (.i .u8 0), (.i .u8 0), (.i .u8 0), (.i .u8 0), (.i .u8 0), (.i .u8 0), (.i .u8 0), (.i .u8 0), (.i .u8 0), (.i .u8 0), (.i .u8 0), (.i .u8 0), (.i .u8 0), (.i .u8 0), (.i .u8 0), (.i .u8 0), (.i .u8 0), (.i .u8 0), (.i .u8 0), (.i .u8 0), (.i .u8 0), (.i .u8 0), (.i .u8 0), (.i .u8 0), (.i .u8 0), (.i .u8 0), (.i .u8 0), (.i .u8 0), (.i .u8 0), (.i .u8 0), (.i .u8 0), (.i .u8 0), (.i .u8 0), (.i .u8 0), (.i .u8 0), (.i .u8 0), (.i .u8 0), (.i .u8 0), (.i .u8 0), (.i .u8 0), (.i .u8 0), (.i .u8 0), (.i .u8 0), (.i .u8 0), (.i .u8 0), (.i .u8 0), (.i .u8 0), (.i .u8 0), (.i .u8 0), (.i .u8 0), (.i .u8 0), (.i .u8 0), (.i .u8 0), (.i .u8 0), (.i .u8 0), (.i .u8 0), (.i .u8 0), (.i .u8 0), (.i .u8 0), (.i .u8 0), (.i .u8 0), (.i .u8 0), (.i .u8 0), (.i .u8 0), (.i .u8 0), (.i .u8 0), (.i .u8 0), (.i .u8 0), (.i .u8 0), (.i .u8 0), (.i .u8 0), (.i .u8 0), (.i .u8 0), (.i .u8 0), (.i .u8 0), (.i .u8 0), (.i .u8 0), (.i .u8 0), (.i .u8 0), (.i .u8 0), (.i .u8 0), (.i .u8 0), (.i .u8 0), (.i .u8 0), (.i .u8 0), (.i .u8 0), (.i .u8 0), (.i .u8 0), (.i .u8 0), (.i .u8 0), (.i .u8 0), (.i .u8 0), (.i .u8 0), (.i .u8 0), (.i .u8 0), (.i .u8 0), (.i .u8 0), (.i .u8 0), (.i .u8 0), (.i .u8 0), (.i .u8 0), (.i .u8 0), (.i .u8 0), (.i .u8 0), (.i .u8 0), (.i .u8 0), (.i .u8 0), (.i .u8 0), (.i .u8 0), (.i .u8 0), (.i .u8 0), (.i .u8 0), (.i .u8 0), (.i .u8 0), (.i .u8 0), (.i .u8 0), (.i .u8 0), (.i .u8 0), (.i .u8 0), (.i .u8 0), (.i .u8 0), (.i .u8 0), (.i .u8 0), (.i .u8 0), (.i .u8 0), (.i .u8 0), (.i .u8 0), (.i .u8 0), (.i .u8 0), (.i .u8 0), (.i .u8 0), (.i .u8 0), (.i .u8 0)])
def gl3 : AV := (.ag [(.s [60, 45, 62]), (.i .u8 7), (.b false), (.s [45, 62]), (.i .u8 6), (.b true), (.s [117, 110, 116, 105, 108]), (.i .u8 14), (.b true), (.s [124]), (.i .u8 5), (.b false), (.s [38]), (.i .u8 4), (.b false)])
def gl7 : AV := (.ag [(.s [60, 45, 62]), (.s [45, 62]), (.s [91, 93]), (.s [60, 62]), (.s [40]), (.s [41]), (.s [44]), (.s [126]), (.s [38]), (.s [124]), (.s [47]), (.s [91]), (.s [93])])
def laid : List (String × DataW Unit) := Go.Proofs.YtnbkckejpekkaaaGreatDoor.Rows.logicRulesRow.laid
def laidNames : List String := ((laid.drop 5).take 4).map Prod.fst
def globL : List (Nat × AV) := [(1, gl1), (0, gl0), (7, gl7), (3, gl3)]
theorem globL_ok : mapOL (avVar Tryz.prog 12) (laid.filter fun x => laidNames.contains x.1) = some globL := by kernel_rfl
def base : Base := { funcs := ft, glob := lookG globL, pure := fun g => Nat.testBit pureM g, ext := extF }
theorem base_ok : BaseOk Tryz.prog base where
  funcs := ft_ok
  orders := by kernel_rfl
  ext g hg args v h w m O B us cs ha := by
    have hb : base.ext g = cond (Nat.beq g 276) 1 (cond (Nat.beq g 295) 2 0) := rfl
    rw [hb] at hg h
    cases h1 : Nat.beq g 276 with
    | true =>
      obtain rfl := Nat.eq_of_beq_eq_true h1
      exact ext_index Tryz.func276 (by kernel_rfl) (by kernel_rfl) (by kernel_rfl) (by kernel_rfl) args v h w m O B us cs ha
    | false =>
      rw [h1] at hg h
      cases h2 : Nat.beq g 295 with
      | true =>
        obtain rfl := Nat.eq_of_beq_eq_true h2
        exact ext_cmp Tryz.func295 (by kernel_rfl) (by kernel_rfl) (by kernel_rfl) (by kernel_rfl) args v h w m O B us cs ha
      | false => rw [h2] at hg; exact absurd rfl hg
/-- What is known of a call. -/
def EOk (e : Nat × List AV × AV) : Prop := ∀ B0, SpecEntry Tryz.prog (base.env []) B0 e.1 e.2.1 e.2.2
def AllOk : List (Nat × List AV × AV) → Prop
  | [] => True
  | e :: l => EOk e ∧ AllOk l
theorem AllOk.mem : ∀ {l : List (Nat × List AV × AV)}, AllOk l → ∀ e ∈ l, EOk e
  | [], _, e, he => by cases he
  | x :: l, h, e, he => by
    rcases List.mem_cons.1 he with rfl | he
    · exact h.1
    · exact AllOk.mem h.2 e he
theorem eok (l : List (Nat × List AV × AV)) (hl : AllOk l) {e : Nat × List AV × AV} (hr : runsTo base l 100000 e = true) : EOk e := fun B0 => TabOk.entry base_ok (fun e he => hl.mem e he) hr B0
end Go.Lyc.T
