/-
  The code is the program's. No conditions: definitions and closed facts.
-/
import Derived.Test.YtbifkbdapfadfaaGreatDoorCodes0
import Derived.Test.YtbifkbdapfadfaaGreatDoorRows
import Derived.KernelRfl
noncomputable section
namespace Go.Lyc.T
open Go.Lyc Go.Proofs
set_option maxRecDepth 100000
set_option maxHeartbeats 4000000
theorem i3 : FuncIs Tryz.prog 3 c3 := ⟨Tryz.f3, Tryz.func3, by kernel_rfl, by kernel_rfl⟩
theorem i5 : FuncIs Tryz.prog 5 c5 := ⟨Tryz.f5, Tryz.func5, by kernel_rfl, by kernel_rfl⟩
theorem i6 : FuncIs Tryz.prog 6 c6 := ⟨Tryz.f6, Tryz.func6, by kernel_rfl, by kernel_rfl⟩
theorem i7 : FuncIs Tryz.prog 7 c7 := ⟨Tryz.f7, Tryz.func7, by kernel_rfl, by kernel_rfl⟩
theorem i8 : FuncIs Tryz.prog 8 c8 := ⟨Tryz.f8, Tryz.func8, by kernel_rfl, by kernel_rfl⟩
theorem i9 : FuncIs Tryz.prog 9 c9 := ⟨Tryz.f9, Tryz.func9, by kernel_rfl, by kernel_rfl⟩
theorem i10 : FuncIs Tryz.prog 10 c10 := ⟨Tryz.f10, Tryz.func10, by kernel_rfl, by kernel_rfl⟩
theorem i13 : FuncIs Tryz.prog 13 c13 := ⟨Tryz.f13, Tryz.func13, by kernel_rfl, by kernel_rfl⟩
theorem i15 : FuncIs Tryz.prog 15 c15 := ⟨Tryz.f15, Tryz.func15, by kernel_rfl, by kernel_rfl⟩
theorem i16 : FuncIs Tryz.prog 16 c16 := ⟨Tryz.f16, Tryz.func16, by kernel_rfl, by kernel_rfl⟩
theorem i17 : FuncIs Tryz.prog 17 c17 := ⟨Tryz.f17, Tryz.func17, by kernel_rfl, by kernel_rfl⟩
theorem i18 : FuncIs Tryz.prog 18 c18 := ⟨Tryz.f18, Tryz.func18, by kernel_rfl, by kernel_rfl⟩
theorem i19 : FuncIs Tryz.prog 19 c19 := ⟨Tryz.f19, Tryz.func19, by kernel_rfl, by kernel_rfl⟩
theorem i20 : FuncIs Tryz.prog 20 c20 := ⟨Tryz.f20, Tryz.func20, by kernel_rfl, by kernel_rfl⟩
theorem i21 : FuncIs Tryz.prog 21 c21 := ⟨Tryz.f21, Tryz.func21, by kernel_rfl, by kernel_rfl⟩
theorem i22 : FuncIs Tryz.prog 22 c22 := ⟨Tryz.f22, Tryz.func22, by kernel_rfl, by kernel_rfl⟩
theorem i23 : FuncIs Tryz.prog 23 c23 := ⟨Tryz.f23, Tryz.func23, by kernel_rfl, by kernel_rfl⟩
theorem i24 : FuncIs Tryz.prog 24 c24 := ⟨Tryz.f24, Tryz.func24, by kernel_rfl, by kernel_rfl⟩
theorem i25 : FuncIs Tryz.prog 25 c25 := ⟨Tryz.f25, Tryz.func25, by kernel_rfl, by kernel_rfl⟩
theorem i26 : FuncIs Tryz.prog 26 c26 := ⟨Tryz.f26, Tryz.func26, by kernel_rfl, by kernel_rfl⟩
theorem i27 : FuncIs Tryz.prog 27 c27 := ⟨Tryz.f27, Tryz.func27, by kernel_rfl, by kernel_rfl⟩
theorem i28 : FuncIs Tryz.prog 28 c28 := ⟨Tryz.f28, Tryz.func28, by kernel_rfl, by kernel_rfl⟩
theorem i29 : FuncIs Tryz.prog 29 c29 := ⟨Tryz.f29, Tryz.func29, by kernel_rfl, by kernel_rfl⟩
theorem i30 : FuncIs Tryz.prog 30 c30 := ⟨Tryz.f30, Tryz.func30, by kernel_rfl, by kernel_rfl⟩
theorem i31 : FuncIs Tryz.prog 31 c31 := ⟨Tryz.f31, Tryz.func31, by kernel_rfl, by kernel_rfl⟩
theorem i32 : FuncIs Tryz.prog 32 c32 := ⟨Tryz.f32, Tryz.func32, by kernel_rfl, by kernel_rfl⟩
theorem i33 : FuncIs Tryz.prog 33 c33 := ⟨Tryz.f33, Tryz.func33, by kernel_rfl, by kernel_rfl⟩
theorem i34 : FuncIs Tryz.prog 34 c34 := ⟨Tryz.f34, Tryz.func34, by kernel_rfl, by kernel_rfl⟩
theorem i35 : FuncIs Tryz.prog 35 c35 := ⟨Tryz.f35, Tryz.func35, by kernel_rfl, by kernel_rfl⟩
theorem i36 : FuncIs Tryz.prog 36 c36 := ⟨Tryz.f36, Tryz.func36, by kernel_rfl, by kernel_rfl⟩
theorem i40 : FuncIs Tryz.prog 40 c40 := ⟨Tryz.f40, Tryz.func40, by kernel_rfl, by kernel_rfl⟩
theorem i42 : FuncIs Tryz.prog 42 c42 := ⟨Tryz.f42, Tryz.func42, by kernel_rfl, by kernel_rfl⟩
theorem i43 : FuncIs Tryz.prog 43 c43 := ⟨Tryz.f43, Tryz.func43, by kernel_rfl, by kernel_rfl⟩
theorem i44 : FuncIs Tryz.prog 44 c44 := ⟨Tryz.f44, Tryz.func44, by kernel_rfl, by kernel_rfl⟩
theorem i45 : FuncIs Tryz.prog 45 c45 := ⟨Tryz.f45, Tryz.func45, by kernel_rfl, by kernel_rfl⟩
theorem i46 : FuncIs Tryz.prog 46 c46 := ⟨Tryz.f46, Tryz.func46, by kernel_rfl, by kernel_rfl⟩
theorem i47 : FuncIs Tryz.prog 47 c47 := ⟨Tryz.f47, Tryz.func47, by kernel_rfl, by kernel_rfl⟩
theorem i48 : FuncIs Tryz.prog 48 c48 := ⟨Tryz.f48, Tryz.func48, by kernel_rfl, by kernel_rfl⟩
theorem i49 : FuncIs Tryz.prog 49 c49 := ⟨Tryz.f49, Tryz.func49, by kernel_rfl, by kernel_rfl⟩
theorem i50 : FuncIs Tryz.prog 50 c50 := ⟨Tryz.f50, Tryz.func50, by kernel_rfl, by kernel_rfl⟩
theorem i51 : FuncIs Tryz.prog 51 c51 := ⟨Tryz.f51, Tryz.func51, by kernel_rfl, by kernel_rfl⟩
theorem i52 : FuncIs Tryz.prog 52 c52 := ⟨Tryz.f52, Tryz.func52, by kernel_rfl, by kernel_rfl⟩
theorem i53 : FuncIs Tryz.prog 53 c53 := ⟨Tryz.f53, Tryz.func53, by kernel_rfl, by kernel_rfl⟩
theorem i54 : FuncIs Tryz.prog 54 c54 := ⟨Tryz.f54, Tryz.func54, by kernel_rfl, by kernel_rfl⟩
theorem i55 : FuncIs Tryz.prog 55 c55 := ⟨Tryz.f55, Tryz.func55, by kernel_rfl, by kernel_rfl⟩
theorem i56 : FuncIs Tryz.prog 56 c56 := ⟨Tryz.f56, Tryz.func56, by kernel_rfl, by kernel_rfl⟩
theorem i57 : FuncIs Tryz.prog 57 c57 := ⟨Tryz.f57, Tryz.func57, by kernel_rfl, by kernel_rfl⟩
theorem i60 : FuncIs Tryz.prog 60 c60 := ⟨Tryz.f60, Tryz.func60, by kernel_rfl, by kernel_rfl⟩
theorem i61 : FuncIs Tryz.prog 61 c61 := ⟨Tryz.f61, Tryz.func61, by kernel_rfl, by kernel_rfl⟩
theorem i64 : FuncIs Tryz.prog 64 c64 := ⟨Tryz.f64, Tryz.func64, by kernel_rfl, by kernel_rfl⟩
theorem i65 : FuncIs Tryz.prog 65 c65 := ⟨Tryz.f65, Tryz.func65, by kernel_rfl, by kernel_rfl⟩
theorem i66 : FuncIs Tryz.prog 66 c66 := ⟨Tryz.f66, Tryz.func66, by kernel_rfl, by kernel_rfl⟩
theorem i67 : FuncIs Tryz.prog 67 c67 := ⟨Tryz.f67, Tryz.func67, by kernel_rfl, by kernel_rfl⟩
theorem i68 : FuncIs Tryz.prog 68 c68 := ⟨Tryz.f68, Tryz.func68, by kernel_rfl, by kernel_rfl⟩
theorem i69 : FuncIs Tryz.prog 69 c69 := ⟨Tryz.f69, Tryz.func69, by kernel_rfl, by kernel_rfl⟩
theorem i70 : FuncIs Tryz.prog 70 c70 := ⟨Tryz.f70, Tryz.func70, by kernel_rfl, by kernel_rfl⟩
theorem i71 : FuncIs Tryz.prog 71 c71 := ⟨Tryz.f71, Tryz.func71, by kernel_rfl, by kernel_rfl⟩
theorem i72 : FuncIs Tryz.prog 72 c72 := ⟨Tryz.f72, Tryz.func72, by kernel_rfl, by kernel_rfl⟩
theorem i73 : FuncIs Tryz.prog 73 c73 := ⟨Tryz.f73, Tryz.func73, by kernel_rfl, by kernel_rfl⟩
theorem i74 : FuncIs Tryz.prog 74 c74 := ⟨Tryz.f74, Tryz.func74, by kernel_rfl, by kernel_rfl⟩
theorem i75 : FuncIs Tryz.prog 75 c75 := ⟨Tryz.f75, Tryz.func75, by kernel_rfl, by kernel_rfl⟩
theorem i76 : FuncIs Tryz.prog 76 c76 := ⟨Tryz.f76, Tryz.func76, by kernel_rfl, by kernel_rfl⟩
theorem i77 : FuncIs Tryz.prog 77 c77 := ⟨Tryz.f77, Tryz.func77, by kernel_rfl, by kernel_rfl⟩
theorem i78 : FuncIs Tryz.prog 78 c78 := ⟨Tryz.f78, Tryz.func78, by kernel_rfl, by kernel_rfl⟩
theorem i79 : FuncIs Tryz.prog 79 c79 := ⟨Tryz.f79, Tryz.func79, by kernel_rfl, by kernel_rfl⟩
theorem i80 : FuncIs Tryz.prog 80 c80 := ⟨Tryz.f80, Tryz.func80, by kernel_rfl, by kernel_rfl⟩
theorem i81 : FuncIs Tryz.prog 81 c81 := ⟨Tryz.f81, Tryz.func81, by kernel_rfl, by kernel_rfl⟩
theorem i82 : FuncIs Tryz.prog 82 c82 := ⟨Tryz.f82, Tryz.func82, by kernel_rfl, by kernel_rfl⟩
theorem i83 : FuncIs Tryz.prog 83 c83 := ⟨Tryz.f83, Tryz.func83, by kernel_rfl, by kernel_rfl⟩
theorem i87 : FuncIs Tryz.prog 87 c87 := ⟨Tryz.f87, Tryz.func87, by kernel_rfl, by kernel_rfl⟩
theorem i88 : FuncIs Tryz.prog 88 c88 := ⟨Tryz.f88, Tryz.func88, by kernel_rfl, by kernel_rfl⟩
theorem i92 : FuncIs Tryz.prog 92 c92 := ⟨Tryz.f92, Tryz.func92, by kernel_rfl, by kernel_rfl⟩
theorem i93 : FuncIs Tryz.prog 93 c93 := ⟨Tryz.f93, Tryz.func93, by kernel_rfl, by kernel_rfl⟩
theorem i94 : FuncIs Tryz.prog 94 c94 := ⟨Tryz.f94, Tryz.func94, by kernel_rfl, by kernel_rfl⟩
theorem i95 : FuncIs Tryz.prog 95 c95 := ⟨Tryz.f95, Tryz.func95, by kernel_rfl, by kernel_rfl⟩
theorem i96 : FuncIs Tryz.prog 96 c96 := ⟨Tryz.f96, Tryz.func96, by kernel_rfl, by kernel_rfl⟩
theorem i97 : FuncIs Tryz.prog 97 c97 := ⟨Tryz.f97, Tryz.func97, by kernel_rfl, by kernel_rfl⟩
theorem i98 : FuncIs Tryz.prog 98 c98 := ⟨Tryz.f98, Tryz.func98, by kernel_rfl, by kernel_rfl⟩
theorem i99 : FuncIs Tryz.prog 99 c99 := ⟨Tryz.f99, Tryz.func99, by kernel_rfl, by kernel_rfl⟩
theorem i101 : FuncIs Tryz.prog 101 c101 := ⟨Tryz.f101, Tryz.func101, by kernel_rfl, by kernel_rfl⟩
theorem i102 : FuncIs Tryz.prog 102 c102 := ⟨Tryz.f102, Tryz.func102, by kernel_rfl, by kernel_rfl⟩
theorem i104 : FuncIs Tryz.prog 104 c104 := ⟨Tryz.f104, Tryz.func104, by kernel_rfl, by kernel_rfl⟩
theorem i105 : FuncIs Tryz.prog 105 c105 := ⟨Tryz.f105, Tryz.func105, by kernel_rfl, by kernel_rfl⟩
theorem i106 : FuncIs Tryz.prog 106 c106 := ⟨Tryz.f106, Tryz.func106, by kernel_rfl, by kernel_rfl⟩
theorem i107 : FuncIs Tryz.prog 107 c107 := ⟨Tryz.f107, Tryz.func107, by kernel_rfl, by kernel_rfl⟩
theorem i108 : FuncIs Tryz.prog 108 c108 := ⟨Tryz.f108, Tryz.func108, by kernel_rfl, by kernel_rfl⟩
theorem i109 : FuncIs Tryz.prog 109 c109 := ⟨Tryz.f109, Tryz.func109, by kernel_rfl, by kernel_rfl⟩
theorem i110 : FuncIs Tryz.prog 110 c110 := ⟨Tryz.f110, Tryz.func110, by kernel_rfl, by kernel_rfl⟩
theorem i111 : FuncIs Tryz.prog 111 c111 := ⟨Tryz.f111, Tryz.func111, by kernel_rfl, by kernel_rfl⟩
theorem i112 : FuncIs Tryz.prog 112 c112 := ⟨Tryz.f112, Tryz.func112, by kernel_rfl, by kernel_rfl⟩
theorem i113 : FuncIs Tryz.prog 113 c113 := ⟨Tryz.f113, Tryz.func113, by kernel_rfl, by kernel_rfl⟩
theorem i114 : FuncIs Tryz.prog 114 c114 := ⟨Tryz.f114, Tryz.func114, by kernel_rfl, by kernel_rfl⟩
theorem i115 : FuncIs Tryz.prog 115 c115 := ⟨Tryz.f115, Tryz.func115, by kernel_rfl, by kernel_rfl⟩
theorem i116 : FuncIs Tryz.prog 116 c116 := ⟨Tryz.f116, Tryz.func116, by kernel_rfl, by kernel_rfl⟩
theorem i117 : FuncIs Tryz.prog 117 c117 := ⟨Tryz.f117, Tryz.func117, by kernel_rfl, by kernel_rfl⟩
theorem i118 : FuncIs Tryz.prog 118 c118 := ⟨Tryz.f118, Tryz.func118, by kernel_rfl, by kernel_rfl⟩
theorem i119 : FuncIs Tryz.prog 119 c119 := ⟨Tryz.f119, Tryz.func119, by kernel_rfl, by kernel_rfl⟩
theorem i121 : FuncIs Tryz.prog 121 c121 := ⟨Tryz.f121, Tryz.func121, by kernel_rfl, by kernel_rfl⟩
theorem i122 : FuncIs Tryz.prog 122 c122 := ⟨Tryz.f122, Tryz.func122, by kernel_rfl, by kernel_rfl⟩
theorem i123 : FuncIs Tryz.prog 123 c123 := ⟨Tryz.f123, Tryz.func123, by kernel_rfl, by kernel_rfl⟩
theorem i125 : FuncIs Tryz.prog 125 c125 := ⟨Tryz.f125, Tryz.func125, by kernel_rfl, by kernel_rfl⟩
theorem i130 : FuncIs Tryz.prog 130 c130 := ⟨Tryz.f130, Tryz.func130, by kernel_rfl, by kernel_rfl⟩
theorem i131 : FuncIs Tryz.prog 131 c131 := ⟨Tryz.f131, Tryz.func131, by kernel_rfl, by kernel_rfl⟩
theorem i132 : FuncIs Tryz.prog 132 c132 := ⟨Tryz.f132, Tryz.func132, by kernel_rfl, by kernel_rfl⟩
theorem i133 : FuncIs Tryz.prog 133 c133 := ⟨Tryz.f133, Tryz.func133, by kernel_rfl, by kernel_rfl⟩
theorem i134 : FuncIs Tryz.prog 134 c134 := ⟨Tryz.f134, Tryz.func134, by kernel_rfl, by kernel_rfl⟩
theorem i135 : FuncIs Tryz.prog 135 c135 := ⟨Tryz.f135, Tryz.func135, by kernel_rfl, by kernel_rfl⟩
theorem i136 : FuncIs Tryz.prog 136 c136 := ⟨Tryz.f136, Tryz.func136, by kernel_rfl, by kernel_rfl⟩
theorem i137 : FuncIs Tryz.prog 137 c137 := ⟨Tryz.f137, Tryz.func137, by kernel_rfl, by kernel_rfl⟩
theorem i138 : FuncIs Tryz.prog 138 c138 := ⟨Tryz.f138, Tryz.func138, by kernel_rfl, by kernel_rfl⟩
theorem i141 : FuncIs Tryz.prog 141 c141 := ⟨Tryz.f141, Tryz.func141, by kernel_rfl, by kernel_rfl⟩
theorem i142 : FuncIs Tryz.prog 142 c142 := ⟨Tryz.f142, Tryz.func142, by kernel_rfl, by kernel_rfl⟩
theorem i143 : FuncIs Tryz.prog 143 c143 := ⟨Tryz.f143, Tryz.func143, by kernel_rfl, by kernel_rfl⟩
theorem i149 : FuncIs Tryz.prog 149 c149 := ⟨Tryz.f149, Tryz.func149, by kernel_rfl, by kernel_rfl⟩
theorem i153 : FuncIs Tryz.prog 153 c153 := ⟨Tryz.f153, Tryz.func153, by kernel_rfl, by kernel_rfl⟩
theorem i159 : FuncIs Tryz.prog 159 c159 := ⟨Tryz.f159, Tryz.func159, by kernel_rfl, by kernel_rfl⟩
theorem i160 : FuncIs Tryz.prog 160 c160 := ⟨Tryz.f160, Tryz.func160, by kernel_rfl, by kernel_rfl⟩
theorem i162 : FuncIs Tryz.prog 162 c162 := ⟨Tryz.f162, Tryz.func162, by kernel_rfl, by kernel_rfl⟩
theorem i171 : FuncIs Tryz.prog 171 c171 := ⟨Tryz.f171, Tryz.func171, by kernel_rfl, by kernel_rfl⟩
theorem i172 : FuncIs Tryz.prog 172 c172 := ⟨Tryz.f172, Tryz.func172, by kernel_rfl, by kernel_rfl⟩
theorem i173 : FuncIs Tryz.prog 173 c173 := ⟨Tryz.f173, Tryz.func173, by kernel_rfl, by kernel_rfl⟩
theorem i174 : FuncIs Tryz.prog 174 c174 := ⟨Tryz.f174, Tryz.func174, by kernel_rfl, by kernel_rfl⟩
theorem i175 : FuncIs Tryz.prog 175 c175 := ⟨Tryz.f175, Tryz.func175, by kernel_rfl, by kernel_rfl⟩
theorem i177 : FuncIs Tryz.prog 177 c177 := ⟨Tryz.f177, Tryz.func177, by kernel_rfl, by kernel_rfl⟩
theorem i178 : FuncIs Tryz.prog 178 c178 := ⟨Tryz.f178, Tryz.func178, by kernel_rfl, by kernel_rfl⟩
theorem i179 : FuncIs Tryz.prog 179 c179 := ⟨Tryz.f179, Tryz.func179, by kernel_rfl, by kernel_rfl⟩
theorem i180 : FuncIs Tryz.prog 180 c180 := ⟨Tryz.f180, Tryz.func180, by kernel_rfl, by kernel_rfl⟩
theorem i182 : FuncIs Tryz.prog 182 c182 := ⟨Tryz.f182, Tryz.func182, by kernel_rfl, by kernel_rfl⟩
theorem i183 : FuncIs Tryz.prog 183 c183 := ⟨Tryz.f183, Tryz.func183, by kernel_rfl, by kernel_rfl⟩
theorem i184 : FuncIs Tryz.prog 184 c184 := ⟨Tryz.f184, Tryz.func184, by kernel_rfl, by kernel_rfl⟩
theorem i190 : FuncIs Tryz.prog 190 c190 := ⟨Tryz.f190, Tryz.func190, by kernel_rfl, by kernel_rfl⟩
theorem i194 : FuncIs Tryz.prog 194 c194 := ⟨Tryz.f194, Tryz.func194, by kernel_rfl, by kernel_rfl⟩
theorem i195 : FuncIs Tryz.prog 195 c195 := ⟨Tryz.f195, Tryz.func195, by kernel_rfl, by kernel_rfl⟩
theorem i201 : FuncIs Tryz.prog 201 c201 := ⟨Tryz.f201, Tryz.func201, by kernel_rfl, by kernel_rfl⟩
theorem i217 : FuncIs Tryz.prog 217 c217 := ⟨Tryz.f217, Tryz.func217, by kernel_rfl, by kernel_rfl⟩
theorem i218 : FuncIs Tryz.prog 218 c218 := ⟨Tryz.f218, Tryz.func218, by kernel_rfl, by kernel_rfl⟩
theorem i220 : FuncIs Tryz.prog 220 c220 := ⟨Tryz.f220, Tryz.func220, by kernel_rfl, by kernel_rfl⟩
theorem i221 : FuncIs Tryz.prog 221 c221 := ⟨Tryz.f221, Tryz.func221, by kernel_rfl, by kernel_rfl⟩
theorem i222 : FuncIs Tryz.prog 222 c222 := ⟨Tryz.f222, Tryz.func222, by kernel_rfl, by kernel_rfl⟩
theorem i223 : FuncIs Tryz.prog 223 c223 := ⟨Tryz.f223, Tryz.func223, by kernel_rfl, by kernel_rfl⟩
theorem i224 : FuncIs Tryz.prog 224 c224 := ⟨Tryz.f224, Tryz.func224, by kernel_rfl, by kernel_rfl⟩
theorem i225 : FuncIs Tryz.prog 225 c225 := ⟨Tryz.f225, Tryz.func225, by kernel_rfl, by kernel_rfl⟩
theorem i227 : FuncIs Tryz.prog 227 c227 := ⟨Tryz.f227, Tryz.func227, by kernel_rfl, by kernel_rfl⟩
theorem i228 : FuncIs Tryz.prog 228 c228 := ⟨Tryz.f228, Tryz.func228, by kernel_rfl, by kernel_rfl⟩
theorem i229 : FuncIs Tryz.prog 229 c229 := ⟨Tryz.f229, Tryz.func229, by kernel_rfl, by kernel_rfl⟩
theorem i230 : FuncIs Tryz.prog 230 c230 := ⟨Tryz.f230, Tryz.func230, by kernel_rfl, by kernel_rfl⟩
theorem i231 : FuncIs Tryz.prog 231 c231 := ⟨Tryz.f231, Tryz.func231, by kernel_rfl, by kernel_rfl⟩
theorem i232 : FuncIs Tryz.prog 232 c232 := ⟨Tryz.f232, Tryz.func232, by kernel_rfl, by kernel_rfl⟩
theorem i233 : FuncIs Tryz.prog 233 c233 := ⟨Tryz.f233, Tryz.func233, by kernel_rfl, by kernel_rfl⟩
theorem i251 : FuncIs Tryz.prog 251 c251 := ⟨Tryz.f251, Tryz.func251, by kernel_rfl, by kernel_rfl⟩
theorem i252 : FuncIs Tryz.prog 252 c252 := ⟨Tryz.f252, Tryz.func252, by kernel_rfl, by kernel_rfl⟩
theorem i254 : FuncIs Tryz.prog 254 c254 := ⟨Tryz.f254, Tryz.func254, by kernel_rfl, by kernel_rfl⟩
theorem i255 : FuncIs Tryz.prog 255 c255 := ⟨Tryz.f255, Tryz.func255, by kernel_rfl, by kernel_rfl⟩
theorem i256 : FuncIs Tryz.prog 256 c256 := ⟨Tryz.f256, Tryz.func256, by kernel_rfl, by kernel_rfl⟩
theorem i267 : FuncIs Tryz.prog 267 c267 := ⟨Tryz.f267, Tryz.func267, by kernel_rfl, by kernel_rfl⟩
theorem i275 : FuncIs Tryz.prog 275 c275 := ⟨Tryz.f275, Tryz.func275, by kernel_rfl, by kernel_rfl⟩
theorem i276 : FuncIs Tryz.prog 276 c276 := ⟨Tryz.f276, Tryz.func276, by kernel_rfl, by kernel_rfl⟩
theorem i277 : FuncIs Tryz.prog 277 c277 := ⟨Tryz.f277, Tryz.func277, by kernel_rfl, by kernel_rfl⟩
theorem i278 : FuncIs Tryz.prog 278 c278 := ⟨Tryz.f278, Tryz.func278, by kernel_rfl, by kernel_rfl⟩
theorem i279 : FuncIs Tryz.prog 279 c279 := ⟨Tryz.f279, Tryz.func279, by kernel_rfl, by kernel_rfl⟩
theorem i280 : FuncIs Tryz.prog 280 c280 := ⟨Tryz.f280, Tryz.func280, by kernel_rfl, by kernel_rfl⟩
theorem i281 : FuncIs Tryz.prog 281 c281 := ⟨Tryz.f281, Tryz.func281, by kernel_rfl, by kernel_rfl⟩
theorem i282 : FuncIs Tryz.prog 282 c282 := ⟨Tryz.f282, Tryz.func282, by kernel_rfl, by kernel_rfl⟩
theorem i283 : FuncIs Tryz.prog 283 c283 := ⟨Tryz.f283, Tryz.func283, by kernel_rfl, by kernel_rfl⟩
theorem i294 : FuncIs Tryz.prog 294 c294 := ⟨Tryz.f294, Tryz.func294, by kernel_rfl, by kernel_rfl⟩
theorem i295 : FuncIs Tryz.prog 295 c295 := ⟨Tryz.f295, Tryz.func295, by kernel_rfl, by kernel_rfl⟩
theorem i298 : FuncIs Tryz.prog 298 c298 := ⟨Tryz.f298, Tryz.func298, by kernel_rfl, by kernel_rfl⟩
def ft : FT := (.node 106 (.node 52 (.node 27 (.node 17 (.node 9 (.node 6 (.node 5 (.one 3 c3) (.one 5 c5)) (.node 7 (.one 6 c6) (.node 8 (.one 7 c7) (.one 8 c8)))) (.node 13 (.node 10 (.one 9 c9) (.one 10 c10)) (.node 15 (.one 13 c13) (.node 16 (.one 15 c15) (.one 16 c16))))) (.node 22 (.node 19 (.node 18 (.one 17 c17) (.one 18 c18)) (.node 20 (.one 19 c19) (.node 21 (.one 20 c20) (.one 21 c21)))) (.node 24 (.node 23 (.one 22 c22) (.one 23 c23)) (.node 25 (.one 24 c24) (.node 26 (.one 25 c25) (.one 26 c26)))))) (.node 40 (.node 32 (.node 29 (.node 28 (.one 27 c27) (.one 28 c28)) (.node 30 (.one 29 c29) (.node 31 (.one 30 c30) (.one 31 c31)))) (.node 34 (.node 33 (.one 32 c32) (.one 33 c33)) (.node 35 (.one 34 c34) (.node 36 (.one 35 c35) (.one 36 c36))))) (.node 46 (.node 43 (.node 42 (.one 40 c40) (.one 42 c42)) (.node 44 (.one 43 c43) (.node 45 (.one 44 c44) (.one 45 c45)))) (.node 49 (.node 47 (.one 46 c46) (.node 48 (.one 47 c47) (.one 48 c48))) (.node 50 (.one 49 c49) (.node 51 (.one 50 c50) (.one 51 c51))))))) (.node 77 (.node 66 (.node 57 (.node 54 (.node 53 (.one 52 c52) (.one 53 c53)) (.node 55 (.one 54 c54) (.node 56 (.one 55 c55) (.one 56 c56)))) (.node 61 (.node 60 (.one 57 c57) (.one 60 c60)) (.node 64 (.one 61 c61) (.node 65 (.one 64 c64) (.one 65 c65))))) (.node 71 (.node 68 (.node 67 (.one 66 c66) (.one 67 c67)) (.node 69 (.one 68 c68) (.node 70 (.one 69 c69) (.one 70 c70)))) (.node 74 (.node 72 (.one 71 c71) (.node 73 (.one 72 c72) (.one 73 c73))) (.node 75 (.one 74 c74) (.node 76 (.one 75 c75) (.one 76 c76)))))) (.node 93 (.node 82 (.node 79 (.node 78 (.one 77 c77) (.one 78 c78)) (.node 80 (.one 79 c79) (.node 81 (.one 80 c80) (.one 81 c81)))) (.node 87 (.node 83 (.one 82 c82) (.one 83 c83)) (.node 88 (.one 87 c87) (.node 92 (.one 88 c88) (.one 92 c92))))) (.node 98 (.node 95 (.node 94 (.one 93 c93) (.one 94 c94)) (.node 96 (.one 95 c95) (.node 97 (.one 96 c96) (.one 97 c97)))) (.node 102 (.node 99 (.one 98 c98) (.node 101 (.one 99 c99) (.one 101 c101))) (.node 104 (.one 102 c102) (.node 105 (.one 104 c104) (.one 105 c105)))))))) (.node 179 (.node 133 (.node 116 (.node 111 (.node 108 (.node 107 (.one 106 c106) (.one 107 c107)) (.node 109 (.one 108 c108) (.node 110 (.one 109 c109) (.one 110 c110)))) (.node 113 (.node 112 (.one 111 c111) (.one 112 c112)) (.node 114 (.one 113 c113) (.node 115 (.one 114 c114) (.one 115 c115))))) (.node 122 (.node 118 (.node 117 (.one 116 c116) (.one 117 c117)) (.node 119 (.one 118 c118) (.node 121 (.one 119 c119) (.one 121 c121)))) (.node 130 (.node 123 (.one 122 c122) (.node 125 (.one 123 c123) (.one 125 c125))) (.node 131 (.one 130 c130) (.node 132 (.one 131 c131) (.one 132 c132)))))) (.node 153 (.node 138 (.node 135 (.node 134 (.one 133 c133) (.one 134 c134)) (.node 136 (.one 135 c135) (.node 137 (.one 136 c136) (.one 137 c137)))) (.node 142 (.node 141 (.one 138 c138) (.one 141 c141)) (.node 143 (.one 142 c142) (.node 149 (.one 143 c143) (.one 149 c149))))) (.node 172 (.node 160 (.node 159 (.one 153 c153) (.one 159 c159)) (.node 162 (.one 160 c160) (.node 171 (.one 162 c162) (.one 171 c171)))) (.node 175 (.node 173 (.one 172 c172) (.node 174 (.one 173 c173) (.one 174 c174))) (.node 177 (.one 175 c175) (.node 178 (.one 177 c177) (.one 178 c178))))))) (.node 231 (.node 218 (.node 190 (.node 182 (.node 180 (.one 179 c179) (.one 180 c180)) (.node 183 (.one 182 c182) (.node 184 (.one 183 c183) (.one 184 c184)))) (.node 195 (.node 194 (.one 190 c190) (.one 194 c194)) (.node 201 (.one 195 c195) (.node 217 (.one 201 c201) (.one 217 c217))))) (.node 224 (.node 221 (.node 220 (.one 218 c218) (.one 220 c220)) (.node 222 (.one 221 c221) (.node 223 (.one 222 c222) (.one 223 c223)))) (.node 228 (.node 225 (.one 224 c224) (.node 227 (.one 225 c225) (.one 227 c227))) (.node 229 (.one 228 c228) (.node 230 (.one 229 c229) (.one 230 c230)))))) (.node 276 (.node 254 (.node 233 (.node 232 (.one 231 c231) (.one 232 c232)) (.node 251 (.one 233 c233) (.node 252 (.one 251 c251) (.one 252 c252)))) (.node 256 (.node 255 (.one 254 c254) (.one 255 c255)) (.node 267 (.one 256 c256) (.node 275 (.one 267 c267) (.one 275 c275))))) (.node 281 (.node 278 (.node 277 (.one 276 c276) (.one 277 c277)) (.node 279 (.one 278 c278) (.node 280 (.one 279 c279) (.one 280 c280)))) (.node 294 (.node 282 (.one 281 c281) (.node 283 (.one 282 c282) (.one 283 c283))) (.node 295 (.one 294 c294) (.node 298 (.one 295 c295) (.one 298 c298)))))))))
theorem ft_ok : ft.All (FuncIs Tryz.prog) := ⟨⟨⟨⟨⟨⟨⟨i3, i5⟩, ⟨i6, ⟨i7, i8⟩⟩⟩, ⟨⟨i9, i10⟩, ⟨i13, ⟨i15, i16⟩⟩⟩⟩, ⟨⟨⟨i17, i18⟩, ⟨i19, ⟨i20, i21⟩⟩⟩, ⟨⟨i22, i23⟩, ⟨i24, ⟨i25, i26⟩⟩⟩⟩⟩, ⟨⟨⟨⟨i27, i28⟩, ⟨i29, ⟨i30, i31⟩⟩⟩, ⟨⟨i32, i33⟩, ⟨i34, ⟨i35, i36⟩⟩⟩⟩, ⟨⟨⟨i40, i42⟩, ⟨i43, ⟨i44, i45⟩⟩⟩, ⟨⟨i46, ⟨i47, i48⟩⟩, ⟨i49, ⟨i50, i51⟩⟩⟩⟩⟩⟩, ⟨⟨⟨⟨⟨i52, i53⟩, ⟨i54, ⟨i55, i56⟩⟩⟩, ⟨⟨i57, i60⟩, ⟨i61, ⟨i64, i65⟩⟩⟩⟩, ⟨⟨⟨i66, i67⟩, ⟨i68, ⟨i69, i70⟩⟩⟩, ⟨⟨i71, ⟨i72, i73⟩⟩, ⟨i74, ⟨i75, i76⟩⟩⟩⟩⟩, ⟨⟨⟨⟨i77, i78⟩, ⟨i79, ⟨i80, i81⟩⟩⟩, ⟨⟨i82, i83⟩, ⟨i87, ⟨i88, i92⟩⟩⟩⟩, ⟨⟨⟨i93, i94⟩, ⟨i95, ⟨i96, i97⟩⟩⟩, ⟨⟨i98, ⟨i99, i101⟩⟩, ⟨i102, ⟨i104, i105⟩⟩⟩⟩⟩⟩⟩, ⟨⟨⟨⟨⟨⟨i106, i107⟩, ⟨i108, ⟨i109, i110⟩⟩⟩, ⟨⟨i111, i112⟩, ⟨i113, ⟨i114, i115⟩⟩⟩⟩, ⟨⟨⟨i116, i117⟩, ⟨i118, ⟨i119, i121⟩⟩⟩, ⟨⟨i122, ⟨i123, i125⟩⟩, ⟨i130, ⟨i131, i132⟩⟩⟩⟩⟩, ⟨⟨⟨⟨i133, i134⟩, ⟨i135, ⟨i136, i137⟩⟩⟩, ⟨⟨i138, i141⟩, ⟨i142, ⟨i143, i149⟩⟩⟩⟩, ⟨⟨⟨i153, i159⟩, ⟨i160, ⟨i162, i171⟩⟩⟩, ⟨⟨i172, ⟨i173, i174⟩⟩, ⟨i175, ⟨i177, i178⟩⟩⟩⟩⟩⟩, ⟨⟨⟨⟨⟨i179, i180⟩, ⟨i182, ⟨i183, i184⟩⟩⟩, ⟨⟨i190, i194⟩, ⟨i195, ⟨i201, i217⟩⟩⟩⟩, ⟨⟨⟨i218, i220⟩, ⟨i221, ⟨i222, i223⟩⟩⟩, ⟨⟨i224, ⟨i225, i227⟩⟩, ⟨i228, ⟨i229, i230⟩⟩⟩⟩⟩, ⟨⟨⟨⟨i231, i232⟩, ⟨i233, ⟨i251, i252⟩⟩⟩, ⟨⟨i254, i255⟩, ⟨i256, ⟨i267, i275⟩⟩⟩⟩, ⟨⟨⟨i276, i277⟩, ⟨i278, ⟨i279, i280⟩⟩⟩, ⟨⟨i281, ⟨i282, i283⟩⟩, ⟨i294, ⟨i295, i298⟩⟩⟩⟩⟩⟩⟩⟩
def pureM : Nat := 164550455732144923602747701444665075409754003801367807006213154784
def extF (i : Nat) : Nat := cond (Nat.beq i 235) 1 (cond (Nat.beq i 253) 2 0)

def gl0 : AV := (.ag [(.i .u8 0), (.i .u8 0), (.i .u8 0), (.i .u8 0), (.i .u8 0), (.i .u8 0), (.i .u8 0), (.i .u8 0), (.i .u8 0), (.i .u8 1), (.i .u8 1), (.i .u8 1), (.i .u8 1), (.i .u8 1), (.i .u8 0), (.i .u8 0), (.i .u8 0), (.i .u8 0), (.i .u8 0), (.i .u8 0), (.i .u8 0), (.i .u8 0), (.i .u8 0), (.i .u8 0), (.i .u8 0), (.i .u8 0), (.i .u8 0), (.i .u8 0), (.i .u8 0), (.i .u8 0), (.i .u8 0), (.i .u8 0), (.i .u8 1), (.i .u8 0), (.i .u8 0), (.i .u8 0), (.i .u8 0), (.i .u8 0), (.i .u8 0), (.i .u8 0), (.i .u8 0), (.i .u8 0), (.i .u8 0), (.i .u8 0), (.i .u8 0), (.i .u8 0), (.i .u8 0), (.i .u8 0), (.i .u8 0), (.i .u8 0), (.i .u8 0), (.i .u8 0), (.i .u8 0), (.i .u8 0), (.i .u8 0), (.i .u8 0), (.i .u8 0), (.i .u8 0), (.i .u8 0), (.i .u8 0), (.i .u8 0), (.i .u8 0), (.i .u8 0), (.i .u8 0), (.i .u8 0), (.i .u8 0), (.i .u8 0), (.i .u8 0), (.i .u8 0), (.i .u8 0), (.i .u8 0), (.i .u8 0), (.i .u8 0), (.i .u8 0), (.i .u8 0), (.i .u8 0), (.i .u8 0), (.i .u8 0), (.i .u8 0), (.i .u8 0), (.i .u8 0), (.i .u8 0), (.i .u8 0), (.i .u8 0), (.i .u8 0), (.i .u8 0), (.i .u8 0), (.i .u8 0), (.i .u8 0), (.i .u8 0), (.i .u8 0), (.i .u8 0), (.i .u8 0), (.i .u8 0), (.i .u8 0), (.i .u8 0), (.i .u8 0), (.i .u8 0), (.i .u8 0), (.i .u8 0), (.i .u8 0), (.i .u8 0), (.i .u8 0), (.i .u8 0), (.i .u8 0), (.i .u8 0), (.i .u8 0), (.i .u8 0), (.i .u8 0), (.i .u8 0), (.i .u8 0), (.i .u8 0), (.i .u8 0), (.i .u8 0), (.i .u8 0), (.i .u8 0), (.i .u8 0), (.i .u8 0), (.i .u8 0), (.i .u8 0), (.i .u8 0), (.i .u8 0), (.i .u8 0), (.i .u8 0), (.i .u8 0), (.i .u8 0), (.i .u8 0), (.i .u8 0), (.i .u8 0), (.i .u8 0), (.i .u8 0), (.i .u8 0), (.i .u8 0), (.i .u8 0), (.i .u8 0), (.i .u8 0), (.i .u8 0), (.i .u8 0), (.i .u8 0), (.i .u8 0), (.i .u8 0), (.i .u8 0), (.i .u8 0), (.i .u8 0), (.i .u8 0), (.i .u8 0), (.i .u8 0), (.i .u8 0), (.i .u8 0), (.i .u8 0), (.i .u8 0), (.i .u8 0), (.i .u8 0), (.i .u8 0), (.i .u8 0), (.i .u8 0), (.i .u8 0), (.i .u8 0), (.i .u8 0), (.i .u8 0), (.i .u8 0), (.i .u8 0), (.i .u8 0), (.i .u8 0), (.i .u8 0), (.i .u8 0), (.i .u8 0), (.i .u8 0), (.i .u8 0), (.i .u8 0), (.i .u8 0), (.i .u8 0), (.i .u8 0), (.i .u8 0), (.i .u8 0), (.i .u8 0), (.i .u8 0), (.i .u8 0), (.i .u8 0), (.i .u8 0), (.i .u8 0), (.i .u8 0), (.i .u8 0), (.i .u8 0), (.i .u8 0), (.i .u8 0), (.i .u8 0), (.i .u8 0), (.i .u8 0), (.i .u8 0), (.i .u8 0), (.i .u8 0), (.i .u8 0), (.i .u8 0), (.i .u8 0), (.i .u8 0), (.i .u8 0), (.i .u8 0), (.i .u8 0), (.i .u8 0), (.i .u8 0), (.i .u8 0), (.i .u8 0), (.i .u8 0), (.i .u8 0), (.i .u8 0), (.i .u8 0), (.i .u8 0), (.i .u8 0), (.i .u8 0), (.i .u8 0), (.i .u8 0), (.i .u8 0), (.i .u8 0), (.i .u8 0), (.i .u8 0), (.i .u8 0), (.i .u8 0), (.i .u8 0), (.i .u8 0), (.i .u8 0), (.i .u8 0), (.i .u8 0), (.i .u8 0), (.i .u8 0), (.i .u8 0), (.i .u8 0), (.i .u8 0), (.i .u8 0), (.i .u8 0), (.i .u8 0), (.i .u8 0), (.i .u8 0), (.i .u8 0), (.i .u8 0), (.i .u8 0), (.i .u8 0), (.i .u8 0), (.i .u8 0), (.i .u8 0), (.i .u8 0), (.i .u8 0), (.i .u8 0), (.i .u8 0), (.i .u8 0), (.i .u8 0), (.i .u8 0), (.i .u8 0), (.i .u8 0), (.i .u8 0), (.i .u8 0), (.i .u8 0), (.i .u8 0), (.i .u8 0), (.i .u8 0), (.i .u8 0)])
def gl1 : AV := (.ag [(.b false), (.b false), (.i .u8 0), (.i .i64 0), (.i .i64 0), (.b true), (.b true), (.i .u8 1), (.i .i64 4), (.i .i64 0), (.b true), (.b true), (.i .u8 0), (.i .i64 0), (.i .i64 0), (.b true), (.b true), (.i .u8 0), (.i .i64 0), (.i .i64 1), (.b true), (.b true), (.i .u8 0), (.i .i64 0), (.i .i64 2), (.b true), (.b true), (.i .u8 0), (.i .i64 0), (.i .i64 2), (.b true), (.b true), (.i .u8 0), (.i .i64 0), (.i .i64 2), (.b true), (.b true), (.i .u8 0), (.i .i64 0), (.i .i64 2), (.b true), (.b true), (.i .u8 2), (.i .i64 0), (.i .i64 1), (.b true), (.b true), (.i .u8 2), (.i .i64 0), (.i .i64 1), (.b true), (.b true), (.i .u8 0), (.i .i64 0), (.i .i64 1), (.b true), (.b true), (.i .u8 0), (.i .i64 0), (.i .i64 1), (.b true), (.b true), (.i .u8 0), (.i .i64 0), (.i .i64 1), (.b true), (.b true), (.i .u8 0), (.i .i64 0), (.i .i64 1), (.b true), (.b true), (.i .u8 0), (.i .i64 0), (.i .i64 2), (.b false), (.b true), (.i .u8 3), (.i .i64 0), (.i .i64 0), (.b false), (.b true), (.i .u8 3), (.i .i64 2), (.i .i64 0)])
def gl3 : AV := (.ag [(.s [60, 45, 62]), (.i .u8 7), (.b false), (.s [45, 62]), (.i .u8 6), (.b true), (.s [117, 110, 116, 105, 108]), (.i .u8 14), (.b true), (.s [124]), (.i .u8 5), (.b false), (.s [38]), (.i .u8 4), (.b false)])
def gl7 : AV := (.ag [(.s [60, 45, 62]), (.s [45, 62]), (.s [91, 93]), (.s [60, 62]), (.s [40]), (.s [41]), (.s [44]), (.s [126]), (.s [38]), (.s [124]), (.s [47]), (.s [91]), (.s [93])])
def laid : List (String × DataW Unit) := Go.Proofs.YtbifkbdapfadfaaGreatDoor.Rows.logicAdequateRow.laid
def laidNames : List String := ((laid.drop 5).take 4).map Prod.fst
def globL : List (Nat × AV) := [(0, gl0), (1, gl1), (7, gl7), (3, gl3)]
theorem globL_ok : mapOL (avVar Tryz.prog 12) (laid.filter fun x => laidNames.contains x.1) = some globL := by kernel_rfl
def base : Base := { funcs := ft, glob := lookG globL, pure := fun g => Nat.testBit pureM g, ext := extF }
theorem base_ok : BaseOk Tryz.prog base where
  funcs := ft_ok
  orders := by kernel_rfl
  ext g hg args v h w m O B us cs ha := by
    have hb : base.ext g = cond (Nat.beq g 235) 1 (cond (Nat.beq g 253) 2 0) := rfl
    rw [hb] at hg h
    cases h1 : Nat.beq g 235 with
    | true =>
      obtain rfl := Nat.eq_of_beq_eq_true h1
      exact ext_index Tryz.func235 (by kernel_rfl) (by kernel_rfl) (by kernel_rfl) (by kernel_rfl) args v h w m O B us cs ha
    | false =>
      rw [h1] at hg h
      cases h2 : Nat.beq g 253 with
      | true =>
        obtain rfl := Nat.eq_of_beq_eq_true h2
        exact ext_cmp Tryz.func253 (by kernel_rfl) (by kernel_rfl) (by kernel_rfl) (by kernel_rfl) args v h w m O B us cs ha
      | false => rw [h2] at hg; exact absurd rfl hg
/-- What is known of a call. -/
def EOk (e : Nat × List AV × AV) : Prop := ∀ B0, SpecEntry Tryz.prog (base.env []) B0 e.1 e.2.1 e.2.2
def AllOk : List (Nat × List AV × AV) → Prop
  | [] => True
  | e :: l => EOk e ∧ AllOk l
theorem AllOk.mem : ∀ {l : List (Nat × List AV × AV)}, AllOk l → ∀ e ∈ l, EOk e
  | [], _, e, he => by cases he
  | x :: l, h, e, he => by
    rcases List.mem_cons.1 he with rfl | he
    · exact h.1
    · exact AllOk.mem h.2 e he
theorem eok (l : List (Nat × List AV × AV)) (hl : AllOk l) {e : Nat × List AV × AV} (hr : runsTo base l 100000 e = true) : EOk e := fun B0 => TabOk.entry base_ok (fun e he => hl.mem e he) hr B0
end Go.Lyc.T
