/-
  MADE BY PROGRAM (mkt.py): the functions compile to that code; the table.
-/
import Derived.Test.YtoedpegjoccnlaaGreatPcode1
import Derived.Test.YtoedpegjoccnlaaGreatChecked
import Derived.Test.YtoedpegjoccnlaaGreatAb8
set_option linter.unusedSimpArgs false
set_option linter.unusedVariables false
namespace Go.Proofs.YtoedpegjoccnlaaGreat
open Go.Ab
set_option maxRecDepth 100000
def sortL_ren : Go.Shelf.Ren := ⟨fun | 6 => 117 | 15 => 143 | 14 => 142 | 28 => 162 | 29 => 163 | 20 => 154 | 21 => 155 | 22 => 156 | 23 => 157 | 24 => 158 | 25 => 159 | 26 => 160 | 27 => 161 | 46 => 169 | 47 => 170 | 48 => 171 | 49 => 172 | 50 => 173 | 57 => 174 | n => n, fun | 22 => 153 | 24 => 159 | 25 => 182 | 3 => 3 | 39 => 156 | 0 => 0 | 53 => 203 | 55 => 205 | 4 => 4 | 46 => 212 | 45 => 211 | 50 => 216 | 5 => 5 | 9 => 9 | 66 => 222 | 70 => 226 | 76 => 228 | 77 => 229 | n => n, fun n => n⟩
open Go.Shelf Go.Proofs in
theorem sortL : SlLaysF0.n6 Tryz.prog sortL_ren := {
  mixed := by kernel_rfl,
  f6 := ⟨Tryz.f117.name, by kernel_rfl, Tryz.func117.trans (congrArg some (by kernel_rfl))⟩,
  f14 := ⟨Tryz.f142.name, by kernel_rfl, Tryz.func142.trans (congrArg some (by kernel_rfl))⟩,
  f15 := Tryz.func143.trans (congrArg some (by kernel_rfl)),
  f20 := ⟨Tryz.f154.name, by kernel_rfl, Tryz.func154.trans (congrArg some (by kernel_rfl))⟩,
  f21 := ⟨Tryz.f155.name, by kernel_rfl, Tryz.func155.trans (congrArg some (by kernel_rfl))⟩,
  f22 := ⟨Tryz.f156.name, by kernel_rfl, Tryz.func156.trans (congrArg some (by kernel_rfl))⟩,
  f23 := ⟨Tryz.f157.name, by kernel_rfl, Tryz.func157.trans (congrArg some (by kernel_rfl))⟩,
  f24 := ⟨Tryz.f158.name, by kernel_rfl, Tryz.func158.trans (congrArg some (by kernel_rfl))⟩,
  f25 := ⟨Tryz.f159.name, by kernel_rfl, Tryz.func159.trans (congrArg some (by kernel_rfl))⟩,
  f26 := ⟨Tryz.f160.name, by kernel_rfl, Tryz.func160.trans (congrArg some (by kernel_rfl))⟩,
  f27 := ⟨Tryz.f161.name, by kernel_rfl, Tryz.func161.trans (congrArg some (by kernel_rfl))⟩,
  f28 := Tryz.func162.trans (congrArg some (by kernel_rfl)),
  f29 := Tryz.func163.trans (congrArg some (by kernel_rfl)),
  f46 := ⟨Tryz.f169.name, by kernel_rfl, Tryz.func169.trans (congrArg some (by kernel_rfl))⟩,
  f47 := Tryz.func170.trans (congrArg some (by kernel_rfl)),
  f48 := Tryz.func171.trans (congrArg some (by kernel_rfl)),
  f49 := ⟨Tryz.f172.name, by kernel_rfl, Tryz.func172.trans (congrArg some (by kernel_rfl))⟩,
  f50 := ⟨Tryz.f173.name, by kernel_rfl, Tryz.func173.trans (congrArg some (by kernel_rfl))⟩,
  f57 := ⟨Tryz.f174.name, by kernel_rfl, Tryz.func174.trans (congrArg some (by kernel_rfl))⟩,
  t0 := Tryz.underlying0,
  a0 := Tryz.isAgg0,
  z0 := Tryz.sizeOf0,
  v0 := Tryz.zeroValue0,
  t3 := Tryz.underlying3,
  a3 := Tryz.isAgg3,
  z3 := Tryz.sizeOf3,
  v3 := Tryz.zeroValue3,
  t4 := Tryz.underlying4,
  a4 := Tryz.isAgg4,
  z4 := Tryz.sizeOf4,
  v4 := Tryz.zeroValue4,
  t5 := Tryz.underlying5,
  a5 := Tryz.isAgg5,
  z5 := Tryz.sizeOf5,
  v5 := Tryz.zeroValue5,
  t9 := Tryz.underlying9,
  a9 := Tryz.isAgg9,
  z9 := Tryz.sizeOf9,
  v9 := Tryz.zeroValue9,
  t22 := Tryz.underlying153,
  a22 := Tryz.isAgg153,
  z22 := Tryz.sizeOf153,
  v22 := Tryz.zeroValue153,
  t25 := Tryz.underlying182,
  a25 := Tryz.isAgg182,
  z25 := Tryz.sizeOf182,
  v25 := Tryz.zeroValue182,
  t39 := Tryz.underlying156,
  a39 := Tryz.isAgg156,
  z39 := Tryz.sizeOf156,
  v39 := Tryz.zeroValue156,
  t45 := Tryz.underlying211,
  a45 := Tryz.isAgg211,
  z45 := Tryz.sizeOf211,
  v45 := Tryz.zeroValue211,
  t46 := Tryz.underlying212,
  a46 := Tryz.isAgg212,
  z46 := Tryz.sizeOf212,
  v46 := Tryz.zeroValue212,
  t50 := Tryz.underlying216,
  a50 := Tryz.isAgg216,
  z50 := Tryz.sizeOf216,
  v50 := Tryz.zeroValue216,
  t53 := Tryz.underlying203,
  a53 := Tryz.isAgg203,
  z53 := Tryz.sizeOf203,
  v53 := Tryz.zeroValue203,
  t55 := Tryz.underlying205,
  a55 := Tryz.isAgg205,
  z55 := Tryz.sizeOf205,
  v55 := Tryz.zeroValue205,
  t66 := Tryz.underlying222,
  a66 := Tryz.isAgg222,
  z66 := Tryz.sizeOf222,
  v66 := Tryz.zeroValue222,
  t70 := Tryz.underlying226,
  a70 := Tryz.isAgg226,
  z70 := Tryz.sizeOf226,
  v70 := Tryz.zeroValue226,
  t76 := Tryz.underlying228,
  a76 := Tryz.isAgg228,
  z76 := Tryz.sizeOf228,
  v76 := Tryz.zeroValue228,
  t77 := Tryz.underlying229,
  a77 := Tryz.isAgg229,
  z77 := Tryz.sizeOf229,
  v77 := Tryz.zeroValue229 }
theorem c3 : Compiled Tryz.prog (3, a3) := ⟨Tryz.f3, n3, Tryz.func3, by kernel_rfl⟩
theorem c5 : Compiled Tryz.prog (5, a5) := ⟨Tryz.f5, n5, Tryz.func5, by kernel_rfl⟩
theorem c6 : Compiled Tryz.prog (6, a6) := ⟨Tryz.f6, n6, Tryz.func6, by kernel_rfl⟩
theorem c7 : Compiled Tryz.prog (7, a7) := ⟨Tryz.f7, n7, Tryz.func7, by kernel_rfl⟩
theorem c8 : Compiled Tryz.prog (8, a8) := ⟨Tryz.f8, n8, Tryz.func8, by kernel_rfl⟩
theorem c9 : Compiled Tryz.prog (9, a9) := ⟨Tryz.f9, n9, Tryz.func9, by kernel_rfl⟩
theorem c10 : Compiled Tryz.prog (10, a10) := ⟨Tryz.f10, n10, Tryz.func10, by kernel_rfl⟩
theorem c11 : Compiled Tryz.prog (11, a11) := ⟨Tryz.f11, n11, Tryz.func11, by kernel_rfl⟩
theorem c12 : Compiled Tryz.prog (12, a12) := ⟨Tryz.f12, n12, Tryz.func12, by kernel_rfl⟩
theorem c13 : Compiled Tryz.prog (13, a13) := ⟨Tryz.f13, n13, Tryz.func13, by kernel_rfl⟩
theorem c14 : Compiled Tryz.prog (14, a14) := ⟨Tryz.f14, n14, Tryz.func14, by kernel_rfl⟩
theorem c15 : Compiled Tryz.prog (15, a15) := ⟨Tryz.f15, n15, Tryz.func15, by kernel_rfl⟩
theorem c16 : Compiled Tryz.prog (16, a16) := ⟨Tryz.f16, n16, Tryz.func16, by kernel_rfl⟩
theorem c17 : Compiled Tryz.prog (17, a17) := ⟨Tryz.f17, n17, Tryz.func17, by kernel_rfl⟩
theorem c18 : Compiled Tryz.prog (18, a18) := ⟨Tryz.f18, n18, Tryz.func18, by kernel_rfl⟩
theorem c19 : Compiled Tryz.prog (19, a19) := ⟨Tryz.f19, n19, Tryz.func19, by kernel_rfl⟩
theorem c21 : Compiled Tryz.prog (21, a21) := ⟨Tryz.f21, n21, Tryz.func21, by kernel_rfl⟩
theorem c28 : Compiled Tryz.prog (28, a28) := ⟨Tryz.f28, n28, Tryz.func28, by kernel_rfl⟩
theorem c31 : Compiled Tryz.prog (31, a31) := ⟨Tryz.f31, n31, Tryz.func31, by kernel_rfl⟩
theorem c32 : Compiled Tryz.prog (32, a32) := ⟨Tryz.f32, n32, Tryz.func32, by kernel_rfl⟩
theorem c33 : Compiled Tryz.prog (33, a33) := ⟨Tryz.f33, n33, Tryz.func33, by kernel_rfl⟩
theorem c34 : Compiled Tryz.prog (34, a34) := ⟨Tryz.f34, n34, Tryz.func34, by kernel_rfl⟩
theorem c35 : Compiled Tryz.prog (35, a35) := ⟨Tryz.f35, n35, Tryz.func35, by kernel_rfl⟩
theorem c36 : Compiled Tryz.prog (36, a36) := ⟨Tryz.f36, n36, Tryz.func36, by kernel_rfl⟩
theorem c37 : Compiled Tryz.prog (37, a37) := ⟨Tryz.f37, n37, Tryz.func37, by kernel_rfl⟩
theorem c38 : Compiled Tryz.prog (38, a38) := ⟨Tryz.f38, n38, Tryz.func38, by kernel_rfl⟩
theorem c39 : Compiled Tryz.prog (39, a39) := ⟨Tryz.f39, n39, Tryz.func39, by kernel_rfl⟩
theorem c40 : Compiled Tryz.prog (40, a40) := ⟨Tryz.f40, n40, Tryz.func40, by kernel_rfl⟩
theorem c41 : Compiled Tryz.prog (41, a41) := ⟨Tryz.f41, n41, Tryz.func41, by kernel_rfl⟩
theorem c42 : Compiled Tryz.prog (42, a42) := ⟨Tryz.f42, n42, Tryz.func42, by kernel_rfl⟩
theorem c43 : Compiled Tryz.prog (43, a43) := ⟨Tryz.f43, n43, Tryz.func43, by kernel_rfl⟩
theorem c44 : Compiled Tryz.prog (44, a44) := ⟨Tryz.f44, n44, Tryz.func44, by kernel_rfl⟩
theorem c45 : Compiled Tryz.prog (45, a45) := ⟨Tryz.f45, n45, Tryz.func45, by kernel_rfl⟩
theorem c46 : Compiled Tryz.prog (46, a46) := ⟨Tryz.f46, n46, Tryz.func46, by kernel_rfl⟩
theorem c55 : Compiled Tryz.prog (55, a55) := ⟨Tryz.f55, n55, Tryz.func55, by kernel_rfl⟩
theorem c59 : Compiled Tryz.prog (59, a59) := ⟨Tryz.f59, n59, Tryz.func59, by kernel_rfl⟩
theorem c63 : Compiled Tryz.prog (63, a63) := ⟨Tryz.f63, n63, Tryz.func63, by kernel_rfl⟩
theorem c64 : Compiled Tryz.prog (64, a64) := ⟨Tryz.f64, n64, Tryz.func64, by kernel_rfl⟩
theorem c65 : Compiled Tryz.prog (65, a65) := ⟨Tryz.f65, n65, Tryz.func65, by kernel_rfl⟩
theorem c66 : Compiled Tryz.prog (66, a66) := ⟨Tryz.f66, n66, Tryz.func66, by kernel_rfl⟩
theorem c67 : Compiled Tryz.prog (67, a67) := ⟨Tryz.f67, n67, Tryz.func67, by kernel_rfl⟩
theorem c68 : Compiled Tryz.prog (68, a68) := ⟨Tryz.f68, n68, Tryz.func68, by kernel_rfl⟩
theorem c69 : Compiled Tryz.prog (69, a69) := ⟨Tryz.f69, n69, Tryz.func69, by kernel_rfl⟩
theorem c70 : Compiled Tryz.prog (70, a70) := ⟨Tryz.f70, n70, Tryz.func70, by kernel_rfl⟩
theorem c71 : Compiled Tryz.prog (71, a71) := ⟨Tryz.f71, n71, Tryz.func71, by kernel_rfl⟩
theorem c72 : Compiled Tryz.prog (72, a72) := ⟨Tryz.f72, n72, Tryz.func72, by kernel_rfl⟩
theorem c73 : Compiled Tryz.prog (73, a73) := ⟨Tryz.f73, n73, Tryz.func73, by kernel_rfl⟩
theorem c74 : Compiled Tryz.prog (74, a74) := ⟨Tryz.f74, n74, Tryz.func74, by kernel_rfl⟩
theorem c75 : Compiled Tryz.prog (75, a75) := ⟨Tryz.f75, n75, Tryz.func75, by kernel_rfl⟩
theorem c80 : Compiled Tryz.prog (80, a80) := ⟨Tryz.f80, n80, Tryz.func80, by kernel_rfl⟩
theorem c81 : Compiled Tryz.prog (81, a81) := ⟨Tryz.f81, n81, Tryz.func81, by kernel_rfl⟩
theorem c82 : Compiled Tryz.prog (82, a82) := ⟨Tryz.f82, n82, Tryz.func82, by kernel_rfl⟩
theorem c88 : Compiled Tryz.prog (88, a88) := ⟨Tryz.f88, n88, Tryz.func88, by kernel_rfl⟩
theorem c89 : Compiled Tryz.prog (89, a89) := ⟨Tryz.f89, n89, Tryz.func89, by kernel_rfl⟩
theorem c90 : Compiled Tryz.prog (90, a90) := ⟨Tryz.f90, n90, Tryz.func90, by kernel_rfl⟩
theorem c91 : Compiled Tryz.prog (91, a91) := ⟨Tryz.f91, n91, Tryz.func91, by kernel_rfl⟩
theorem c92 : Compiled Tryz.prog (92, a92) := ⟨Tryz.f92, n92, Tryz.func92, by kernel_rfl⟩
theorem c93 : Compiled Tryz.prog (93, a93) := ⟨Tryz.f93, n93, Tryz.func93, by kernel_rfl⟩
theorem c94 : Compiled Tryz.prog (94, a94) := ⟨Tryz.f94, n94, Tryz.func94, by kernel_rfl⟩
theorem c95 : Compiled Tryz.prog (95, a95) := ⟨Tryz.f95, n95, Tryz.func95, by kernel_rfl⟩
theorem c96 : Compiled Tryz.prog (96, a96) := ⟨Tryz.f96, n96, Tryz.func96, by kernel_rfl⟩
theorem c97 : Compiled Tryz.prog (97, a97) := ⟨Tryz.f97, n97, Tryz.func97, by kernel_rfl⟩
theorem c98 : Compiled Tryz.prog (98, a98) := ⟨Tryz.f98, n98, Tryz.func98, by kernel_rfl⟩
theorem c108 : Compiled Tryz.prog (108, a108) := ⟨Tryz.f108, n108, Tryz.func108, by kernel_rfl⟩
theorem c109 : Compiled Tryz.prog (109, a109) := ⟨Tryz.f109, n109, Tryz.func109, by kernel_rfl⟩
theorem c110 : Compiled Tryz.prog (110, a110) := ⟨Tryz.f110, n110, Tryz.func110, by kernel_rfl⟩
theorem c111 : Compiled Tryz.prog (111, a111) := ⟨Tryz.f111, n111, Tryz.func111, by kernel_rfl⟩
theorem c112 : Compiled Tryz.prog (112, a112) := ⟨Tryz.f112, n112, Tryz.func112, by kernel_rfl⟩
theorem c113 : Compiled Tryz.prog (113, a113) := ⟨Tryz.f113, n113, Tryz.func113, by kernel_rfl⟩
theorem c114 : Compiled Tryz.prog (114, a114) := ⟨Tryz.f114, n114, Tryz.func114, by kernel_rfl⟩
theorem c115 : Compiled Tryz.prog (115, a115) := ⟨Tryz.f115, n115, Tryz.func115, by kernel_rfl⟩
theorem c116 : Compiled Tryz.prog (116, a116) := ⟨Tryz.f116, n116, Tryz.func116, by kernel_rfl⟩
theorem c118 : Compiled Tryz.prog (118, a118) := ⟨Tryz.f118, n118, Tryz.func118, by kernel_rfl⟩
theorem c119 : Compiled Tryz.prog (119, a119) := ⟨Tryz.f119, n119, Tryz.func119, by kernel_rfl⟩
theorem c120 : Compiled Tryz.prog (120, a120) := ⟨Tryz.f120, n120, Tryz.func120, by kernel_rfl⟩
theorem c121 : Compiled Tryz.prog (121, a121) := ⟨Tryz.f121, n121, Tryz.func121, by kernel_rfl⟩
theorem c122 : Compiled Tryz.prog (122, a122) := ⟨Tryz.f122, n122, Tryz.func122, by kernel_rfl⟩
theorem c123 : Compiled Tryz.prog (123, a123) := ⟨Tryz.f123, n123, Tryz.func123, by kernel_rfl⟩
theorem c124 : Compiled Tryz.prog (124, a124) := ⟨Tryz.f124, n124, Tryz.func124, by kernel_rfl⟩
theorem c125 : Compiled Tryz.prog (125, a125) := ⟨Tryz.f125, n125, Tryz.func125, by kernel_rfl⟩
theorem c137 : Compiled Tryz.prog (137, a137) := ⟨Tryz.f137, n137, Tryz.func137, by kernel_rfl⟩
theorem c138 : Compiled Tryz.prog (138, a138) := ⟨Tryz.f138, n138, Tryz.func138, by kernel_rfl⟩
theorem c139 : Compiled Tryz.prog (139, a139) := ⟨Tryz.f139, n139, Tryz.func139, by kernel_rfl⟩
theorem c140 : Compiled Tryz.prog (140, a140) := ⟨Tryz.f140, n140, Tryz.func140, by kernel_rfl⟩
theorem c141 : Compiled Tryz.prog (141, a141) := ⟨Tryz.f141, n141, Tryz.func141, by kernel_rfl⟩
theorem c142 : Compiled Tryz.prog (142, a142) := ⟨Tryz.f142, n142, Tryz.func142, by kernel_rfl⟩
theorem c143 : Compiled Tryz.prog (143, a143) := ⟨Tryz.f143, n143, Tryz.func143, by kernel_rfl⟩
theorem c144 : Compiled Tryz.prog (144, a144) := ⟨Tryz.f144, n144, Tryz.func144, by kernel_rfl⟩
theorem c145 : Compiled Tryz.prog (145, a145) := ⟨Tryz.f145, n145, Tryz.func145, by kernel_rfl⟩
theorem c146 : Compiled Tryz.prog (146, a146) := ⟨Tryz.f146, n146, Tryz.func146, by kernel_rfl⟩
theorem c147 : Compiled Tryz.prog (147, a147) := ⟨Tryz.f147, n147, Tryz.func147, by kernel_rfl⟩
theorem c148 : Compiled Tryz.prog (148, a148) := ⟨Tryz.f148, n148, Tryz.func148, by kernel_rfl⟩
theorem c149 : Compiled Tryz.prog (149, a149) := ⟨Tryz.f149, n149, Tryz.func149, by kernel_rfl⟩
theorem c150 : Compiled Tryz.prog (150, a150) := ⟨Tryz.f150, n150, Tryz.func150, by kernel_rfl⟩
theorem c154 : Compiled Tryz.prog (154, a154) := ⟨Tryz.f154, n154, Tryz.func154, by kernel_rfl⟩
theorem c163 : Compiled Tryz.prog (163, a163) := ⟨Tryz.f163, n163, Tryz.func163, by kernel_rfl⟩
theorem c164 : Compiled Tryz.prog (164, a164) := ⟨Tryz.f164, n164, Tryz.func164, by kernel_rfl⟩
theorem c165 : Compiled Tryz.prog (165, a165) := ⟨Tryz.f165, n165, Tryz.func165, by kernel_rfl⟩
def fns : List (FuncId × AFn) := [(3, a3), (5, a5), (6, a6), (7, a7), (8, a8), (9, a9), (10, a10), (11, a11), (12, a12), (13, a13), (14, a14), (15, a15), (16, a16), (17, a17), (18, a18), (19, a19), (21, a21), (28, a28), (31, a31), (32, a32), (33, a33), (34, a34), (35, a35), (36, a36), (37, a37), (38, a38), (39, a39), (40, a40), (41, a41), (42, a42), (43, a43), (44, a44), (45, a45), (46, a46), (55, a55), (59, a59), (63, a63), (64, a64), (65, a65), (66, a66), (67, a67), (68, a68), (69, a69), (70, a70), (71, a71), (72, a72), (73, a73), (74, a74), (75, a75), (80, a80), (81, a81), (82, a82), (88, a88), (89, a89), (90, a90), (91, a91), (92, a92), (93, a93), (94, a94), (95, a95), (96, a96), (97, a97), (98, a98), (108, a108), (109, a109), (110, a110), (111, a111), (112, a112), (113, a113), (114, a114), (115, a115), (116, a116), (118, a118), (119, a119), (120, a120), (121, a121), (122, a122), (123, a123), (124, a124), (125, a125), (137, a137), (138, a138), (139, a139), (140, a140), (141, a141), (142, a142), (143, a143), (144, a144), (145, a145), (146, a146), (147, a147), (148, a148), (149, a149), (150, a150), (154, a154), (163, a163), (164, a164), (165, a165)]
def fns0 : List (FuncId × AFn) := [(115, a115), (118, a118), (119, a119), (120, a120), (121, a121), (144, a144), (164, a164)]
abbrev T0 : Tab := Tab.of fns0
theorem tabOk0 : TabOk Tryz.prog T0 := by
  refine Tab.of_ok fun x hx => ?_
  simp only [fns0, List.mem_cons, List.not_mem_nil, or_false] at hx
  rcases hx with rfl | rfl | rfl | rfl | rfl | rfl | rfl
  · exact c115
  · exact c118
  · exact c119
  · exact c120
  · exact c121
  · exact c144
  · exact c164
theorem u115 : T0.fns 115 = some (.code a115) := Tab.of_code rfl
theorem u118 : T0.fns 118 = some (.code a118) := Tab.of_code rfl
theorem u119 : T0.fns 119 = some (.code a119) := Tab.of_code rfl
theorem u120 : T0.fns 120 = some (.code a120) := Tab.of_code rfl
theorem u121 : T0.fns 121 = some (.code a121) := Tab.of_code rfl
theorem u144 : T0.fns 144 = some (.code a144) := Tab.of_code rfl
theorem u164 : T0.fns 164 = some (.code a164) := Tab.of_code rfl
theorem mixed : Tryz.prog.follows .mixedOrders = true := by kernel_rfl
noncomputable def sortP : List V → Nat → Stk → Option (V × Stk) := sortFPK T0 5
theorem sortP_ok : PrimOk Tryz.prog (117, sortP) := sortFK_ok mixed sortL Tryz.isAgg159 Tryz.sizeOf159 tabOk0
theorem c117 : Compiled Tryz.prog (117, a117) := ⟨Tryz.f117, n117, Tryz.func117, by kernel_rfl⟩
abbrev TE : Tab := Tab.of [(117, a117), (142, a142), (143, a143), (163, a163), (154, a154)]
theorem v117 : TE.fns 117 = some (.code a117) := Tab.of_code rfl
theorem v142 : TE.fns 142 = some (.code a142) := Tab.of_code rfl
theorem v143 : TE.fns 143 = some (.code a143) := Tab.of_code rfl
theorem v163 : TE.fns 163 = some (.code a163) := Tab.of_code rfl
theorem v154 : TE.fns 154 = some (.code a154) := Tab.of_code rfl
noncomputable def sortQ (args : List V) (lab : Nat) (s : Stk) : Option (V × Stk) := match args with
  | [.asl d l z 0 0 0, f] => den TE 117 [.asl d l z 0 0 0, f] lab s
  | args => sortP args lab s
theorem sortQ_ok : PrimOk Tryz.prog (117, sortQ) := by
  intro args lab s v s' h
  dsimp only at h
  unfold sortQ at h
  split at h
  · refine den_sound mixed (Tab.of_ok fun x hx => ?_) h
    simp only [List.mem_cons, List.not_mem_nil, or_false] at hx
    rcases hx with rfl | rfl | rfl | rfl | rfl
    · exact c117
    · exact c142
    · exact c143
    · exact c163
    · exact c154
  · exact sortP_ok _ _ _ _ _ h
noncomputable def prims : List (FuncId × (List V → Nat → Stk → Option (V × Stk))) := [(117, sortQ)]
noncomputable abbrev T : Tab := Tab.ofP fns prims
theorem tabOk : TabOk Tryz.prog T := by
  refine Tab.ofP_ok (fun x hx => ?_) (fun x hx => by simp only [prims, List.mem_cons, List.not_mem_nil, or_false] at hx; subst hx; exact sortQ_ok)
  simp only [fns, List.mem_cons, List.not_mem_nil, or_false] at hx
  rcases hx with rfl | rfl | rfl | rfl | rfl | rfl | rfl | rfl | rfl | rfl | rfl | rfl | rfl | rfl | rfl | rfl | rfl | rfl | rfl | rfl | rfl | rfl | rfl | rfl | rfl | rfl | rfl | rfl | rfl | rfl | rfl | rfl | rfl | rfl | rfl | rfl | rfl | rfl | rfl | rfl | rfl | rfl | rfl | rfl | rfl | rfl | rfl | rfl | rfl | rfl | rfl | rfl | rfl | rfl | rfl | rfl | rfl | rfl | rfl | rfl | rfl | rfl | rfl | rfl | rfl | rfl | rfl | rfl | rfl | rfl | rfl | rfl | rfl | rfl | rfl | rfl | rfl | rfl | rfl | rfl | rfl | rfl | rfl | rfl | rfl | rfl | rfl | rfl | rfl | rfl | rfl | rfl | rfl | rfl | rfl | rfl | rfl | rfl
  · exact c3
  · exact c5
  · exact c6
  · exact c7
  · exact c8
  · exact c9
  · exact c10
  · exact c11
  · exact c12
  · exact c13
  · exact c14
  · exact c15
  · exact c16
  · exact c17
  · exact c18
  · exact c19
  · exact c21
  · exact c28
  · exact c31
  · exact c32
  · exact c33
  · exact c34
  · exact c35
  · exact c36
  · exact c37
  · exact c38
  · exact c39
  · exact c40
  · exact c41
  · exact c42
  · exact c43
  · exact c44
  · exact c45
  · exact c46
  · exact c55
  · exact c59
  · exact c63
  · exact c64
  · exact c65
  · exact c66
  · exact c67
  · exact c68
  · exact c69
  · exact c70
  · exact c71
  · exact c72
  · exact c73
  · exact c74
  · exact c75
  · exact c80
  · exact c81
  · exact c82
  · exact c88
  · exact c89
  · exact c90
  · exact c91
  · exact c92
  · exact c93
  · exact c94
  · exact c95
  · exact c96
  · exact c97
  · exact c98
  · exact c108
  · exact c109
  · exact c110
  · exact c111
  · exact c112
  · exact c113
  · exact c114
  · exact c115
  · exact c116
  · exact c118
  · exact c119
  · exact c120
  · exact c121
  · exact c122
  · exact c123
  · exact c124
  · exact c125
  · exact c137
  · exact c138
  · exact c139
  · exact c140
  · exact c141
  · exact c142
  · exact c143
  · exact c144
  · exact c145
  · exact c146
  · exact c147
  · exact c148
  · exact c149
  · exact c150
  · exact c154
  · exact c163
  · exact c164
  · exact c165
theorem t3 : T.fns 3 = some (.code a3) := Tab.ofP_code rfl
theorem t5 : T.fns 5 = some (.code a5) := Tab.ofP_code rfl
theorem t6 : T.fns 6 = some (.code a6) := Tab.ofP_code rfl
theorem t7 : T.fns 7 = some (.code a7) := Tab.ofP_code rfl
theorem t8 : T.fns 8 = some (.code a8) := Tab.ofP_code rfl
theorem t9 : T.fns 9 = some (.code a9) := Tab.ofP_code rfl
theorem t10 : T.fns 10 = some (.code a10) := Tab.ofP_code rfl
theorem t11 : T.fns 11 = some (.code a11) := Tab.ofP_code rfl
theorem t12 : T.fns 12 = some (.code a12) := Tab.ofP_code rfl
theorem t13 : T.fns 13 = some (.code a13) := Tab.ofP_code rfl
theorem t14 : T.fns 14 = some (.code a14) := Tab.ofP_code rfl
theorem t15 : T.fns 15 = some (.code a15) := Tab.ofP_code rfl
theorem t16 : T.fns 16 = some (.code a16) := Tab.ofP_code rfl
theorem t17 : T.fns 17 = some (.code a17) := Tab.ofP_code rfl
theorem t18 : T.fns 18 = some (.code a18) := Tab.ofP_code rfl
theorem t19 : T.fns 19 = some (.code a19) := Tab.ofP_code rfl
theorem t21 : T.fns 21 = some (.code a21) := Tab.ofP_code rfl
theorem t28 : T.fns 28 = some (.code a28) := Tab.ofP_code rfl
theorem t31 : T.fns 31 = some (.code a31) := Tab.ofP_code rfl
theorem t32 : T.fns 32 = some (.code a32) := Tab.ofP_code rfl
theorem t33 : T.fns 33 = some (.code a33) := Tab.ofP_code rfl
theorem t34 : T.fns 34 = some (.code a34) := Tab.ofP_code rfl
theorem t35 : T.fns 35 = some (.code a35) := Tab.ofP_code rfl
theorem t36 : T.fns 36 = some (.code a36) := Tab.ofP_code rfl
theorem t37 : T.fns 37 = some (.code a37) := Tab.ofP_code rfl
theorem t38 : T.fns 38 = some (.code a38) := Tab.ofP_code rfl
theorem t39 : T.fns 39 = some (.code a39) := Tab.ofP_code rfl
theorem t40 : T.fns 40 = some (.code a40) := Tab.ofP_code rfl
theorem t41 : T.fns 41 = some (.code a41) := Tab.ofP_code rfl
theorem t42 : T.fns 42 = some (.code a42) := Tab.ofP_code rfl
theorem t43 : T.fns 43 = some (.code a43) := Tab.ofP_code rfl
theorem t44 : T.fns 44 = some (.code a44) := Tab.ofP_code rfl
theorem t45 : T.fns 45 = some (.code a45) := Tab.ofP_code rfl
theorem t46 : T.fns 46 = some (.code a46) := Tab.ofP_code rfl
theorem t55 : T.fns 55 = some (.code a55) := Tab.ofP_code rfl
theorem t59 : T.fns 59 = some (.code a59) := Tab.ofP_code rfl
theorem t63 : T.fns 63 = some (.code a63) := Tab.ofP_code rfl
theorem t64 : T.fns 64 = some (.code a64) := Tab.ofP_code rfl
theorem t65 : T.fns 65 = some (.code a65) := Tab.ofP_code rfl
theorem t66 : T.fns 66 = some (.code a66) := Tab.ofP_code rfl
theorem t67 : T.fns 67 = some (.code a67) := Tab.ofP_code rfl
theorem t68 : T.fns 68 = some (.code a68) := Tab.ofP_code rfl
theorem t69 : T.fns 69 = some (.code a69) := Tab.ofP_code rfl
theorem t70 : T.fns 70 = some (.code a70) := Tab.ofP_code rfl
theorem t71 : T.fns 71 = some (.code a71) := Tab.ofP_code rfl
theorem t72 : T.fns 72 = some (.code a72) := Tab.ofP_code rfl
theorem t73 : T.fns 73 = some (.code a73) := Tab.ofP_code rfl
theorem t74 : T.fns 74 = some (.code a74) := Tab.ofP_code rfl
theorem t75 : T.fns 75 = some (.code a75) := Tab.ofP_code rfl
theorem t80 : T.fns 80 = some (.code a80) := Tab.ofP_code rfl
theorem t81 : T.fns 81 = some (.code a81) := Tab.ofP_code rfl
theorem t82 : T.fns 82 = some (.code a82) := Tab.ofP_code rfl
theorem t88 : T.fns 88 = some (.code a88) := Tab.ofP_code rfl
theorem t89 : T.fns 89 = some (.code a89) := Tab.ofP_code rfl
theorem t90 : T.fns 90 = some (.code a90) := Tab.ofP_code rfl
theorem t91 : T.fns 91 = some (.code a91) := Tab.ofP_code rfl
theorem t92 : T.fns 92 = some (.code a92) := Tab.ofP_code rfl
theorem t93 : T.fns 93 = some (.code a93) := Tab.ofP_code rfl
theorem t94 : T.fns 94 = some (.code a94) := Tab.ofP_code rfl
theorem t95 : T.fns 95 = some (.code a95) := Tab.ofP_code rfl
theorem t96 : T.fns 96 = some (.code a96) := Tab.ofP_code rfl
theorem t97 : T.fns 97 = some (.code a97) := Tab.ofP_code rfl
theorem t98 : T.fns 98 = some (.code a98) := Tab.ofP_code rfl
theorem t108 : T.fns 108 = some (.code a108) := Tab.ofP_code rfl
theorem t109 : T.fns 109 = some (.code a109) := Tab.ofP_code rfl
theorem t110 : T.fns 110 = some (.code a110) := Tab.ofP_code rfl
theorem t111 : T.fns 111 = some (.code a111) := Tab.ofP_code rfl
theorem t112 : T.fns 112 = some (.code a112) := Tab.ofP_code rfl
theorem t113 : T.fns 113 = some (.code a113) := Tab.ofP_code rfl
theorem t114 : T.fns 114 = some (.code a114) := Tab.ofP_code rfl
theorem t115 : T.fns 115 = some (.code a115) := Tab.ofP_code rfl
theorem t116 : T.fns 116 = some (.code a116) := Tab.ofP_code rfl
theorem t118 : T.fns 118 = some (.code a118) := Tab.ofP_code rfl
theorem t119 : T.fns 119 = some (.code a119) := Tab.ofP_code rfl
theorem t120 : T.fns 120 = some (.code a120) := Tab.ofP_code rfl
theorem t121 : T.fns 121 = some (.code a121) := Tab.ofP_code rfl
theorem t122 : T.fns 122 = some (.code a122) := Tab.ofP_code rfl
theorem t123 : T.fns 123 = some (.code a123) := Tab.ofP_code rfl
theorem t124 : T.fns 124 = some (.code a124) := Tab.ofP_code rfl
theorem t125 : T.fns 125 = some (.code a125) := Tab.ofP_code rfl
theorem t137 : T.fns 137 = some (.code a137) := Tab.ofP_code rfl
theorem t138 : T.fns 138 = some (.code a138) := Tab.ofP_code rfl
theorem t139 : T.fns 139 = some (.code a139) := Tab.ofP_code rfl
theorem t140 : T.fns 140 = some (.code a140) := Tab.ofP_code rfl
theorem t141 : T.fns 141 = some (.code a141) := Tab.ofP_code rfl
theorem t142 : T.fns 142 = some (.code a142) := Tab.ofP_code rfl
theorem t143 : T.fns 143 = some (.code a143) := Tab.ofP_code rfl
theorem t144 : T.fns 144 = some (.code a144) := Tab.ofP_code rfl
theorem t145 : T.fns 145 = some (.code a145) := Tab.ofP_code rfl
theorem t146 : T.fns 146 = some (.code a146) := Tab.ofP_code rfl
theorem t147 : T.fns 147 = some (.code a147) := Tab.ofP_code rfl
theorem t148 : T.fns 148 = some (.code a148) := Tab.ofP_code rfl
theorem t149 : T.fns 149 = some (.code a149) := Tab.ofP_code rfl
theorem t150 : T.fns 150 = some (.code a150) := Tab.ofP_code rfl
theorem t154 : T.fns 154 = some (.code a154) := Tab.ofP_code rfl
theorem t163 : T.fns 163 = some (.code a163) := Tab.ofP_code rfl
theorem t164 : T.fns 164 = some (.code a164) := Tab.ofP_code rfl
theorem t165 : T.fns 165 = some (.code a165) := Tab.ofP_code rfl
theorem t117 : T.fns 117 = some (.prim sortQ) := Tab.ofP_prim rfl rfl
end Go.Proofs.YtoedpegjoccnlaaGreat
