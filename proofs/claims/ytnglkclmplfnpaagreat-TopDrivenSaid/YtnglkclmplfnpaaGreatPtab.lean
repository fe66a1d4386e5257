/-
  MADE BY PROGRAM (mkt.py): the functions compile to that code; the table.
-/
import Derived.Test.YtnglkclmplfnpaaGreatPcode1
import Derived.Test.YtnglkclmplfnpaaGreatChecked
import Derived.Test.YtnglkclmplfnpaaGreatAb8
set_option linter.unusedSimpArgs false
set_option linter.unusedVariables false
namespace Go.Proofs.YtnglkclmplfnpaaGreat
open Go.Ab
set_option maxRecDepth 100000
def sortL_ren : Go.Shelf.Ren := ⟨fun | 6 => 52 | 15 => 74 | 14 => 73 | 28 => 92 | 29 => 93 | 20 => 84 | 21 => 85 | 22 => 86 | 23 => 87 | 24 => 88 | 25 => 89 | 26 => 90 | 27 => 91 | 46 => 107 | 47 => 108 | 48 => 109 | 49 => 110 | 50 => 111 | 57 => 115 | n => n, fun | 22 => 31 | 24 => 3 | 25 => 93 | 3 => 3 | 39 => 125 | 0 => 0 | 53 => 143 | 55 => 145 | 4 => 4 | 46 => 137 | 45 => 136 | 50 => 77 | 5 => 5 | 9 => 9 | 66 => 153 | 70 => 157 | 76 => 161 | 77 => 162 | n => n, fun n => n⟩
open Go.Shelf Go.Proofs in
theorem sortL : SlLaysF.n6 Tryz.prog sortL_ren := {
  mixed := by kernel_rfl,
  f6 := ⟨Tryz.f52.name, by kernel_rfl, Tryz.func52.trans (congrArg some (by kernel_rfl))⟩,
  f14 := ⟨Tryz.f73.name, by kernel_rfl, Tryz.func73.trans (congrArg some (by kernel_rfl))⟩,
  f15 := Tryz.func74.trans (congrArg some (by kernel_rfl)),
  f20 := ⟨Tryz.f84.name, by kernel_rfl, Tryz.func84.trans (congrArg some (by kernel_rfl))⟩,
  f21 := ⟨Tryz.f85.name, by kernel_rfl, Tryz.func85.trans (congrArg some (by kernel_rfl))⟩,
  f22 := ⟨Tryz.f86.name, by kernel_rfl, Tryz.func86.trans (congrArg some (by kernel_rfl))⟩,
  f23 := ⟨Tryz.f87.name, by kernel_rfl, Tryz.func87.trans (congrArg some (by kernel_rfl))⟩,
  f24 := ⟨Tryz.f88.name, by kernel_rfl, Tryz.func88.trans (congrArg some (by kernel_rfl))⟩,
  f25 := ⟨Tryz.f89.name, by kernel_rfl, Tryz.func89.trans (congrArg some (by kernel_rfl))⟩,
  f26 := ⟨Tryz.f90.name, by kernel_rfl, Tryz.func90.trans (congrArg some (by kernel_rfl))⟩,
  f27 := ⟨Tryz.f91.name, by kernel_rfl, Tryz.func91.trans (congrArg some (by kernel_rfl))⟩,
  f28 := Tryz.func92.trans (congrArg some (by kernel_rfl)),
  f29 := Tryz.func93.trans (congrArg some (by kernel_rfl)),
  f46 := ⟨Tryz.f107.name, by kernel_rfl, Tryz.func107.trans (congrArg some (by kernel_rfl))⟩,
  f47 := Tryz.func108.trans (congrArg some (by kernel_rfl)),
  f48 := Tryz.func109.trans (congrArg some (by kernel_rfl)),
  f49 := ⟨Tryz.f110.name, by kernel_rfl, Tryz.func110.trans (congrArg some (by kernel_rfl))⟩,
  f50 := ⟨Tryz.f111.name, by kernel_rfl, Tryz.func111.trans (congrArg some (by kernel_rfl))⟩,
  f57 := ⟨Tryz.f115.name, by kernel_rfl, Tryz.func115.trans (congrArg some (by kernel_rfl))⟩,
  t0 := Tryz.underlying0,
  a0 := Tryz.isAgg0,
  z0 := Tryz.sizeOf0,
  v0 := Tryz.zeroValue0,
  t3 := Tryz.underlying3,
  a3 := Tryz.isAgg3,
  z3 := Tryz.sizeOf3,
  v3 := Tryz.zeroValue3,
  t4 := Tryz.underlying4,
  a4 := Tryz.isAgg4,
  z4 := Tryz.sizeOf4,
  v4 := Tryz.zeroValue4,
  t5 := Tryz.underlying5,
  a5 := Tryz.isAgg5,
  z5 := Tryz.sizeOf5,
  v5 := Tryz.zeroValue5,
  t9 := Tryz.underlying9,
  a9 := Tryz.isAgg9,
  z9 := Tryz.sizeOf9,
  v9 := Tryz.zeroValue9,
  t22 := Tryz.underlying31,
  a22 := Tryz.isAgg31,
  z22 := Tryz.sizeOf31,
  v22 := Tryz.zeroValue31,
  a24 := Tryz.isAgg3,
  z24 := Tryz.sizeOf3,
  t25 := Tryz.underlying93,
  a25 := Tryz.isAgg93,
  z25 := Tryz.sizeOf93,
  v25 := Tryz.zeroValue93,
  t39 := Tryz.underlying125,
  a39 := Tryz.isAgg125,
  z39 := Tryz.sizeOf125,
  v39 := Tryz.zeroValue125,
  t45 := Tryz.underlying136,
  a45 := Tryz.isAgg136,
  z45 := Tryz.sizeOf136,
  v45 := Tryz.zeroValue136,
  t46 := Tryz.underlying137,
  a46 := Tryz.isAgg137,
  z46 := Tryz.sizeOf137,
  v46 := Tryz.zeroValue137,
  t50 := Tryz.underlying77,
  a50 := Tryz.isAgg77,
  z50 := Tryz.sizeOf77,
  v50 := Tryz.zeroValue77,
  t53 := Tryz.underlying143,
  a53 := Tryz.isAgg143,
  z53 := Tryz.sizeOf143,
  v53 := Tryz.zeroValue143,
  t55 := Tryz.underlying145,
  a55 := Tryz.isAgg145,
  z55 := Tryz.sizeOf145,
  v55 := Tryz.zeroValue145,
  t66 := Tryz.underlying153,
  a66 := Tryz.isAgg153,
  z66 := Tryz.sizeOf153,
  v66 := Tryz.zeroValue153,
  t70 := Tryz.underlying157,
  a70 := Tryz.isAgg157,
  z70 := Tryz.sizeOf157,
  v70 := Tryz.zeroValue157,
  t76 := Tryz.underlying161,
  a76 := Tryz.isAgg161,
  z76 := Tryz.sizeOf161,
  v76 := Tryz.zeroValue161,
  t77 := Tryz.underlying162,
  a77 := Tryz.isAgg162,
  z77 := Tryz.sizeOf162,
  v77 := Tryz.zeroValue162 }
def sortL2_ren : Go.Shelf.Ren := ⟨fun | 189 => 58 | 125 => 74 | 257 => 76 | 128 => 92 | 129 => 93 | 294 => 95 | 295 => 96 | 296 => 97 | 297 => 98 | 298 => 99 | 299 => 100 | 216 => 101 | 300 => 102 | 301 => 103 | 328 => 112 | 329 => 108 | 330 => 109 | 331 => 113 | 332 => 114 | 215 => 94 | 343 => 116 | n => n, fun | 28 => 31 | 3 => 3 | 46 => 125 | 0 => 0 | 51 => 143 | 53 => 145 | 4 => 4 | 183 => 137 | 182 => 136 | 131 => 77 | 5 => 5 | 9 => 9 | 218 => 153 | 222 => 157 | 228 => 161 | 229 => 162 | n => n, fun n => n⟩
open Go.Shelf Go.Proofs in
theorem sortL2 : Lays.n189 Tryz.prog sortL2_ren := {
  mixed := by kernel_rfl,
  f125 := Tryz.func74.trans (congrArg some (by kernel_rfl)),
  f128 := Tryz.func92.trans (congrArg some (by kernel_rfl)),
  f129 := Tryz.func93.trans (congrArg some (by kernel_rfl)),
  f189 := Tryz.func58.trans (congrArg some (by kernel_rfl)),
  f215 := Tryz.func94.trans (congrArg some (by kernel_rfl)),
  f216 := Tryz.func101.trans (congrArg some (by kernel_rfl)),
  f257 := Tryz.func76.trans (congrArg some (by kernel_rfl)),
  f294 := Tryz.func95.trans (congrArg some (by kernel_rfl)),
  f295 := Tryz.func96.trans (congrArg some (by kernel_rfl)),
  f296 := Tryz.func97.trans (congrArg some (by kernel_rfl)),
  f297 := Tryz.func98.trans (congrArg some (by kernel_rfl)),
  f298 := Tryz.func99.trans (congrArg some (by kernel_rfl)),
  f299 := Tryz.func100.trans (congrArg some (by kernel_rfl)),
  f300 := Tryz.func102.trans (congrArg some (by kernel_rfl)),
  f301 := Tryz.func103.trans (congrArg some (by kernel_rfl)),
  f328 := Tryz.func112.trans (congrArg some (by kernel_rfl)),
  f329 := Tryz.func108.trans (congrArg some (by kernel_rfl)),
  f330 := Tryz.func109.trans (congrArg some (by kernel_rfl)),
  f331 := Tryz.func113.trans (congrArg some (by kernel_rfl)),
  f332 := Tryz.func114.trans (congrArg some (by kernel_rfl)),
  f343 := Tryz.func116.trans (congrArg some (by kernel_rfl)),
  t0 := Tryz.underlying0,
  a0 := Tryz.isAgg0,
  z0 := Tryz.sizeOf0,
  v0 := Tryz.zeroValue0,
  t3 := Tryz.underlying3,
  a3 := Tryz.isAgg3,
  z3 := Tryz.sizeOf3,
  v3 := Tryz.zeroValue3,
  t4 := Tryz.underlying4,
  a4 := Tryz.isAgg4,
  z4 := Tryz.sizeOf4,
  v4 := Tryz.zeroValue4,
  t5 := Tryz.underlying5,
  a5 := Tryz.isAgg5,
  z5 := Tryz.sizeOf5,
  v5 := Tryz.zeroValue5,
  t9 := Tryz.underlying9,
  a9 := Tryz.isAgg9,
  z9 := Tryz.sizeOf9,
  v9 := Tryz.zeroValue9,
  t28 := Tryz.underlying31,
  a28 := Tryz.isAgg31,
  z28 := Tryz.sizeOf31,
  v28 := Tryz.zeroValue31,
  t46 := Tryz.underlying125,
  a46 := Tryz.isAgg125,
  z46 := Tryz.sizeOf125,
  v46 := Tryz.zeroValue125,
  t51 := Tryz.underlying143,
  a51 := Tryz.isAgg143,
  z51 := Tryz.sizeOf143,
  v51 := Tryz.zeroValue143,
  t53 := Tryz.underlying145,
  a53 := Tryz.isAgg145,
  z53 := Tryz.sizeOf145,
  v53 := Tryz.zeroValue145,
  t131 := Tryz.underlying77,
  a131 := Tryz.isAgg77,
  z131 := Tryz.sizeOf77,
  v131 := Tryz.zeroValue77,
  t182 := Tryz.underlying136,
  a182 := Tryz.isAgg136,
  z182 := Tryz.sizeOf136,
  v182 := Tryz.zeroValue136,
  t183 := Tryz.underlying137,
  a183 := Tryz.isAgg137,
  z183 := Tryz.sizeOf137,
  v183 := Tryz.zeroValue137,
  t218 := Tryz.underlying153,
  a218 := Tryz.isAgg153,
  z218 := Tryz.sizeOf153,
  v218 := Tryz.zeroValue153,
  t222 := Tryz.underlying157,
  a222 := Tryz.isAgg157,
  z222 := Tryz.sizeOf157,
  v222 := Tryz.zeroValue157,
  t228 := Tryz.underlying161,
  a228 := Tryz.isAgg161,
  z228 := Tryz.sizeOf161,
  v228 := Tryz.zeroValue161,
  t229 := Tryz.underlying162,
  a229 := Tryz.isAgg162,
  z229 := Tryz.sizeOf162,
  v229 := Tryz.zeroValue162 }
theorem c36 : Compiled Tryz.prog (36, a36) := ⟨Tryz.f36, n36, Tryz.func36, by kernel_rfl⟩
theorem c36e : Compiled Tryz.prog (36, a36e) := ⟨Tryz.f36, n36e, Tryz.func36, by kernel_rfl⟩
theorem c37 : Compiled Tryz.prog (37, a37) := ⟨Tryz.f37, n37, Tryz.func37, by kernel_rfl⟩
theorem c37e : Compiled Tryz.prog (37, a37e) := ⟨Tryz.f37, n37e, Tryz.func37, by kernel_rfl⟩
theorem c3 : Compiled Tryz.prog (3, a3) := ⟨Tryz.f3, n3, Tryz.func3, by kernel_rfl⟩
theorem c4 : Compiled Tryz.prog (4, a4) := ⟨Tryz.f4, n4, Tryz.func4, by kernel_rfl⟩
theorem c5 : Compiled Tryz.prog (5, a5) := ⟨Tryz.f5, n5, Tryz.func5, by kernel_rfl⟩
theorem c6 : Compiled Tryz.prog (6, a6) := ⟨Tryz.f6, n6, Tryz.func6, by kernel_rfl⟩
theorem c7 : Compiled Tryz.prog (7, a7) := ⟨Tryz.f7, n7, Tryz.func7, by kernel_rfl⟩
theorem c8 : Compiled Tryz.prog (8, a8) := ⟨Tryz.f8, n8, Tryz.func8, by kernel_rfl⟩
theorem c9 : Compiled Tryz.prog (9, a9) := ⟨Tryz.f9, n9, Tryz.func9, by kernel_rfl⟩
theorem c10 : Compiled Tryz.prog (10, a10) := ⟨Tryz.f10, n10, Tryz.func10, by kernel_rfl⟩
theorem c11 : Compiled Tryz.prog (11, a11) := ⟨Tryz.f11, n11, Tryz.func11, by kernel_rfl⟩
theorem c12 : Compiled Tryz.prog (12, a12) := ⟨Tryz.f12, n12, Tryz.func12, by kernel_rfl⟩
theorem c13 : Compiled Tryz.prog (13, a13) := ⟨Tryz.f13, n13, Tryz.func13, by kernel_rfl⟩
theorem c14 : Compiled Tryz.prog (14, a14) := ⟨Tryz.f14, n14, Tryz.func14, by kernel_rfl⟩
theorem c15 : Compiled Tryz.prog (15, a15) := ⟨Tryz.f15, n15, Tryz.func15, by kernel_rfl⟩
theorem c16 : Compiled Tryz.prog (16, a16) := ⟨Tryz.f16, n16, Tryz.func16, by kernel_rfl⟩
theorem c17 : Compiled Tryz.prog (17, a17) := ⟨Tryz.f17, n17, Tryz.func17, by kernel_rfl⟩
theorem c18 : Compiled Tryz.prog (18, a18) := ⟨Tryz.f18, n18, Tryz.func18, by kernel_rfl⟩
theorem c19 : Compiled Tryz.prog (19, a19) := ⟨Tryz.f19, n19, Tryz.func19, by kernel_rfl⟩
theorem c20 : Compiled Tryz.prog (20, a20) := ⟨Tryz.f20, n20, Tryz.func20, by kernel_rfl⟩
theorem c21 : Compiled Tryz.prog (21, a21) := ⟨Tryz.f21, n21, Tryz.func21, by kernel_rfl⟩
theorem c22 : Compiled Tryz.prog (22, a22) := ⟨Tryz.f22, n22, Tryz.func22, by kernel_rfl⟩
theorem c23 : Compiled Tryz.prog (23, a23) := ⟨Tryz.f23, n23, Tryz.func23, by kernel_rfl⟩
theorem c24 : Compiled Tryz.prog (24, a24) := ⟨Tryz.f24, n24, Tryz.func24, by kernel_rfl⟩
theorem c25 : Compiled Tryz.prog (25, a25) := ⟨Tryz.f25, n25, Tryz.func25, by kernel_rfl⟩
theorem c26 : Compiled Tryz.prog (26, a26) := ⟨Tryz.f26, n26, Tryz.func26, by kernel_rfl⟩
theorem c27 : Compiled Tryz.prog (27, a27) := ⟨Tryz.f27, n27, Tryz.func27, by kernel_rfl⟩
theorem c28 : Compiled Tryz.prog (28, a28) := ⟨Tryz.f28, n28, Tryz.func28, by kernel_rfl⟩
theorem c29 : Compiled Tryz.prog (29, a29) := ⟨Tryz.f29, n29, Tryz.func29, by kernel_rfl⟩
theorem c30 : Compiled Tryz.prog (30, a30) := ⟨Tryz.f30, n30, Tryz.func30, by kernel_rfl⟩
theorem c31 : Compiled Tryz.prog (31, a31) := ⟨Tryz.f31, n31, Tryz.func31, by kernel_rfl⟩
theorem c32 : Compiled Tryz.prog (32, a32) := ⟨Tryz.f32, n32, Tryz.func32, by kernel_rfl⟩
theorem c33 : Compiled Tryz.prog (33, a33) := ⟨Tryz.f33, n33, Tryz.func33, by kernel_rfl⟩
theorem c34 : Compiled Tryz.prog (34, a34) := ⟨Tryz.f34, n34, Tryz.func34, by kernel_rfl⟩
theorem c35 : Compiled Tryz.prog (35, a35) := ⟨Tryz.f35, n35, Tryz.func35, by kernel_rfl⟩
theorem c38 : Compiled Tryz.prog (38, a38) := ⟨Tryz.f38, n38, Tryz.func38, by kernel_rfl⟩
theorem c39 : Compiled Tryz.prog (39, a39) := ⟨Tryz.f39, n39, Tryz.func39, by kernel_rfl⟩
theorem c40 : Compiled Tryz.prog (40, a40) := ⟨Tryz.f40, n40, Tryz.func40, by kernel_rfl⟩
theorem c41 : Compiled Tryz.prog (41, a41) := ⟨Tryz.f41, n41, Tryz.func41, by kernel_rfl⟩
theorem c42 : Compiled Tryz.prog (42, a42) := ⟨Tryz.f42, n42, Tryz.func42, by kernel_rfl⟩
theorem c43 : Compiled Tryz.prog (43, a43) := ⟨Tryz.f43, n43, Tryz.func43, by kernel_rfl⟩
theorem c44 : Compiled Tryz.prog (44, a44) := ⟨Tryz.f44, n44, Tryz.func44, by kernel_rfl⟩
theorem c45 : Compiled Tryz.prog (45, a45) := ⟨Tryz.f45, n45, Tryz.func45, by kernel_rfl⟩
theorem c46 : Compiled Tryz.prog (46, a46) := ⟨Tryz.f46, n46, Tryz.func46, by kernel_rfl⟩
theorem c47 : Compiled Tryz.prog (47, a47) := ⟨Tryz.f47, n47, Tryz.func47, by kernel_rfl⟩
theorem c48 : Compiled Tryz.prog (48, a48) := ⟨Tryz.f48, n48, Tryz.func48, by kernel_rfl⟩
theorem c49 : Compiled Tryz.prog (49, a49) := ⟨Tryz.f49, n49, Tryz.func49, by kernel_rfl⟩
theorem c50 : Compiled Tryz.prog (50, a50) := ⟨Tryz.f50, n50, Tryz.func50, by kernel_rfl⟩
theorem c51 : Compiled Tryz.prog (51, a51) := ⟨Tryz.f51, n51, Tryz.func51, by kernel_rfl⟩
theorem c53 : Compiled Tryz.prog (53, a53) := ⟨Tryz.f53, n53, Tryz.func53, by kernel_rfl⟩
theorem c54 : Compiled Tryz.prog (54, a54) := ⟨Tryz.f54, n54, Tryz.func54, by kernel_rfl⟩
theorem c55 : Compiled Tryz.prog (55, a55) := ⟨Tryz.f55, n55, Tryz.func55, by kernel_rfl⟩
theorem c56 : Compiled Tryz.prog (56, a56) := ⟨Tryz.f56, n56, Tryz.func56, by kernel_rfl⟩
theorem c57 : Compiled Tryz.prog (57, a57) := ⟨Tryz.f57, n57, Tryz.func57, by kernel_rfl⟩
theorem c59 : Compiled Tryz.prog (59, a59) := ⟨Tryz.f59, n59, Tryz.func59, by kernel_rfl⟩
theorem c60 : Compiled Tryz.prog (60, a60) := ⟨Tryz.f60, n60, Tryz.func60, by kernel_rfl⟩
theorem c61 : Compiled Tryz.prog (61, a61) := ⟨Tryz.f61, n61, Tryz.func61, by kernel_rfl⟩
theorem c62 : Compiled Tryz.prog (62, a62) := ⟨Tryz.f62, n62, Tryz.func62, by kernel_rfl⟩
theorem c63 : Compiled Tryz.prog (63, a63) := ⟨Tryz.f63, n63, Tryz.func63, by kernel_rfl⟩
theorem c64 : Compiled Tryz.prog (64, a64) := ⟨Tryz.f64, n64, Tryz.func64, by kernel_rfl⟩
theorem c65 : Compiled Tryz.prog (65, a65) := ⟨Tryz.f65, n65, Tryz.func65, by kernel_rfl⟩
theorem c66 : Compiled Tryz.prog (66, a66) := ⟨Tryz.f66, n66, Tryz.func66, by kernel_rfl⟩
theorem c67 : Compiled Tryz.prog (67, a67) := ⟨Tryz.f67, n67, Tryz.func67, by kernel_rfl⟩
theorem c68 : Compiled Tryz.prog (68, a68) := ⟨Tryz.f68, n68, Tryz.func68, by kernel_rfl⟩
theorem c69 : Compiled Tryz.prog (69, a69) := ⟨Tryz.f69, n69, Tryz.func69, by kernel_rfl⟩
theorem c70 : Compiled Tryz.prog (70, a70) := ⟨Tryz.f70, n70, Tryz.func70, by kernel_rfl⟩
theorem c71 : Compiled Tryz.prog (71, a71) := ⟨Tryz.f71, n71, Tryz.func71, by kernel_rfl⟩
theorem c72 : Compiled Tryz.prog (72, a72) := ⟨Tryz.f72, n72, Tryz.func72, by kernel_rfl⟩
theorem c75 : Compiled Tryz.prog (75, a75) := ⟨Tryz.f75, n75, Tryz.func75, by kernel_rfl⟩
theorem c77 : Compiled Tryz.prog (77, a77) := ⟨Tryz.f77, n77, Tryz.func77, by kernel_rfl⟩
theorem c78 : Compiled Tryz.prog (78, a78) := ⟨Tryz.f78, n78, Tryz.func78, by kernel_rfl⟩
theorem c79 : Compiled Tryz.prog (79, a79) := ⟨Tryz.f79, n79, Tryz.func79, by kernel_rfl⟩
theorem c80 : Compiled Tryz.prog (80, a80) := ⟨Tryz.f80, n80, Tryz.func80, by kernel_rfl⟩
theorem c81 : Compiled Tryz.prog (81, a81) := ⟨Tryz.f81, n81, Tryz.func81, by kernel_rfl⟩
theorem c82 : Compiled Tryz.prog (82, a82) := ⟨Tryz.f82, n82, Tryz.func82, by kernel_rfl⟩
theorem c83 : Compiled Tryz.prog (83, a83) := ⟨Tryz.f83, n83, Tryz.func83, by kernel_rfl⟩
theorem c94 : Compiled Tryz.prog (94, a94) := ⟨Tryz.f94, n94, Tryz.func94, by kernel_rfl⟩
theorem c104 : Compiled Tryz.prog (104, a104) := ⟨Tryz.f104, n104, Tryz.func104, by kernel_rfl⟩
theorem c105 : Compiled Tryz.prog (105, a105) := ⟨Tryz.f105, n105, Tryz.func105, by kernel_rfl⟩
theorem c106 : Compiled Tryz.prog (106, a106) := ⟨Tryz.f106, n106, Tryz.func106, by kernel_rfl⟩
def fns : List (FuncId × AFn) := [(3, a3), (4, a4), (5, a5), (6, a6), (7, a7), (8, a8), (9, a9), (10, a10), (11, a11), (12, a12), (13, a13), (14, a14), (15, a15), (16, a16), (17, a17), (18, a18), (19, a19), (20, a20), (21, a21), (22, a22), (23, a23), (24, a24), (25, a25), (26, a26), (27, a27), (28, a28), (29, a29), (30, a30), (31, a31), (32, a32), (33, a33), (34, a34), (35, a35), (38, a38), (39, a39), (40, a40), (41, a41), (42, a42), (43, a43), (44, a44), (45, a45), (46, a46), (47, a47), (48, a48), (49, a49), (50, a50), (51, a51), (53, a53), (54, a54), (55, a55), (56, a56), (57, a57), (59, a59), (60, a60), (61, a61), (62, a62), (63, a63), (64, a64), (65, a65), (66, a66), (67, a67), (68, a68), (69, a69), (70, a70), (71, a71), (72, a72), (75, a75), (77, a77), (78, a78), (79, a79), (80, a80), (81, a81), (82, a82), (83, a83), (94, a94), (104, a104), (105, a105), (106, a106)]
def fns0 : List (FuncId × AFn) := [(51, a51), (53, a53), (54, a54), (55, a55), (75, a75), (94, a94)]
abbrev T0 : Tab := Tab.of fns0
theorem tabOk0 : TabOk Tryz.prog T0 := by
  refine Tab.of_ok fun x hx => ?_
  simp only [fns0, List.mem_cons, List.not_mem_nil, or_false] at hx
  rcases hx with rfl | rfl | rfl | rfl | rfl | rfl
  · exact c51
  · exact c53
  · exact c54
  · exact c55
  · exact c75
  · exact c94
theorem u51 : T0.fns 51 = some (.code a51) := Tab.of_code rfl
theorem u53 : T0.fns 53 = some (.code a53) := Tab.of_code rfl
theorem u54 : T0.fns 54 = some (.code a54) := Tab.of_code rfl
theorem u55 : T0.fns 55 = some (.code a55) := Tab.of_code rfl
theorem u75 : T0.fns 75 = some (.code a75) := Tab.of_code rfl
theorem u94 : T0.fns 94 = some (.code a94) := Tab.of_code rfl
theorem mixed : Tryz.prog.follows .mixedOrders = true := by kernel_rfl
noncomputable def sortP : List V → Nat → Stk → Option (V × Stk) := sortFP T0 false
theorem sortP_ok : PrimOk Tryz.prog (52, sortP) := sortF1_ok mixed sortL tabOk0
abbrev T36 : Tab := Tab.of [(36, a36)]
abbrev T36e : Tab := Tab.of [(36, a36e)]
theorem w36 : T36.fns 36 = some (.code a36) := Tab.of_code rfl
theorem w36e : T36e.fns 36 = some (.code a36e) := Tab.of_code rfl
noncomputable def cloneP36 (args : List V) (lab : Nat) (s : Stk) : Option (V × Stk) := match args with
  | [.sl c z []] => den T36e 36 [.sl c z []] lab s
  | args => den T36 36 args lab s
theorem cloneP36_ok : PrimOk Tryz.prog (36, cloneP36) := by
  intro args lab s v s' h
  dsimp only at h
  unfold cloneP36 at h
  split at h
  · exact den_sound mixed (Tab.of_ok fun x hx => by simp only [List.mem_singleton] at hx; subst hx; exact c36e) h
  · exact den_sound mixed (Tab.of_ok fun x hx => by simp only [List.mem_singleton] at hx; subst hx; exact c36) h
abbrev T37 : Tab := Tab.of [(37, a37)]
abbrev T37e : Tab := Tab.of [(37, a37e)]
theorem w37 : T37.fns 37 = some (.code a37) := Tab.of_code rfl
theorem w37e : T37e.fns 37 = some (.code a37e) := Tab.of_code rfl
noncomputable def cloneP37 (args : List V) (lab : Nat) (s : Stk) : Option (V × Stk) := match args with
  | [.sl c z []] => den T37e 37 [.sl c z []] lab s
  | args => den T37 37 args lab s
theorem cloneP37_ok : PrimOk Tryz.prog (37, cloneP37) := by
  intro args lab s v s' h
  dsimp only at h
  unfold cloneP37 at h
  split at h
  · exact den_sound mixed (Tab.of_ok fun x hx => by simp only [List.mem_singleton] at hx; subst hx; exact c37e) h
  · exact den_sound mixed (Tab.of_ok fun x hx => by simp only [List.mem_singleton] at hx; subst hx; exact c37) h
noncomputable def prims : List (FuncId × (List V → Nat → Stk → Option (V × Stk))) := [(52, sortP), (58, Go.Ab.sortP), (36, cloneP36), (37, cloneP37)]
noncomputable abbrev T : Tab := Tab.ofP fns prims
theorem tabOk : TabOk Tryz.prog T := by
  refine Tab.ofP_ok (fun x hx => ?_) (fun x hx => by simp only [prims, List.mem_cons, List.not_mem_nil, or_false] at hx; rcases hx with rfl | rfl | rfl | rfl; exact sortP_ok; exact Go.Ab.sortP_ok sortL2; exact cloneP36_ok; exact cloneP37_ok)
  simp only [fns, List.mem_cons, List.not_mem_nil, or_false] at hx
  rcases hx with rfl | rfl | rfl | rfl | rfl | rfl | rfl | rfl | rfl | rfl | rfl | rfl | rfl | rfl | rfl | rfl | rfl | rfl | rfl | rfl | rfl | rfl | rfl | rfl | rfl | rfl | rfl | rfl | rfl | rfl | rfl | rfl | rfl | rfl | rfl | rfl | rfl | rfl | rfl | rfl | rfl | rfl | rfl | rfl | rfl | rfl | rfl | rfl | rfl | rfl | rfl | rfl | rfl | rfl | rfl | rfl | rfl | rfl | rfl | rfl | rfl | rfl | rfl | rfl | rfl | rfl | rfl | rfl | rfl | rfl | rfl | rfl | rfl | rfl | rfl | rfl | rfl | rfl
  · exact c3
  · exact c4
  · exact c5
  · exact c6
  · exact c7
  · exact c8
  · exact c9
  · exact c10
  · exact c11
  · exact c12
  · exact c13
  · exact c14
  · exact c15
  · exact c16
  · exact c17
  · exact c18
  · exact c19
  · exact c20
  · exact c21
  · exact c22
  · exact c23
  · exact c24
  · exact c25
  · exact c26
  · exact c27
  · exact c28
  · exact c29
  · exact c30
  · exact c31
  · exact c32
  · exact c33
  · exact c34
  · exact c35
  · exact c38
  · exact c39
  · exact c40
  · exact c41
  · exact c42
  · exact c43
  · exact c44
  · exact c45
  · exact c46
  · exact c47
  · exact c48
  · exact c49
  · exact c50
  · exact c51
  · exact c53
  · exact c54
  · exact c55
  · exact c56
  · exact c57
  · exact c59
  · exact c60
  · exact c61
  · exact c62
  · exact c63
  · exact c64
  · exact c65
  · exact c66
  · exact c67
  · exact c68
  · exact c69
  · exact c70
  · exact c71
  · exact c72
  · exact c75
  · exact c77
  · exact c78
  · exact c79
  · exact c80
  · exact c81
  · exact c82
  · exact c83
  · exact c94
  · exact c104
  · exact c105
  · exact c106
theorem t3 : T.fns 3 = some (.code a3) := Tab.ofP_code rfl
theorem t4 : T.fns 4 = some (.code a4) := Tab.ofP_code rfl
theorem t5 : T.fns 5 = some (.code a5) := Tab.ofP_code rfl
theorem t6 : T.fns 6 = some (.code a6) := Tab.ofP_code rfl
theorem t7 : T.fns 7 = some (.code a7) := Tab.ofP_code rfl
theorem t8 : T.fns 8 = some (.code a8) := Tab.ofP_code rfl
theorem t9 : T.fns 9 = some (.code a9) := Tab.ofP_code rfl
theorem t10 : T.fns 10 = some (.code a10) := Tab.ofP_code rfl
theorem t11 : T.fns 11 = some (.code a11) := Tab.ofP_code rfl
theorem t12 : T.fns 12 = some (.code a12) := Tab.ofP_code rfl
theorem t13 : T.fns 13 = some (.code a13) := Tab.ofP_code rfl
theorem t14 : T.fns 14 = some (.code a14) := Tab.ofP_code rfl
theorem t15 : T.fns 15 = some (.code a15) := Tab.ofP_code rfl
theorem t16 : T.fns 16 = some (.code a16) := Tab.ofP_code rfl
theorem t17 : T.fns 17 = some (.code a17) := Tab.ofP_code rfl
theorem t18 : T.fns 18 = some (.code a18) := Tab.ofP_code rfl
theorem t19 : T.fns 19 = some (.code a19) := Tab.ofP_code rfl
theorem t20 : T.fns 20 = some (.code a20) := Tab.ofP_code rfl
theorem t21 : T.fns 21 = some (.code a21) := Tab.ofP_code rfl
theorem t22 : T.fns 22 = some (.code a22) := Tab.ofP_code rfl
theorem t23 : T.fns 23 = some (.code a23) := Tab.ofP_code rfl
theorem t24 : T.fns 24 = some (.code a24) := Tab.ofP_code rfl
theorem t25 : T.fns 25 = some (.code a25) := Tab.ofP_code rfl
theorem t26 : T.fns 26 = some (.code a26) := Tab.ofP_code rfl
theorem t27 : T.fns 27 = some (.code a27) := Tab.ofP_code rfl
theorem t28 : T.fns 28 = some (.code a28) := Tab.ofP_code rfl
theorem t29 : T.fns 29 = some (.code a29) := Tab.ofP_code rfl
theorem t30 : T.fns 30 = some (.code a30) := Tab.ofP_code rfl
theorem t31 : T.fns 31 = some (.code a31) := Tab.ofP_code rfl
theorem t32 : T.fns 32 = some (.code a32) := Tab.ofP_code rfl
theorem t33 : T.fns 33 = some (.code a33) := Tab.ofP_code rfl
theorem t34 : T.fns 34 = some (.code a34) := Tab.ofP_code rfl
theorem t35 : T.fns 35 = some (.code a35) := Tab.ofP_code rfl
theorem t38 : T.fns 38 = some (.code a38) := Tab.ofP_code rfl
theorem t39 : T.fns 39 = some (.code a39) := Tab.ofP_code rfl
theorem t40 : T.fns 40 = some (.code a40) := Tab.ofP_code rfl
theorem t41 : T.fns 41 = some (.code a41) := Tab.ofP_code rfl
theorem t42 : T.fns 42 = some (.code a42) := Tab.ofP_code rfl
theorem t43 : T.fns 43 = some (.code a43) := Tab.ofP_code rfl
theorem t44 : T.fns 44 = some (.code a44) := Tab.ofP_code rfl
theorem t45 : T.fns 45 = some (.code a45) := Tab.ofP_code rfl
theorem t46 : T.fns 46 = some (.code a46) := Tab.ofP_code rfl
theorem t47 : T.fns 47 = some (.code a47) := Tab.ofP_code rfl
theorem t48 : T.fns 48 = some (.code a48) := Tab.ofP_code rfl
theorem t49 : T.fns 49 = some (.code a49) := Tab.ofP_code rfl
theorem t50 : T.fns 50 = some (.code a50) := Tab.ofP_code rfl
theorem t51 : T.fns 51 = some (.code a51) := Tab.ofP_code rfl
theorem t53 : T.fns 53 = some (.code a53) := Tab.ofP_code rfl
theorem t54 : T.fns 54 = some (.code a54) := Tab.ofP_code rfl
theorem t55 : T.fns 55 = some (.code a55) := Tab.ofP_code rfl
theorem t56 : T.fns 56 = some (.code a56) := Tab.ofP_code rfl
theorem t57 : T.fns 57 = some (.code a57) := Tab.ofP_code rfl
theorem t59 : T.fns 59 = some (.code a59) := Tab.ofP_code rfl
theorem t60 : T.fns 60 = some (.code a60) := Tab.ofP_code rfl
theorem t61 : T.fns 61 = some (.code a61) := Tab.ofP_code rfl
theorem t62 : T.fns 62 = some (.code a62) := Tab.ofP_code rfl
theorem t63 : T.fns 63 = some (.code a63) := Tab.ofP_code rfl
theorem t64 : T.fns 64 = some (.code a64) := Tab.ofP_code rfl
theorem t65 : T.fns 65 = some (.code a65) := Tab.ofP_code rfl
theorem t66 : T.fns 66 = some (.code a66) := Tab.ofP_code rfl
theorem t67 : T.fns 67 = some (.code a67) := Tab.ofP_code rfl
theorem t68 : T.fns 68 = some (.code a68) := Tab.ofP_code rfl
theorem t69 : T.fns 69 = some (.code a69) := Tab.ofP_code rfl
theorem t70 : T.fns 70 = some (.code a70) := Tab.ofP_code rfl
theorem t71 : T.fns 71 = some (.code a71) := Tab.ofP_code rfl
theorem t72 : T.fns 72 = some (.code a72) := Tab.ofP_code rfl
theorem t75 : T.fns 75 = some (.code a75) := Tab.ofP_code rfl
theorem t77 : T.fns 77 = some (.code a77) := Tab.ofP_code rfl
theorem t78 : T.fns 78 = some (.code a78) := Tab.ofP_code rfl
theorem t79 : T.fns 79 = some (.code a79) := Tab.ofP_code rfl
theorem t80 : T.fns 80 = some (.code a80) := Tab.ofP_code rfl
theorem t81 : T.fns 81 = some (.code a81) := Tab.ofP_code rfl
theorem t82 : T.fns 82 = some (.code a82) := Tab.ofP_code rfl
theorem t83 : T.fns 83 = some (.code a83) := Tab.ofP_code rfl
theorem t94 : T.fns 94 = some (.code a94) := Tab.ofP_code rfl
theorem t104 : T.fns 104 = some (.code a104) := Tab.ofP_code rfl
theorem t105 : T.fns 105 = some (.code a105) := Tab.ofP_code rfl
theorem t106 : T.fns 106 = some (.code a106) := Tab.ofP_code rfl
theorem t52 : T.fns 52 = some (.prim sortP) := Tab.ofP_prim rfl rfl
theorem t58 : T.fns 58 = some (.prim Go.Ab.sortP) := Tab.ofP_prim rfl rfl
theorem t36 : T.fns 36 = some (.prim cloneP36) := Tab.ofP_prim rfl rfl
theorem t37 : T.fns 37 = some (.prim cloneP37) := Tab.ofP_prim rfl rfl
theorem clone36_e (c z lab s) : den T 36 [.sl c z []] lab s = den T36e 36 [.sl c z []] lab s := den_prim t36 _ _ _
theorem clone36_c (c z x l lab s) : den T 36 [.sl c z (x :: l)] lab s = den T36 36 [.sl c z (x :: l)] lab s := den_prim t36 _ _ _
theorem clone37_e (c z lab s) : den T 37 [.sl c z []] lab s = den T37e 37 [.sl c z []] lab s := den_prim t37 _ _ _
theorem clone37_c (c z x l lab s) : den T 37 [.sl c z (x :: l)] lab s = den T37 37 [.sl c z (x :: l)] lab s := den_prim t37 _ _ _
end Go.Proofs.YtnglkclmplfnpaaGreat
