/-
  MADE BY PROGRAM (mkt.py): the functions compile to that code; the table.
-/
import Derived.Test.YtekgicoibcgecaaGreatPcode1
import Derived.Test.YtekgicoibcgecaaGreatChecked
import Derived.Test.YtekgicoibcgecaaGreatAb7
set_option linter.unusedSimpArgs false
set_option linter.unusedVariables false
namespace Go.Proofs.YtekgicoibcgecaaGreat
open Go.Ab
set_option maxRecDepth 100000
def sortL_ren : Go.Shelf.Ren := ⟨fun | 189 => 83 | 125 => 120 | 257 => 119 | 128 => 145 | 129 => 146 | 294 => 136 | 295 => 137 | 296 => 138 | 297 => 139 | 298 => 140 | 299 => 141 | 216 => 142 | 300 => 143 | 301 => 144 | 328 => 157 | 329 => 158 | 330 => 159 | 331 => 160 | 332 => 161 | 215 => 162 | 343 => 168 | n => n, fun | 28 => 34 | 3 => 3 | 46 => 134 | 0 => 0 | 51 => 164 | 53 => 166 | 4 => 4 | 183 => 158 | 182 => 157 | 131 => 161 | 5 => 5 | 9 => 9 | 218 => 177 | 222 => 181 | 228 => 186 | 229 => 126 | n => n, fun n => n⟩
open Go.Shelf in
theorem sortL : Lays.n189 Tryz.prog sortL_ren := {
  mixed := by kernel_rfl,
  f125 := Tryz.func120.trans (congrArg some (by kernel_rfl)),
  f128 := Tryz.func145.trans (congrArg some (by kernel_rfl)),
  f129 := Tryz.func146.trans (congrArg some (by kernel_rfl)),
  f189 := Tryz.func83.trans (congrArg some (by kernel_rfl)),
  f215 := Tryz.func162.trans (congrArg some (by kernel_rfl)),
  f216 := Tryz.func142.trans (congrArg some (by kernel_rfl)),
  f257 := Tryz.func119.trans (congrArg some (by kernel_rfl)),
  f294 := Tryz.func136.trans (congrArg some (by kernel_rfl)),
  f295 := Tryz.func137.trans (congrArg some (by kernel_rfl)),
  f296 := Tryz.func138.trans (congrArg some (by kernel_rfl)),
  f297 := Tryz.func139.trans (congrArg some (by kernel_rfl)),
  f298 := Tryz.func140.trans (congrArg some (by kernel_rfl)),
  f299 := Tryz.func141.trans (congrArg some (by kernel_rfl)),
  f300 := Tryz.func143.trans (congrArg some (by kernel_rfl)),
  f301 := Tryz.func144.trans (congrArg some (by kernel_rfl)),
  f328 := Tryz.func157.trans (congrArg some (by kernel_rfl)),
  f329 := Tryz.func158.trans (congrArg some (by kernel_rfl)),
  f330 := Tryz.func159.trans (congrArg some (by kernel_rfl)),
  f331 := Tryz.func160.trans (congrArg some (by kernel_rfl)),
  f332 := Tryz.func161.trans (congrArg some (by kernel_rfl)),
  f343 := Tryz.func168.trans (congrArg some (by kernel_rfl)),
  t0 := Tryz.underlying0,
  a0 := Tryz.isAgg0,
  z0 := Tryz.sizeOf0,
  v0 := Tryz.zeroValue0,
  t3 := Tryz.underlying3,
  a3 := Tryz.isAgg3,
  z3 := Tryz.sizeOf3,
  v3 := Tryz.zeroValue3,
  t4 := Tryz.underlying4,
  a4 := Tryz.isAgg4,
  z4 := Tryz.sizeOf4,
  v4 := Tryz.zeroValue4,
  t5 := Tryz.underlying5,
  a5 := Tryz.isAgg5,
  z5 := Tryz.sizeOf5,
  v5 := Tryz.zeroValue5,
  t9 := Tryz.underlying9,
  a9 := Tryz.isAgg9,
  z9 := Tryz.sizeOf9,
  v9 := Tryz.zeroValue9,
  t28 := Tryz.underlying34,
  a28 := Tryz.isAgg34,
  z28 := Tryz.sizeOf34,
  v28 := Tryz.zeroValue34,
  t46 := Tryz.underlying134,
  a46 := Tryz.isAgg134,
  z46 := Tryz.sizeOf134,
  v46 := Tryz.zeroValue134,
  t51 := Tryz.underlying164,
  a51 := Tryz.isAgg164,
  z51 := Tryz.sizeOf164,
  v51 := Tryz.zeroValue164,
  t53 := Tryz.underlying166,
  a53 := Tryz.isAgg166,
  z53 := Tryz.sizeOf166,
  v53 := Tryz.zeroValue166,
  t131 := Tryz.underlying161,
  a131 := Tryz.isAgg161,
  z131 := Tryz.sizeOf161,
  v131 := Tryz.zeroValue161,
  t182 := Tryz.underlying157,
  a182 := Tryz.isAgg157,
  z182 := Tryz.sizeOf157,
  v182 := Tryz.zeroValue157,
  t183 := Tryz.underlying158,
  a183 := Tryz.isAgg158,
  z183 := Tryz.sizeOf158,
  v183 := Tryz.zeroValue158,
  t218 := Tryz.underlying177,
  a218 := Tryz.isAgg177,
  z218 := Tryz.sizeOf177,
  v218 := Tryz.zeroValue177,
  t222 := Tryz.underlying181,
  a222 := Tryz.isAgg181,
  z222 := Tryz.sizeOf181,
  v222 := Tryz.zeroValue181,
  t228 := Tryz.underlying186,
  a228 := Tryz.isAgg186,
  z228 := Tryz.sizeOf186,
  v228 := Tryz.zeroValue186,
  t229 := Tryz.underlying126,
  a229 := Tryz.isAgg126,
  z229 := Tryz.sizeOf126,
  v229 := Tryz.zeroValue126 }
theorem c7 : Compiled Tryz.prog (7, a7) := ⟨Tryz.f7, n7, Tryz.func7, by kernel_rfl⟩
theorem c8 : Compiled Tryz.prog (8, a8) := ⟨Tryz.f8, n8, Tryz.func8, by kernel_rfl⟩
theorem c9 : Compiled Tryz.prog (9, a9) := ⟨Tryz.f9, n9, Tryz.func9, by kernel_rfl⟩
theorem c11 : Compiled Tryz.prog (11, a11) := ⟨Tryz.f11, n11, Tryz.func11, by kernel_rfl⟩
theorem c12 : Compiled Tryz.prog (12, a12) := ⟨Tryz.f12, n12, Tryz.func12, by kernel_rfl⟩
theorem c13 : Compiled Tryz.prog (13, a13) := ⟨Tryz.f13, n13, Tryz.func13, by kernel_rfl⟩
theorem c15 : Compiled Tryz.prog (15, a15) := ⟨Tryz.f15, n15, Tryz.func15, by kernel_rfl⟩
theorem c17 : Compiled Tryz.prog (17, a17) := ⟨Tryz.f17, n17, Tryz.func17, by kernel_rfl⟩
theorem c20 : Compiled Tryz.prog (20, a20) := ⟨Tryz.f20, n20, Tryz.func20, by kernel_rfl⟩
theorem c22 : Compiled Tryz.prog (22, a22) := ⟨Tryz.f22, n22, Tryz.func22, by kernel_rfl⟩
theorem c25 : Compiled Tryz.prog (25, a25) := ⟨Tryz.f25, n25, Tryz.func25, by kernel_rfl⟩
theorem c27 : Compiled Tryz.prog (27, a27) := ⟨Tryz.f27, n27, Tryz.func27, by kernel_rfl⟩
theorem c31 : Compiled Tryz.prog (31, a31) := ⟨Tryz.f31, n31, Tryz.func31, by kernel_rfl⟩
theorem c33 : Compiled Tryz.prog (33, a33) := ⟨Tryz.f33, n33, Tryz.func33, by kernel_rfl⟩
theorem c35 : Compiled Tryz.prog (35, a35) := ⟨Tryz.f35, n35, Tryz.func35, by kernel_rfl⟩
theorem c39 : Compiled Tryz.prog (39, a39) := ⟨Tryz.f39, n39, Tryz.func39, by kernel_rfl⟩
theorem c40 : Compiled Tryz.prog (40, a40) := ⟨Tryz.f40, n40, Tryz.func40, by kernel_rfl⟩
theorem c41 : Compiled Tryz.prog (41, a41) := ⟨Tryz.f41, n41, Tryz.func41, by kernel_rfl⟩
theorem c42 : Compiled Tryz.prog (42, a42) := ⟨Tryz.f42, n42, Tryz.func42, by kernel_rfl⟩
theorem c43 : Compiled Tryz.prog (43, a43) := ⟨Tryz.f43, n43, Tryz.func43, by kernel_rfl⟩
theorem c44 : Compiled Tryz.prog (44, a44) := ⟨Tryz.f44, n44, Tryz.func44, by kernel_rfl⟩
theorem c45 : Compiled Tryz.prog (45, a45) := ⟨Tryz.f45, n45, Tryz.func45, by kernel_rfl⟩
theorem c46 : Compiled Tryz.prog (46, a46) := ⟨Tryz.f46, n46, Tryz.func46, by kernel_rfl⟩
theorem c47 : Compiled Tryz.prog (47, a47) := ⟨Tryz.f47, n47, Tryz.func47, by kernel_rfl⟩
theorem c48 : Compiled Tryz.prog (48, a48) := ⟨Tryz.f48, n48, Tryz.func48, by kernel_rfl⟩
theorem c49 : Compiled Tryz.prog (49, a49) := ⟨Tryz.f49, n49, Tryz.func49, by kernel_rfl⟩
theorem c50 : Compiled Tryz.prog (50, a50) := ⟨Tryz.f50, n50, Tryz.func50, by kernel_rfl⟩
theorem c51 : Compiled Tryz.prog (51, a51) := ⟨Tryz.f51, n51, Tryz.func51, by kernel_rfl⟩
theorem c52 : Compiled Tryz.prog (52, a52) := ⟨Tryz.f52, n52, Tryz.func52, by kernel_rfl⟩
theorem c53 : Compiled Tryz.prog (53, a53) := ⟨Tryz.f53, n53, Tryz.func53, by kernel_rfl⟩
theorem c54 : Compiled Tryz.prog (54, a54) := ⟨Tryz.f54, n54, Tryz.func54, by kernel_rfl⟩
theorem c55 : Compiled Tryz.prog (55, a55) := ⟨Tryz.f55, n55, Tryz.func55, by kernel_rfl⟩
theorem c56 : Compiled Tryz.prog (56, a56) := ⟨Tryz.f56, n56, Tryz.func56, by kernel_rfl⟩
theorem c57 : Compiled Tryz.prog (57, a57) := ⟨Tryz.f57, n57, Tryz.func57, by kernel_rfl⟩
theorem c58 : Compiled Tryz.prog (58, a58) := ⟨Tryz.f58, n58, Tryz.func58, by kernel_rfl⟩
theorem c59 : Compiled Tryz.prog (59, a59) := ⟨Tryz.f59, n59, Tryz.func59, by kernel_rfl⟩
theorem c60 : Compiled Tryz.prog (60, a60) := ⟨Tryz.f60, n60, Tryz.func60, by kernel_rfl⟩
theorem c61 : Compiled Tryz.prog (61, a61) := ⟨Tryz.f61, n61, Tryz.func61, by kernel_rfl⟩
theorem c62 : Compiled Tryz.prog (62, a62) := ⟨Tryz.f62, n62, Tryz.func62, by kernel_rfl⟩
theorem c63 : Compiled Tryz.prog (63, a63) := ⟨Tryz.f63, n63, Tryz.func63, by kernel_rfl⟩
theorem c67 : Compiled Tryz.prog (67, a67) := ⟨Tryz.f67, n67, Tryz.func67, by kernel_rfl⟩
theorem c70 : Compiled Tryz.prog (70, a70) := ⟨Tryz.f70, n70, Tryz.func70, by kernel_rfl⟩
theorem c74 : Compiled Tryz.prog (74, a74) := ⟨Tryz.f74, n74, Tryz.func74, by kernel_rfl⟩
theorem c75 : Compiled Tryz.prog (75, a75) := ⟨Tryz.f75, n75, Tryz.func75, by kernel_rfl⟩
theorem c77 : Compiled Tryz.prog (77, a77) := ⟨Tryz.f77, n77, Tryz.func77, by kernel_rfl⟩
theorem c82 : Compiled Tryz.prog (82, a82) := ⟨Tryz.f82, n82, Tryz.func82, by kernel_rfl⟩
theorem c84 : Compiled Tryz.prog (84, a84) := ⟨Tryz.f84, n84, Tryz.func84, by kernel_rfl⟩
theorem c86 : Compiled Tryz.prog (86, a86) := ⟨Tryz.f86, n86, Tryz.func86, by kernel_rfl⟩
theorem c88 : Compiled Tryz.prog (88, a88) := ⟨Tryz.f88, n88, Tryz.func88, by kernel_rfl⟩
theorem c89 : Compiled Tryz.prog (89, a89) := ⟨Tryz.f89, n89, Tryz.func89, by kernel_rfl⟩
theorem c91 : Compiled Tryz.prog (91, a91) := ⟨Tryz.f91, n91, Tryz.func91, by kernel_rfl⟩
theorem c92 : Compiled Tryz.prog (92, a92) := ⟨Tryz.f92, n92, Tryz.func92, by kernel_rfl⟩
theorem c93 : Compiled Tryz.prog (93, a93) := ⟨Tryz.f93, n93, Tryz.func93, by kernel_rfl⟩
theorem c94 : Compiled Tryz.prog (94, a94) := ⟨Tryz.f94, n94, Tryz.func94, by kernel_rfl⟩
theorem c95 : Compiled Tryz.prog (95, a95) := ⟨Tryz.f95, n95, Tryz.func95, by kernel_rfl⟩
theorem c96 : Compiled Tryz.prog (96, a96) := ⟨Tryz.f96, n96, Tryz.func96, by kernel_rfl⟩
theorem c97 : Compiled Tryz.prog (97, a97) := ⟨Tryz.f97, n97, Tryz.func97, by kernel_rfl⟩
theorem c98 : Compiled Tryz.prog (98, a98) := ⟨Tryz.f98, n98, Tryz.func98, by kernel_rfl⟩
theorem c99 : Compiled Tryz.prog (99, a99) := ⟨Tryz.f99, n99, Tryz.func99, by kernel_rfl⟩
theorem c100 : Compiled Tryz.prog (100, a100) := ⟨Tryz.f100, n100, Tryz.func100, by kernel_rfl⟩
theorem c101 : Compiled Tryz.prog (101, a101) := ⟨Tryz.f101, n101, Tryz.func101, by kernel_rfl⟩
theorem c102 : Compiled Tryz.prog (102, a102) := ⟨Tryz.f102, n102, Tryz.func102, by kernel_rfl⟩
theorem c103 : Compiled Tryz.prog (103, a103) := ⟨Tryz.f103, n103, Tryz.func103, by kernel_rfl⟩
theorem c104 : Compiled Tryz.prog (104, a104) := ⟨Tryz.f104, n104, Tryz.func104, by kernel_rfl⟩
theorem c105 : Compiled Tryz.prog (105, a105) := ⟨Tryz.f105, n105, Tryz.func105, by kernel_rfl⟩
theorem c106 : Compiled Tryz.prog (106, a106) := ⟨Tryz.f106, n106, Tryz.func106, by kernel_rfl⟩
theorem c107 : Compiled Tryz.prog (107, a107) := ⟨Tryz.f107, n107, Tryz.func107, by kernel_rfl⟩
theorem c108 : Compiled Tryz.prog (108, a108) := ⟨Tryz.f108, n108, Tryz.func108, by kernel_rfl⟩
theorem c109 : Compiled Tryz.prog (109, a109) := ⟨Tryz.f109, n109, Tryz.func109, by kernel_rfl⟩
theorem c110 : Compiled Tryz.prog (110, a110) := ⟨Tryz.f110, n110, Tryz.func110, by kernel_rfl⟩
theorem c115 : Compiled Tryz.prog (115, a115) := ⟨Tryz.f115, n115, Tryz.func115, by kernel_rfl⟩
theorem c116 : Compiled Tryz.prog (116, a116) := ⟨Tryz.f116, n116, Tryz.func116, by kernel_rfl⟩
theorem c121 : Compiled Tryz.prog (121, a121) := ⟨Tryz.f121, n121, Tryz.func121, by kernel_rfl⟩
theorem c122 : Compiled Tryz.prog (122, a122) := ⟨Tryz.f122, n122, Tryz.func122, by kernel_rfl⟩
theorem c123 : Compiled Tryz.prog (123, a123) := ⟨Tryz.f123, n123, Tryz.func123, by kernel_rfl⟩
theorem c124 : Compiled Tryz.prog (124, a124) := ⟨Tryz.f124, n124, Tryz.func124, by kernel_rfl⟩
theorem c125 : Compiled Tryz.prog (125, a125) := ⟨Tryz.f125, n125, Tryz.func125, by kernel_rfl⟩
theorem c126 : Compiled Tryz.prog (126, a126) := ⟨Tryz.f126, n126, Tryz.func126, by kernel_rfl⟩
theorem c127 : Compiled Tryz.prog (127, a127) := ⟨Tryz.f127, n127, Tryz.func127, by kernel_rfl⟩
theorem c128 : Compiled Tryz.prog (128, a128) := ⟨Tryz.f128, n128, Tryz.func128, by kernel_rfl⟩
theorem c135 : Compiled Tryz.prog (135, a135) := ⟨Tryz.f135, n135, Tryz.func135, by kernel_rfl⟩
theorem c147 : Compiled Tryz.prog (147, a147) := ⟨Tryz.f147, n147, Tryz.func147, by kernel_rfl⟩
theorem c148 : Compiled Tryz.prog (148, a148) := ⟨Tryz.f148, n148, Tryz.func148, by kernel_rfl⟩
theorem c149 : Compiled Tryz.prog (149, a149) := ⟨Tryz.f149, n149, Tryz.func149, by kernel_rfl⟩
theorem c150 : Compiled Tryz.prog (150, a150) := ⟨Tryz.f150, n150, Tryz.func150, by kernel_rfl⟩
theorem c151 : Compiled Tryz.prog (151, a151) := ⟨Tryz.f151, n151, Tryz.func151, by kernel_rfl⟩
theorem c152 : Compiled Tryz.prog (152, a152) := ⟨Tryz.f152, n152, Tryz.func152, by kernel_rfl⟩
theorem c163 : Compiled Tryz.prog (163, a163) := ⟨Tryz.f163, n163, Tryz.func163, by kernel_rfl⟩
theorem c164 : Compiled Tryz.prog (164, a164) := ⟨Tryz.f164, n164, Tryz.func164, by kernel_rfl⟩
theorem c165 : Compiled Tryz.prog (165, a165) := ⟨Tryz.f165, n165, Tryz.func165, by kernel_rfl⟩
theorem c169 : Compiled Tryz.prog (169, a169) := ⟨Tryz.f169, n169, Tryz.func169, by kernel_rfl⟩
theorem c170 : Compiled Tryz.prog (170, a170) := ⟨Tryz.f170, n170, Tryz.func170, by kernel_rfl⟩
def fns : List (FuncId × AFn) := [(7, a7), (8, a8), (9, a9), (11, a11), (12, a12), (13, a13), (15, a15), (17, a17), (20, a20), (22, a22), (25, a25), (27, a27), (31, a31), (33, a33), (35, a35), (39, a39), (40, a40), (41, a41), (42, a42), (43, a43), (44, a44), (45, a45), (46, a46), (47, a47), (48, a48), (49, a49), (50, a50), (51, a51), (52, a52), (53, a53), (54, a54), (55, a55), (56, a56), (57, a57), (58, a58), (59, a59), (60, a60), (61, a61), (62, a62), (63, a63), (67, a67), (70, a70), (74, a74), (75, a75), (77, a77), (82, a82), (84, a84), (86, a86), (88, a88), (89, a89), (91, a91), (92, a92), (93, a93), (94, a94), (95, a95), (96, a96), (97, a97), (98, a98), (99, a99), (100, a100), (101, a101), (102, a102), (103, a103), (104, a104), (105, a105), (106, a106), (107, a107), (108, a108), (109, a109), (110, a110), (115, a115), (116, a116), (121, a121), (122, a122), (123, a123), (124, a124), (125, a125), (126, a126), (127, a127), (128, a128), (135, a135), (147, a147), (148, a148), (149, a149), (150, a150), (151, a151), (152, a152), (163, a163), (164, a164), (165, a165), (169, a169), (170, a170)]
def prims : List (FuncId × (List V → Nat → Stk → Option (V × Stk))) := [(83, sortP)]
abbrev T : Tab := Tab.ofP fns prims
theorem tabOk : TabOk Tryz.prog T := by
  refine Tab.ofP_ok (fun x hx => ?_) (fun x hx => by simp only [prims, List.mem_singleton] at hx; subst hx; exact sortP_ok sortL)
  simp only [fns, List.mem_cons, List.not_mem_nil, or_false] at hx
  rcases hx with rfl | rfl | rfl | rfl | rfl | rfl | rfl | rfl | rfl | rfl | rfl | rfl | rfl | rfl | rfl | rfl | rfl | rfl | rfl | rfl | rfl | rfl | rfl | rfl | rfl | rfl | rfl | rfl | rfl | rfl | rfl | rfl | rfl | rfl | rfl | rfl | rfl | rfl | rfl | rfl | rfl | rfl | rfl | rfl | rfl | rfl | rfl | rfl | rfl | rfl | rfl | rfl | rfl | rfl | rfl | rfl | rfl | rfl | rfl | rfl | rfl | rfl | rfl | rfl | rfl | rfl | rfl | rfl | rfl | rfl | rfl | rfl | rfl | rfl | rfl | rfl | rfl | rfl | rfl | rfl | rfl | rfl | rfl | rfl | rfl | rfl | rfl | rfl | rfl | rfl | rfl | rfl
  · exact c7
  · exact c8
  · exact c9
  · exact c11
  · exact c12
  · exact c13
  · exact c15
  · exact c17
  · exact c20
  · exact c22
  · exact c25
  · exact c27
  · exact c31
  · exact c33
  · exact c35
  · exact c39
  · exact c40
  · exact c41
  · exact c42
  · exact c43
  · exact c44
  · exact c45
  · exact c46
  · exact c47
  · exact c48
  · exact c49
  · exact c50
  · exact c51
  · exact c52
  · exact c53
  · exact c54
  · exact c55
  · exact c56
  · exact c57
  · exact c58
  · exact c59
  · exact c60
  · exact c61
  · exact c62
  · exact c63
  · exact c67
  · exact c70
  · exact c74
  · exact c75
  · exact c77
  · exact c82
  · exact c84
  · exact c86
  · exact c88
  · exact c89
  · exact c91
  · exact c92
  · exact c93
  · exact c94
  · exact c95
  · exact c96
  · exact c97
  · exact c98
  · exact c99
  · exact c100
  · exact c101
  · exact c102
  · exact c103
  · exact c104
  · exact c105
  · exact c106
  · exact c107
  · exact c108
  · exact c109
  · exact c110
  · exact c115
  · exact c116
  · exact c121
  · exact c122
  · exact c123
  · exact c124
  · exact c125
  · exact c126
  · exact c127
  · exact c128
  · exact c135
  · exact c147
  · exact c148
  · exact c149
  · exact c150
  · exact c151
  · exact c152
  · exact c163
  · exact c164
  · exact c165
  · exact c169
  · exact c170
theorem t7 : T.fns 7 = some (.code a7) := Tab.ofP_code rfl
theorem t8 : T.fns 8 = some (.code a8) := Tab.ofP_code rfl
theorem t9 : T.fns 9 = some (.code a9) := Tab.ofP_code rfl
theorem t11 : T.fns 11 = some (.code a11) := Tab.ofP_code rfl
theorem t12 : T.fns 12 = some (.code a12) := Tab.ofP_code rfl
theorem t13 : T.fns 13 = some (.code a13) := Tab.ofP_code rfl
theorem t15 : T.fns 15 = some (.code a15) := Tab.ofP_code rfl
theorem t17 : T.fns 17 = some (.code a17) := Tab.ofP_code rfl
theorem t20 : T.fns 20 = some (.code a20) := Tab.ofP_code rfl
theorem t22 : T.fns 22 = some (.code a22) := Tab.ofP_code rfl
theorem t25 : T.fns 25 = some (.code a25) := Tab.ofP_code rfl
theorem t27 : T.fns 27 = some (.code a27) := Tab.ofP_code rfl
theorem t31 : T.fns 31 = some (.code a31) := Tab.ofP_code rfl
theorem t33 : T.fns 33 = some (.code a33) := Tab.ofP_code rfl
theorem t35 : T.fns 35 = some (.code a35) := Tab.ofP_code rfl
theorem t39 : T.fns 39 = some (.code a39) := Tab.ofP_code rfl
theorem t40 : T.fns 40 = some (.code a40) := Tab.ofP_code rfl
theorem t41 : T.fns 41 = some (.code a41) := Tab.ofP_code rfl
theorem t42 : T.fns 42 = some (.code a42) := Tab.ofP_code rfl
theorem t43 : T.fns 43 = some (.code a43) := Tab.ofP_code rfl
theorem t44 : T.fns 44 = some (.code a44) := Tab.ofP_code rfl
theorem t45 : T.fns 45 = some (.code a45) := Tab.ofP_code rfl
theorem t46 : T.fns 46 = some (.code a46) := Tab.ofP_code rfl
theorem t47 : T.fns 47 = some (.code a47) := Tab.ofP_code rfl
theorem t48 : T.fns 48 = some (.code a48) := Tab.ofP_code rfl
theorem t49 : T.fns 49 = some (.code a49) := Tab.ofP_code rfl
theorem t50 : T.fns 50 = some (.code a50) := Tab.ofP_code rfl
theorem t51 : T.fns 51 = some (.code a51) := Tab.ofP_code rfl
theorem t52 : T.fns 52 = some (.code a52) := Tab.ofP_code rfl
theorem t53 : T.fns 53 = some (.code a53) := Tab.ofP_code rfl
theorem t54 : T.fns 54 = some (.code a54) := Tab.ofP_code rfl
theorem t55 : T.fns 55 = some (.code a55) := Tab.ofP_code rfl
theorem t56 : T.fns 56 = some (.code a56) := Tab.ofP_code rfl
theorem t57 : T.fns 57 = some (.code a57) := Tab.ofP_code rfl
theorem t58 : T.fns 58 = some (.code a58) := Tab.ofP_code rfl
theorem t59 : T.fns 59 = some (.code a59) := Tab.ofP_code rfl
theorem t60 : T.fns 60 = some (.code a60) := Tab.ofP_code rfl
theorem t61 : T.fns 61 = some (.code a61) := Tab.ofP_code rfl
theorem t62 : T.fns 62 = some (.code a62) := Tab.ofP_code rfl
theorem t63 : T.fns 63 = some (.code a63) := Tab.ofP_code rfl
theorem t67 : T.fns 67 = some (.code a67) := Tab.ofP_code rfl
theorem t70 : T.fns 70 = some (.code a70) := Tab.ofP_code rfl
theorem t74 : T.fns 74 = some (.code a74) := Tab.ofP_code rfl
theorem t75 : T.fns 75 = some (.code a75) := Tab.ofP_code rfl
theorem t77 : T.fns 77 = some (.code a77) := Tab.ofP_code rfl
theorem t82 : T.fns 82 = some (.code a82) := Tab.ofP_code rfl
theorem t84 : T.fns 84 = some (.code a84) := Tab.ofP_code rfl
theorem t86 : T.fns 86 = some (.code a86) := Tab.ofP_code rfl
theorem t88 : T.fns 88 = some (.code a88) := Tab.ofP_code rfl
theorem t89 : T.fns 89 = some (.code a89) := Tab.ofP_code rfl
theorem t91 : T.fns 91 = some (.code a91) := Tab.ofP_code rfl
theorem t92 : T.fns 92 = some (.code a92) := Tab.ofP_code rfl
theorem t93 : T.fns 93 = some (.code a93) := Tab.ofP_code rfl
theorem t94 : T.fns 94 = some (.code a94) := Tab.ofP_code rfl
theorem t95 : T.fns 95 = some (.code a95) := Tab.ofP_code rfl
theorem t96 : T.fns 96 = some (.code a96) := Tab.ofP_code rfl
theorem t97 : T.fns 97 = some (.code a97) := Tab.ofP_code rfl
theorem t98 : T.fns 98 = some (.code a98) := Tab.ofP_code rfl
theorem t99 : T.fns 99 = some (.code a99) := Tab.ofP_code rfl
theorem t100 : T.fns 100 = some (.code a100) := Tab.ofP_code rfl
theorem t101 : T.fns 101 = some (.code a101) := Tab.ofP_code rfl
theorem t102 : T.fns 102 = some (.code a102) := Tab.ofP_code rfl
theorem t103 : T.fns 103 = some (.code a103) := Tab.ofP_code rfl
theorem t104 : T.fns 104 = some (.code a104) := Tab.ofP_code rfl
theorem t105 : T.fns 105 = some (.code a105) := Tab.ofP_code rfl
theorem t106 : T.fns 106 = some (.code a106) := Tab.ofP_code rfl
theorem t107 : T.fns 107 = some (.code a107) := Tab.ofP_code rfl
theorem t108 : T.fns 108 = some (.code a108) := Tab.ofP_code rfl
theorem t109 : T.fns 109 = some (.code a109) := Tab.ofP_code rfl
theorem t110 : T.fns 110 = some (.code a110) := Tab.ofP_code rfl
theorem t115 : T.fns 115 = some (.code a115) := Tab.ofP_code rfl
theorem t116 : T.fns 116 = some (.code a116) := Tab.ofP_code rfl
theorem t121 : T.fns 121 = some (.code a121) := Tab.ofP_code rfl
theorem t122 : T.fns 122 = some (.code a122) := Tab.ofP_code rfl
theorem t123 : T.fns 123 = some (.code a123) := Tab.ofP_code rfl
theorem t124 : T.fns 124 = some (.code a124) := Tab.ofP_code rfl
theorem t125 : T.fns 125 = some (.code a125) := Tab.ofP_code rfl
theorem t126 : T.fns 126 = some (.code a126) := Tab.ofP_code rfl
theorem t127 : T.fns 127 = some (.code a127) := Tab.ofP_code rfl
theorem t128 : T.fns 128 = some (.code a128) := Tab.ofP_code rfl
theorem t135 : T.fns 135 = some (.code a135) := Tab.ofP_code rfl
theorem t147 : T.fns 147 = some (.code a147) := Tab.ofP_code rfl
theorem t148 : T.fns 148 = some (.code a148) := Tab.ofP_code rfl
theorem t149 : T.fns 149 = some (.code a149) := Tab.ofP_code rfl
theorem t150 : T.fns 150 = some (.code a150) := Tab.ofP_code rfl
theorem t151 : T.fns 151 = some (.code a151) := Tab.ofP_code rfl
theorem t152 : T.fns 152 = some (.code a152) := Tab.ofP_code rfl
theorem t163 : T.fns 163 = some (.code a163) := Tab.ofP_code rfl
theorem t164 : T.fns 164 = some (.code a164) := Tab.ofP_code rfl
theorem t165 : T.fns 165 = some (.code a165) := Tab.ofP_code rfl
theorem t169 : T.fns 169 = some (.code a169) := Tab.ofP_code rfl
theorem t170 : T.fns 170 = some (.code a170) := Tab.ofP_code rfl
theorem t83 : T.fns 83 = some (.prim sortP) := Tab.ofP_prim rfl rfl
theorem mixed : Tryz.prog.follows .mixedOrders = true := by kernel_rfl
end Go.Proofs.YtekgicoibcgecaaGreat
