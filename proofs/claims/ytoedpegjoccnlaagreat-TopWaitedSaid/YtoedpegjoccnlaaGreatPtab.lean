/-
  MADE BY PROGRAM (mkt.py): the functions compile to that code; the table.
-/
import Derived.Test.YtoedpegjoccnlaaGreatPcode1
import Derived.Test.YtoedpegjoccnlaaGreatChecked
set_option linter.unusedSimpArgs false
set_option linter.unusedVariables false
namespace Go.Proofs.YtoedpegjoccnlaaGreat
open Go.Ab
set_option maxRecDepth 100000
theorem c4 : Compiled Tryz.prog (4, a4) := ⟨Tryz.f4, n4, Tryz.func4, by kernel_rfl⟩
theorem c7 : Compiled Tryz.prog (7, a7) := ⟨Tryz.f7, n7, Tryz.func7, by kernel_rfl⟩
theorem c8 : Compiled Tryz.prog (8, a8) := ⟨Tryz.f8, n8, Tryz.func8, by kernel_rfl⟩
theorem c9 : Compiled Tryz.prog (9, a9) := ⟨Tryz.f9, n9, Tryz.func9, by kernel_rfl⟩
theorem c11 : Compiled Tryz.prog (11, a11) := ⟨Tryz.f11, n11, Tryz.func11, by kernel_rfl⟩
theorem c18 : Compiled Tryz.prog (18, a18) := ⟨Tryz.f18, n18, Tryz.func18, by kernel_rfl⟩
theorem c20 : Compiled Tryz.prog (20, a20) := ⟨Tryz.f20, n20, Tryz.func20, by kernel_rfl⟩
theorem c21 : Compiled Tryz.prog (21, a21) := ⟨Tryz.f21, n21, Tryz.func21, by kernel_rfl⟩
theorem c22 : Compiled Tryz.prog (22, a22) := ⟨Tryz.f22, n22, Tryz.func22, by kernel_rfl⟩
theorem c23 : Compiled Tryz.prog (23, a23) := ⟨Tryz.f23, n23, Tryz.func23, by kernel_rfl⟩
theorem c24 : Compiled Tryz.prog (24, a24) := ⟨Tryz.f24, n24, Tryz.func24, by kernel_rfl⟩
theorem c25 : Compiled Tryz.prog (25, a25) := ⟨Tryz.f25, n25, Tryz.func25, by kernel_rfl⟩
theorem c26 : Compiled Tryz.prog (26, a26) := ⟨Tryz.f26, n26, Tryz.func26, by kernel_rfl⟩
theorem c27 : Compiled Tryz.prog (27, a27) := ⟨Tryz.f27, n27, Tryz.func27, by kernel_rfl⟩
theorem c28 : Compiled Tryz.prog (28, a28) := ⟨Tryz.f28, n28, Tryz.func28, by kernel_rfl⟩
theorem c29 : Compiled Tryz.prog (29, a29) := ⟨Tryz.f29, n29, Tryz.func29, by kernel_rfl⟩
theorem c30 : Compiled Tryz.prog (30, a30) := ⟨Tryz.f30, n30, Tryz.func30, by kernel_rfl⟩
theorem c33 : Compiled Tryz.prog (33, a33) := ⟨Tryz.f33, n33, Tryz.func33, by kernel_rfl⟩
theorem c34 : Compiled Tryz.prog (34, a34) := ⟨Tryz.f34, n34, Tryz.func34, by kernel_rfl⟩
theorem c35 : Compiled Tryz.prog (35, a35) := ⟨Tryz.f35, n35, Tryz.func35, by kernel_rfl⟩
theorem c36 : Compiled Tryz.prog (36, a36) := ⟨Tryz.f36, n36, Tryz.func36, by kernel_rfl⟩
theorem c37 : Compiled Tryz.prog (37, a37) := ⟨Tryz.f37, n37, Tryz.func37, by kernel_rfl⟩
theorem c38 : Compiled Tryz.prog (38, a38) := ⟨Tryz.f38, n38, Tryz.func38, by kernel_rfl⟩
theorem c40 : Compiled Tryz.prog (40, a40) := ⟨Tryz.f40, n40, Tryz.func40, by kernel_rfl⟩
theorem c42 : Compiled Tryz.prog (42, a42) := ⟨Tryz.f42, n42, Tryz.func42, by kernel_rfl⟩
theorem c45 : Compiled Tryz.prog (45, a45) := ⟨Tryz.f45, n45, Tryz.func45, by kernel_rfl⟩
theorem c46 : Compiled Tryz.prog (46, a46) := ⟨Tryz.f46, n46, Tryz.func46, by kernel_rfl⟩
theorem c47 : Compiled Tryz.prog (47, a47) := ⟨Tryz.f47, n47, Tryz.func47, by kernel_rfl⟩
theorem c48 : Compiled Tryz.prog (48, a48) := ⟨Tryz.f48, n48, Tryz.func48, by kernel_rfl⟩
theorem c49 : Compiled Tryz.prog (49, a49) := ⟨Tryz.f49, n49, Tryz.func49, by kernel_rfl⟩
theorem c50 : Compiled Tryz.prog (50, a50) := ⟨Tryz.f50, n50, Tryz.func50, by kernel_rfl⟩
theorem c51 : Compiled Tryz.prog (51, a51) := ⟨Tryz.f51, n51, Tryz.func51, by kernel_rfl⟩
theorem c52 : Compiled Tryz.prog (52, a52) := ⟨Tryz.f52, n52, Tryz.func52, by kernel_rfl⟩
theorem c53 : Compiled Tryz.prog (53, a53) := ⟨Tryz.f53, n53, Tryz.func53, by kernel_rfl⟩
theorem c54 : Compiled Tryz.prog (54, a54) := ⟨Tryz.f54, n54, Tryz.func54, by kernel_rfl⟩
theorem c55 : Compiled Tryz.prog (55, a55) := ⟨Tryz.f55, n55, Tryz.func55, by kernel_rfl⟩
theorem c56 : Compiled Tryz.prog (56, a56) := ⟨Tryz.f56, n56, Tryz.func56, by kernel_rfl⟩
theorem c57 : Compiled Tryz.prog (57, a57) := ⟨Tryz.f57, n57, Tryz.func57, by kernel_rfl⟩
theorem c58 : Compiled Tryz.prog (58, a58) := ⟨Tryz.f58, n58, Tryz.func58, by kernel_rfl⟩
theorem c59 : Compiled Tryz.prog (59, a59) := ⟨Tryz.f59, n59, Tryz.func59, by kernel_rfl⟩
theorem c60 : Compiled Tryz.prog (60, a60) := ⟨Tryz.f60, n60, Tryz.func60, by kernel_rfl⟩
theorem c61 : Compiled Tryz.prog (61, a61) := ⟨Tryz.f61, n61, Tryz.func61, by kernel_rfl⟩
theorem c62 : Compiled Tryz.prog (62, a62) := ⟨Tryz.f62, n62, Tryz.func62, by kernel_rfl⟩
theorem c63 : Compiled Tryz.prog (63, a63) := ⟨Tryz.f63, n63, Tryz.func63, by kernel_rfl⟩
theorem c65 : Compiled Tryz.prog (65, a65) := ⟨Tryz.f65, n65, Tryz.func65, by kernel_rfl⟩
theorem c66 : Compiled Tryz.prog (66, a66) := ⟨Tryz.f66, n66, Tryz.func66, by kernel_rfl⟩
theorem c74 : Compiled Tryz.prog (74, a74) := ⟨Tryz.f74, n74, Tryz.func74, by kernel_rfl⟩
theorem c75 : Compiled Tryz.prog (75, a75) := ⟨Tryz.f75, n75, Tryz.func75, by kernel_rfl⟩
theorem c76 : Compiled Tryz.prog (76, a76) := ⟨Tryz.f76, n76, Tryz.func76, by kernel_rfl⟩
theorem c77 : Compiled Tryz.prog (77, a77) := ⟨Tryz.f77, n77, Tryz.func77, by kernel_rfl⟩
theorem c78 : Compiled Tryz.prog (78, a78) := ⟨Tryz.f78, n78, Tryz.func78, by kernel_rfl⟩
theorem c79 : Compiled Tryz.prog (79, a79) := ⟨Tryz.f79, n79, Tryz.func79, by kernel_rfl⟩
theorem c80 : Compiled Tryz.prog (80, a80) := ⟨Tryz.f80, n80, Tryz.func80, by kernel_rfl⟩
theorem c81 : Compiled Tryz.prog (81, a81) := ⟨Tryz.f81, n81, Tryz.func81, by kernel_rfl⟩
theorem c82 : Compiled Tryz.prog (82, a82) := ⟨Tryz.f82, n82, Tryz.func82, by kernel_rfl⟩
theorem c83 : Compiled Tryz.prog (83, a83) := ⟨Tryz.f83, n83, Tryz.func83, by kernel_rfl⟩
theorem c84 : Compiled Tryz.prog (84, a84) := ⟨Tryz.f84, n84, Tryz.func84, by kernel_rfl⟩
theorem c85 : Compiled Tryz.prog (85, a85) := ⟨Tryz.f85, n85, Tryz.func85, by kernel_rfl⟩
theorem c86 : Compiled Tryz.prog (86, a86) := ⟨Tryz.f86, n86, Tryz.func86, by kernel_rfl⟩
theorem c87 : Compiled Tryz.prog (87, a87) := ⟨Tryz.f87, n87, Tryz.func87, by kernel_rfl⟩
theorem c88 : Compiled Tryz.prog (88, a88) := ⟨Tryz.f88, n88, Tryz.func88, by kernel_rfl⟩
theorem c89 : Compiled Tryz.prog (89, a89) := ⟨Tryz.f89, n89, Tryz.func89, by kernel_rfl⟩
theorem c92 : Compiled Tryz.prog (92, a92) := ⟨Tryz.f92, n92, Tryz.func92, by kernel_rfl⟩
theorem c93 : Compiled Tryz.prog (93, a93) := ⟨Tryz.f93, n93, Tryz.func93, by kernel_rfl⟩
theorem c94 : Compiled Tryz.prog (94, a94) := ⟨Tryz.f94, n94, Tryz.func94, by kernel_rfl⟩
theorem c95 : Compiled Tryz.prog (95, a95) := ⟨Tryz.f95, n95, Tryz.func95, by kernel_rfl⟩
theorem c96 : Compiled Tryz.prog (96, a96) := ⟨Tryz.f96, n96, Tryz.func96, by kernel_rfl⟩
theorem c97 : Compiled Tryz.prog (97, a97) := ⟨Tryz.f97, n97, Tryz.func97, by kernel_rfl⟩
theorem c98 : Compiled Tryz.prog (98, a98) := ⟨Tryz.f98, n98, Tryz.func98, by kernel_rfl⟩
theorem c99 : Compiled Tryz.prog (99, a99) := ⟨Tryz.f99, n99, Tryz.func99, by kernel_rfl⟩
theorem c100 : Compiled Tryz.prog (100, a100) := ⟨Tryz.f100, n100, Tryz.func100, by kernel_rfl⟩
theorem c101 : Compiled Tryz.prog (101, a101) := ⟨Tryz.f101, n101, Tryz.func101, by kernel_rfl⟩
theorem c102 : Compiled Tryz.prog (102, a102) := ⟨Tryz.f102, n102, Tryz.func102, by kernel_rfl⟩
theorem c103 : Compiled Tryz.prog (103, a103) := ⟨Tryz.f103, n103, Tryz.func103, by kernel_rfl⟩
theorem c104 : Compiled Tryz.prog (104, a104) := ⟨Tryz.f104, n104, Tryz.func104, by kernel_rfl⟩
theorem c105 : Compiled Tryz.prog (105, a105) := ⟨Tryz.f105, n105, Tryz.func105, by kernel_rfl⟩
theorem c106 : Compiled Tryz.prog (106, a106) := ⟨Tryz.f106, n106, Tryz.func106, by kernel_rfl⟩
theorem c107 : Compiled Tryz.prog (107, a107) := ⟨Tryz.f107, n107, Tryz.func107, by kernel_rfl⟩
theorem c108 : Compiled Tryz.prog (108, a108) := ⟨Tryz.f108, n108, Tryz.func108, by kernel_rfl⟩
theorem c109 : Compiled Tryz.prog (109, a109) := ⟨Tryz.f109, n109, Tryz.func109, by kernel_rfl⟩
theorem c110 : Compiled Tryz.prog (110, a110) := ⟨Tryz.f110, n110, Tryz.func110, by kernel_rfl⟩
theorem c123 : Compiled Tryz.prog (123, a123) := ⟨Tryz.f123, n123, Tryz.func123, by kernel_rfl⟩
theorem c124 : Compiled Tryz.prog (124, a124) := ⟨Tryz.f124, n124, Tryz.func124, by kernel_rfl⟩
theorem c125 : Compiled Tryz.prog (125, a125) := ⟨Tryz.f125, n125, Tryz.func125, by kernel_rfl⟩
theorem c126 : Compiled Tryz.prog (126, a126) := ⟨Tryz.f126, n126, Tryz.func126, by kernel_rfl⟩
theorem c127 : Compiled Tryz.prog (127, a127) := ⟨Tryz.f127, n127, Tryz.func127, by kernel_rfl⟩
theorem c128 : Compiled Tryz.prog (128, a128) := ⟨Tryz.f128, n128, Tryz.func128, by kernel_rfl⟩
theorem c129 : Compiled Tryz.prog (129, a129) := ⟨Tryz.f129, n129, Tryz.func129, by kernel_rfl⟩
theorem c130 : Compiled Tryz.prog (130, a130) := ⟨Tryz.f130, n130, Tryz.func130, by kernel_rfl⟩
theorem c131 : Compiled Tryz.prog (131, a131) := ⟨Tryz.f131, n131, Tryz.func131, by kernel_rfl⟩
theorem c132 : Compiled Tryz.prog (132, a132) := ⟨Tryz.f132, n132, Tryz.func132, by kernel_rfl⟩
theorem c133 : Compiled Tryz.prog (133, a133) := ⟨Tryz.f133, n133, Tryz.func133, by kernel_rfl⟩
theorem c134 : Compiled Tryz.prog (134, a134) := ⟨Tryz.f134, n134, Tryz.func134, by kernel_rfl⟩
theorem c135 : Compiled Tryz.prog (135, a135) := ⟨Tryz.f135, n135, Tryz.func135, by kernel_rfl⟩
theorem c136 : Compiled Tryz.prog (136, a136) := ⟨Tryz.f136, n136, Tryz.func136, by kernel_rfl⟩
theorem c137 : Compiled Tryz.prog (137, a137) := ⟨Tryz.f137, n137, Tryz.func137, by kernel_rfl⟩
theorem c147 : Compiled Tryz.prog (147, a147) := ⟨Tryz.f147, n147, Tryz.func147, by kernel_rfl⟩
theorem c148 : Compiled Tryz.prog (148, a148) := ⟨Tryz.f148, n148, Tryz.func148, by kernel_rfl⟩
theorem c149 : Compiled Tryz.prog (149, a149) := ⟨Tryz.f149, n149, Tryz.func149, by kernel_rfl⟩
theorem c150 : Compiled Tryz.prog (150, a150) := ⟨Tryz.f150, n150, Tryz.func150, by kernel_rfl⟩
theorem c151 : Compiled Tryz.prog (151, a151) := ⟨Tryz.f151, n151, Tryz.func151, by kernel_rfl⟩
theorem c152 : Compiled Tryz.prog (152, a152) := ⟨Tryz.f152, n152, Tryz.func152, by kernel_rfl⟩
theorem c153 : Compiled Tryz.prog (153, a153) := ⟨Tryz.f153, n153, Tryz.func153, by kernel_rfl⟩
theorem c165 : Compiled Tryz.prog (165, a165) := ⟨Tryz.f165, n165, Tryz.func165, by kernel_rfl⟩
theorem c166 : Compiled Tryz.prog (166, a166) := ⟨Tryz.f166, n166, Tryz.func166, by kernel_rfl⟩
theorem c167 : Compiled Tryz.prog (167, a167) := ⟨Tryz.f167, n167, Tryz.func167, by kernel_rfl⟩
theorem c168 : Compiled Tryz.prog (168, a168) := ⟨Tryz.f168, n168, Tryz.func168, by kernel_rfl⟩
def fns : List (FuncId × AFn) := [(4, a4), (7, a7), (8, a8), (9, a9), (11, a11), (18, a18), (20, a20), (21, a21), (22, a22), (23, a23), (24, a24), (25, a25), (26, a26), (27, a27), (28, a28), (29, a29), (30, a30), (33, a33), (34, a34), (35, a35), (36, a36), (37, a37), (38, a38), (40, a40), (42, a42), (45, a45), (46, a46), (47, a47), (48, a48), (49, a49), (50, a50), (51, a51), (52, a52), (53, a53), (54, a54), (55, a55), (56, a56), (57, a57), (58, a58), (59, a59), (60, a60), (61, a61), (62, a62), (63, a63), (65, a65), (66, a66), (74, a74), (75, a75), (76, a76), (77, a77), (78, a78), (79, a79), (80, a80), (81, a81), (82, a82), (83, a83), (84, a84), (85, a85), (86, a86), (87, a87), (88, a88), (89, a89), (92, a92), (93, a93), (94, a94), (95, a95), (96, a96), (97, a97), (98, a98), (99, a99), (100, a100), (101, a101), (102, a102), (103, a103), (104, a104), (105, a105), (106, a106), (107, a107), (108, a108), (109, a109), (110, a110), (123, a123), (124, a124), (125, a125), (126, a126), (127, a127), (128, a128), (129, a129), (130, a130), (131, a131), (132, a132), (133, a133), (134, a134), (135, a135), (136, a136), (137, a137), (147, a147), (148, a148), (149, a149), (150, a150), (151, a151), (152, a152), (153, a153), (165, a165), (166, a166), (167, a167), (168, a168)]
abbrev T : Tab := Tab.of fns
theorem tabOk : TabOk Tryz.prog T := by
  refine Tab.of_ok fun x hx => ?_
  simp only [fns, List.mem_cons, List.not_mem_nil, or_false] at hx
  rcases hx with rfl | rfl | rfl | rfl | rfl | rfl | rfl | rfl | rfl | rfl | rfl | rfl | rfl | rfl | rfl | rfl | rfl | rfl | rfl | rfl | rfl | rfl | rfl | rfl | rfl | rfl | rfl | rfl | rfl | rfl | rfl | rfl | rfl | rfl | rfl | rfl | rfl | rfl | rfl | rfl | rfl | rfl | rfl | rfl | rfl | rfl | rfl | rfl | rfl | rfl | rfl | rfl | rfl | rfl | rfl | rfl | rfl | rfl | rfl | rfl | rfl | rfl | rfl | rfl | rfl | rfl | rfl | rfl | rfl | rfl | rfl | rfl | rfl | rfl | rfl | rfl | rfl | rfl | rfl | rfl | rfl | rfl | rfl | rfl | rfl | rfl | rfl | rfl | rfl | rfl | rfl | rfl | rfl | rfl | rfl | rfl | rfl | rfl | rfl | rfl | rfl | rfl | rfl | rfl | rfl | rfl | rfl
  · exact c4
  · exact c7
  · exact c8
  · exact c9
  · exact c11
  · exact c18
  · exact c20
  · exact c21
  · exact c22
  · exact c23
  · exact c24
  · exact c25
  · exact c26
  · exact c27
  · exact c28
  · exact c29
  · exact c30
  · exact c33
  · exact c34
  · exact c35
  · exact c36
  · exact c37
  · exact c38
  · exact c40
  · exact c42
  · exact c45
  · exact c46
  · exact c47
  · exact c48
  · exact c49
  · exact c50
  · exact c51
  · exact c52
  · exact c53
  · exact c54
  · exact c55
  · exact c56
  · exact c57
  · exact c58
  · exact c59
  · exact c60
  · exact c61
  · exact c62
  · exact c63
  · exact c65
  · exact c66
  · exact c74
  · exact c75
  · exact c76
  · exact c77
  · exact c78
  · exact c79
  · exact c80
  · exact c81
  · exact c82
  · exact c83
  · exact c84
  · exact c85
  · exact c86
  · exact c87
  · exact c88
  · exact c89
  · exact c92
  · exact c93
  · exact c94
  · exact c95
  · exact c96
  · exact c97
  · exact c98
  · exact c99
  · exact c100
  · exact c101
  · exact c102
  · exact c103
  · exact c104
  · exact c105
  · exact c106
  · exact c107
  · exact c108
  · exact c109
  · exact c110
  · exact c123
  · exact c124
  · exact c125
  · exact c126
  · exact c127
  · exact c128
  · exact c129
  · exact c130
  · exact c131
  · exact c132
  · exact c133
  · exact c134
  · exact c135
  · exact c136
  · exact c137
  · exact c147
  · exact c148
  · exact c149
  · exact c150
  · exact c151
  · exact c152
  · exact c153
  · exact c165
  · exact c166
  · exact c167
  · exact c168
theorem t4 : T.fns 4 = some (.code a4) := Tab.of_code rfl
theorem t7 : T.fns 7 = some (.code a7) := Tab.of_code rfl
theorem t8 : T.fns 8 = some (.code a8) := Tab.of_code rfl
theorem t9 : T.fns 9 = some (.code a9) := Tab.of_code rfl
theorem t11 : T.fns 11 = some (.code a11) := Tab.of_code rfl
theorem t18 : T.fns 18 = some (.code a18) := Tab.of_code rfl
theorem t20 : T.fns 20 = some (.code a20) := Tab.of_code rfl
theorem t21 : T.fns 21 = some (.code a21) := Tab.of_code rfl
theorem t22 : T.fns 22 = some (.code a22) := Tab.of_code rfl
theorem t23 : T.fns 23 = some (.code a23) := Tab.of_code rfl
theorem t24 : T.fns 24 = some (.code a24) := Tab.of_code rfl
theorem t25 : T.fns 25 = some (.code a25) := Tab.of_code rfl
theorem t26 : T.fns 26 = some (.code a26) := Tab.of_code rfl
theorem t27 : T.fns 27 = some (.code a27) := Tab.of_code rfl
theorem t28 : T.fns 28 = some (.code a28) := Tab.of_code rfl
theorem t29 : T.fns 29 = some (.code a29) := Tab.of_code rfl
theorem t30 : T.fns 30 = some (.code a30) := Tab.of_code rfl
theorem t33 : T.fns 33 = some (.code a33) := Tab.of_code rfl
theorem t34 : T.fns 34 = some (.code a34) := Tab.of_code rfl
theorem t35 : T.fns 35 = some (.code a35) := Tab.of_code rfl
theorem t36 : T.fns 36 = some (.code a36) := Tab.of_code rfl
theorem t37 : T.fns 37 = some (.code a37) := Tab.of_code rfl
theorem t38 : T.fns 38 = some (.code a38) := Tab.of_code rfl
theorem t40 : T.fns 40 = some (.code a40) := Tab.of_code rfl
theorem t42 : T.fns 42 = some (.code a42) := Tab.of_code rfl
theorem t45 : T.fns 45 = some (.code a45) := Tab.of_code rfl
theorem t46 : T.fns 46 = some (.code a46) := Tab.of_code rfl
theorem t47 : T.fns 47 = some (.code a47) := Tab.of_code rfl
theorem t48 : T.fns 48 = some (.code a48) := Tab.of_code rfl
theorem t49 : T.fns 49 = some (.code a49) := Tab.of_code rfl
theorem t50 : T.fns 50 = some (.code a50) := Tab.of_code rfl
theorem t51 : T.fns 51 = some (.code a51) := Tab.of_code rfl
theorem t52 : T.fns 52 = some (.code a52) := Tab.of_code rfl
theorem t53 : T.fns 53 = some (.code a53) := Tab.of_code rfl
theorem t54 : T.fns 54 = some (.code a54) := Tab.of_code rfl
theorem t55 : T.fns 55 = some (.code a55) := Tab.of_code rfl
theorem t56 : T.fns 56 = some (.code a56) := Tab.of_code rfl
theorem t57 : T.fns 57 = some (.code a57) := Tab.of_code rfl
theorem t58 : T.fns 58 = some (.code a58) := Tab.of_code rfl
theorem t59 : T.fns 59 = some (.code a59) := Tab.of_code rfl
theorem t60 : T.fns 60 = some (.code a60) := Tab.of_code rfl
theorem t61 : T.fns 61 = some (.code a61) := Tab.of_code rfl
theorem t62 : T.fns 62 = some (.code a62) := Tab.of_code rfl
theorem t63 : T.fns 63 = some (.code a63) := Tab.of_code rfl
theorem t65 : T.fns 65 = some (.code a65) := Tab.of_code rfl
theorem t66 : T.fns 66 = some (.code a66) := Tab.of_code rfl
theorem t74 : T.fns 74 = some (.code a74) := Tab.of_code rfl
theorem t75 : T.fns 75 = some (.code a75) := Tab.of_code rfl
theorem t76 : T.fns 76 = some (.code a76) := Tab.of_code rfl
theorem t77 : T.fns 77 = some (.code a77) := Tab.of_code rfl
theorem t78 : T.fns 78 = some (.code a78) := Tab.of_code rfl
theorem t79 : T.fns 79 = some (.code a79) := Tab.of_code rfl
theorem t80 : T.fns 80 = some (.code a80) := Tab.of_code rfl
theorem t81 : T.fns 81 = some (.code a81) := Tab.of_code rfl
theorem t82 : T.fns 82 = some (.code a82) := Tab.of_code rfl
theorem t83 : T.fns 83 = some (.code a83) := Tab.of_code rfl
theorem t84 : T.fns 84 = some (.code a84) := Tab.of_code rfl
theorem t85 : T.fns 85 = some (.code a85) := Tab.of_code rfl
theorem t86 : T.fns 86 = some (.code a86) := Tab.of_code rfl
theorem t87 : T.fns 87 = some (.code a87) := Tab.of_code rfl
theorem t88 : T.fns 88 = some (.code a88) := Tab.of_code rfl
theorem t89 : T.fns 89 = some (.code a89) := Tab.of_code rfl
theorem t92 : T.fns 92 = some (.code a92) := Tab.of_code rfl
theorem t93 : T.fns 93 = some (.code a93) := Tab.of_code rfl
theorem t94 : T.fns 94 = some (.code a94) := Tab.of_code rfl
theorem t95 : T.fns 95 = some (.code a95) := Tab.of_code rfl
theorem t96 : T.fns 96 = some (.code a96) := Tab.of_code rfl
theorem t97 : T.fns 97 = some (.code a97) := Tab.of_code rfl
theorem t98 : T.fns 98 = some (.code a98) := Tab.of_code rfl
theorem t99 : T.fns 99 = some (.code a99) := Tab.of_code rfl
theorem t100 : T.fns 100 = some (.code a100) := Tab.of_code rfl
theorem t101 : T.fns 101 = some (.code a101) := Tab.of_code rfl
theorem t102 : T.fns 102 = some (.code a102) := Tab.of_code rfl
theorem t103 : T.fns 103 = some (.code a103) := Tab.of_code rfl
theorem t104 : T.fns 104 = some (.code a104) := Tab.of_code rfl
theorem t105 : T.fns 105 = some (.code a105) := Tab.of_code rfl
theorem t106 : T.fns 106 = some (.code a106) := Tab.of_code rfl
theorem t107 : T.fns 107 = some (.code a107) := Tab.of_code rfl
theorem t108 : T.fns 108 = some (.code a108) := Tab.of_code rfl
theorem t109 : T.fns 109 = some (.code a109) := Tab.of_code rfl
theorem t110 : T.fns 110 = some (.code a110) := Tab.of_code rfl
theorem t123 : T.fns 123 = some (.code a123) := Tab.of_code rfl
theorem t124 : T.fns 124 = some (.code a124) := Tab.of_code rfl
theorem t125 : T.fns 125 = some (.code a125) := Tab.of_code rfl
theorem t126 : T.fns 126 = some (.code a126) := Tab.of_code rfl
theorem t127 : T.fns 127 = some (.code a127) := Tab.of_code rfl
theorem t128 : T.fns 128 = some (.code a128) := Tab.of_code rfl
theorem t129 : T.fns 129 = some (.code a129) := Tab.of_code rfl
theorem t130 : T.fns 130 = some (.code a130) := Tab.of_code rfl
theorem t131 : T.fns 131 = some (.code a131) := Tab.of_code rfl
theorem t132 : T.fns 132 = some (.code a132) := Tab.of_code rfl
theorem t133 : T.fns 133 = some (.code a133) := Tab.of_code rfl
theorem t134 : T.fns 134 = some (.code a134) := Tab.of_code rfl
theorem t135 : T.fns 135 = some (.code a135) := Tab.of_code rfl
theorem t136 : T.fns 136 = some (.code a136) := Tab.of_code rfl
theorem t137 : T.fns 137 = some (.code a137) := Tab.of_code rfl
theorem t147 : T.fns 147 = some (.code a147) := Tab.of_code rfl
theorem t148 : T.fns 148 = some (.code a148) := Tab.of_code rfl
theorem t149 : T.fns 149 = some (.code a149) := Tab.of_code rfl
theorem t150 : T.fns 150 = some (.code a150) := Tab.of_code rfl
theorem t151 : T.fns 151 = some (.code a151) := Tab.of_code rfl
theorem t152 : T.fns 152 = some (.code a152) := Tab.of_code rfl
theorem t153 : T.fns 153 = some (.code a153) := Tab.of_code rfl
theorem t165 : T.fns 165 = some (.code a165) := Tab.of_code rfl
theorem t166 : T.fns 166 = some (.code a166) := Tab.of_code rfl
theorem t167 : T.fns 167 = some (.code a167) := Tab.of_code rfl
theorem t168 : T.fns 168 = some (.code a168) := Tab.of_code rfl
theorem mixed : Tryz.prog.follows .mixedOrders = true := by kernel_rfl
end Go.Proofs.YtoedpegjoccnlaaGreat
