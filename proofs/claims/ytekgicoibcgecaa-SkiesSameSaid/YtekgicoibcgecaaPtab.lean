/-
  MADE BY PROGRAM (mkt.py): the functions compile to that code; the table.
-/
import Derived.Test.YtekgicoibcgecaaPcode2
import Derived.Test.YtekgicoibcgecaaChecked
set_option linter.unusedSimpArgs false
set_option linter.unusedVariables false
namespace Go.Proofs.Ytekgicoibcgecaa
open Go.Ab
set_option maxRecDepth 100000 in
theorem c2 : Compiled Try.prog (2, a2) := ⟨Try.f2, n2, Try.func2, by kernel_rfl⟩
set_option maxRecDepth 100000 in
theorem c3 : Compiled Try.prog (3, a3) := ⟨Try.f3, n3, Try.func3, by kernel_rfl⟩
set_option maxRecDepth 100000 in
theorem c4 : Compiled Try.prog (4, a4) := ⟨Try.f4, n4, Try.func4, by kernel_rfl⟩
set_option maxRecDepth 100000 in
theorem c5 : Compiled Try.prog (5, a5) := ⟨Try.f5, n5, Try.func5, by kernel_rfl⟩
set_option maxRecDepth 100000 in
theorem c6 : Compiled Try.prog (6, a6) := ⟨Try.f6, n6, Try.func6, by kernel_rfl⟩
set_option maxRecDepth 100000 in
theorem c7 : Compiled Try.prog (7, a7) := ⟨Try.f7, n7, Try.func7, by kernel_rfl⟩
set_option maxRecDepth 100000 in
theorem c8 : Compiled Try.prog (8, a8) := ⟨Try.f8, n8, Try.func8, by kernel_rfl⟩
set_option maxRecDepth 100000 in
theorem c9 : Compiled Try.prog (9, a9) := ⟨Try.f9, n9, Try.func9, by kernel_rfl⟩
set_option maxRecDepth 100000 in
theorem c10 : Compiled Try.prog (10, a10) := ⟨Try.f10, n10, Try.func10, by kernel_rfl⟩
set_option maxRecDepth 100000 in
theorem c11 : Compiled Try.prog (11, a11) := ⟨Try.f11, n11, Try.func11, by kernel_rfl⟩
set_option maxRecDepth 100000 in
theorem c12 : Compiled Try.prog (12, a12) := ⟨Try.f12, n12, Try.func12, by kernel_rfl⟩
set_option maxRecDepth 100000 in
theorem c13 : Compiled Try.prog (13, a13) := ⟨Try.f13, n13, Try.func13, by kernel_rfl⟩
set_option maxRecDepth 100000 in
theorem c14 : Compiled Try.prog (14, a14) := ⟨Try.f14, n14, Try.func14, by kernel_rfl⟩
set_option maxRecDepth 100000 in
theorem c15 : Compiled Try.prog (15, a15) := ⟨Try.f15, n15, Try.func15, by kernel_rfl⟩
set_option maxRecDepth 100000 in
theorem c16 : Compiled Try.prog (16, a16) := ⟨Try.f16, n16, Try.func16, by kernel_rfl⟩
set_option maxRecDepth 100000 in
theorem c17 : Compiled Try.prog (17, a17) := ⟨Try.f17, n17, Try.func17, by kernel_rfl⟩
set_option maxRecDepth 100000 in
theorem c18 : Compiled Try.prog (18, a18) := ⟨Try.f18, n18, Try.func18, by kernel_rfl⟩
set_option maxRecDepth 100000 in
theorem c19 : Compiled Try.prog (19, a19) := ⟨Try.f19, n19, Try.func19, by kernel_rfl⟩
set_option maxRecDepth 100000 in
theorem c20 : Compiled Try.prog (20, a20) := ⟨Try.f20, n20, Try.func20, by kernel_rfl⟩
set_option maxRecDepth 100000 in
theorem c21 : Compiled Try.prog (21, a21) := ⟨Try.f21, n21, Try.func21, by kernel_rfl⟩
set_option maxRecDepth 100000 in
theorem c22 : Compiled Try.prog (22, a22) := ⟨Try.f22, n22, Try.func22, by kernel_rfl⟩
set_option maxRecDepth 100000 in
theorem c23 : Compiled Try.prog (23, a23) := ⟨Try.f23, n23, Try.func23, by kernel_rfl⟩
set_option maxRecDepth 100000 in
theorem c24 : Compiled Try.prog (24, a24) := ⟨Try.f24, n24, Try.func24, by kernel_rfl⟩
set_option maxRecDepth 100000 in
theorem c25 : Compiled Try.prog (25, a25) := ⟨Try.f25, n25, Try.func25, by kernel_rfl⟩
set_option maxRecDepth 100000 in
theorem c26 : Compiled Try.prog (26, a26) := ⟨Try.f26, n26, Try.func26, by kernel_rfl⟩
set_option maxRecDepth 100000 in
theorem c27 : Compiled Try.prog (27, a27) := ⟨Try.f27, n27, Try.func27, by kernel_rfl⟩
set_option maxRecDepth 100000 in
theorem c28 : Compiled Try.prog (28, a28) := ⟨Try.f28, n28, Try.func28, by kernel_rfl⟩
set_option maxRecDepth 100000 in
theorem c29 : Compiled Try.prog (29, a29) := ⟨Try.f29, n29, Try.func29, by kernel_rfl⟩
set_option maxRecDepth 100000 in
theorem c30 : Compiled Try.prog (30, a30) := ⟨Try.f30, n30, Try.func30, by kernel_rfl⟩
set_option maxRecDepth 100000 in
theorem c31 : Compiled Try.prog (31, a31) := ⟨Try.f31, n31, Try.func31, by kernel_rfl⟩
set_option maxRecDepth 100000 in
theorem c32 : Compiled Try.prog (32, a32) := ⟨Try.f32, n32, Try.func32, by kernel_rfl⟩
set_option maxRecDepth 100000 in
theorem c33 : Compiled Try.prog (33, a33) := ⟨Try.f33, n33, Try.func33, by kernel_rfl⟩
set_option maxRecDepth 100000 in
theorem c34 : Compiled Try.prog (34, a34) := ⟨Try.f34, n34, Try.func34, by kernel_rfl⟩
set_option maxRecDepth 100000 in
theorem c35 : Compiled Try.prog (35, a35) := ⟨Try.f35, n35, Try.func35, by kernel_rfl⟩
set_option maxRecDepth 100000 in
theorem c36 : Compiled Try.prog (36, a36) := ⟨Try.f36, n36, Try.func36, by kernel_rfl⟩
set_option maxRecDepth 100000 in
theorem c37 : Compiled Try.prog (37, a37) := ⟨Try.f37, n37, Try.func37, by kernel_rfl⟩
set_option maxRecDepth 100000 in
theorem c38 : Compiled Try.prog (38, a38) := ⟨Try.f38, n38, Try.func38, by kernel_rfl⟩
set_option maxRecDepth 100000 in
theorem c39 : Compiled Try.prog (39, a39) := ⟨Try.f39, n39, Try.func39, by kernel_rfl⟩
set_option maxRecDepth 100000 in
theorem c40 : Compiled Try.prog (40, a40) := ⟨Try.f40, n40, Try.func40, by kernel_rfl⟩
set_option maxRecDepth 100000 in
theorem c41 : Compiled Try.prog (41, a41) := ⟨Try.f41, n41, Try.func41, by kernel_rfl⟩
set_option maxRecDepth 100000 in
theorem c42 : Compiled Try.prog (42, a42) := ⟨Try.f42, n42, Try.func42, by kernel_rfl⟩
set_option maxRecDepth 100000 in
theorem c43 : Compiled Try.prog (43, a43) := ⟨Try.f43, n43, Try.func43, by kernel_rfl⟩
set_option maxRecDepth 100000 in
theorem c44 : Compiled Try.prog (44, a44) := ⟨Try.f44, n44, Try.func44, by kernel_rfl⟩
set_option maxRecDepth 100000 in
theorem c45 : Compiled Try.prog (45, a45) := ⟨Try.f45, n45, Try.func45, by kernel_rfl⟩
set_option maxRecDepth 100000 in
theorem c46 : Compiled Try.prog (46, a46) := ⟨Try.f46, n46, Try.func46, by kernel_rfl⟩
set_option maxRecDepth 100000 in
theorem c47 : Compiled Try.prog (47, a47) := ⟨Try.f47, n47, Try.func47, by kernel_rfl⟩
set_option maxRecDepth 100000 in
theorem c48 : Compiled Try.prog (48, a48) := ⟨Try.f48, n48, Try.func48, by kernel_rfl⟩
set_option maxRecDepth 100000 in
theorem c49 : Compiled Try.prog (49, a49) := ⟨Try.f49, n49, Try.func49, by kernel_rfl⟩
set_option maxRecDepth 100000 in
theorem c50 : Compiled Try.prog (50, a50) := ⟨Try.f50, n50, Try.func50, by kernel_rfl⟩
set_option maxRecDepth 100000 in
theorem c51 : Compiled Try.prog (51, a51) := ⟨Try.f51, n51, Try.func51, by kernel_rfl⟩
set_option maxRecDepth 100000 in
theorem c52 : Compiled Try.prog (52, a52) := ⟨Try.f52, n52, Try.func52, by kernel_rfl⟩
set_option maxRecDepth 100000 in
theorem c53 : Compiled Try.prog (53, a53) := ⟨Try.f53, n53, Try.func53, by kernel_rfl⟩
set_option maxRecDepth 100000 in
theorem c54 : Compiled Try.prog (54, a54) := ⟨Try.f54, n54, Try.func54, by kernel_rfl⟩
set_option maxRecDepth 100000 in
theorem c55 : Compiled Try.prog (55, a55) := ⟨Try.f55, n55, Try.func55, by kernel_rfl⟩
set_option maxRecDepth 100000 in
theorem c56 : Compiled Try.prog (56, a56) := ⟨Try.f56, n56, Try.func56, by kernel_rfl⟩
set_option maxRecDepth 100000 in
theorem c57 : Compiled Try.prog (57, a57) := ⟨Try.f57, n57, Try.func57, by kernel_rfl⟩
set_option maxRecDepth 100000 in
theorem c58 : Compiled Try.prog (58, a58) := ⟨Try.f58, n58, Try.func58, by kernel_rfl⟩
set_option maxRecDepth 100000 in
theorem c59 : Compiled Try.prog (59, a59) := ⟨Try.f59, n59, Try.func59, by kernel_rfl⟩
set_option maxRecDepth 100000 in
theorem c60 : Compiled Try.prog (60, a60) := ⟨Try.f60, n60, Try.func60, by kernel_rfl⟩
set_option maxRecDepth 100000 in
theorem c61 : Compiled Try.prog (61, a61) := ⟨Try.f61, n61, Try.func61, by kernel_rfl⟩
set_option maxRecDepth 100000 in
theorem c62 : Compiled Try.prog (62, a62) := ⟨Try.f62, n62, Try.func62, by kernel_rfl⟩
set_option maxRecDepth 100000 in
theorem c63 : Compiled Try.prog (63, a63) := ⟨Try.f63, n63, Try.func63, by kernel_rfl⟩
set_option maxRecDepth 100000 in
theorem c64 : Compiled Try.prog (64, a64) := ⟨Try.f64, n64, Try.func64, by kernel_rfl⟩
set_option maxRecDepth 100000 in
theorem c65 : Compiled Try.prog (65, a65) := ⟨Try.f65, n65, Try.func65, by kernel_rfl⟩
set_option maxRecDepth 100000 in
theorem c66 : Compiled Try.prog (66, a66) := ⟨Try.f66, n66, Try.func66, by kernel_rfl⟩
set_option maxRecDepth 100000 in
theorem c67 : Compiled Try.prog (67, a67) := ⟨Try.f67, n67, Try.func67, by kernel_rfl⟩
set_option maxRecDepth 100000 in
theorem c68 : Compiled Try.prog (68, a68) := ⟨Try.f68, n68, Try.func68, by kernel_rfl⟩
set_option maxRecDepth 100000 in
theorem c69 : Compiled Try.prog (69, a69) := ⟨Try.f69, n69, Try.func69, by kernel_rfl⟩
set_option maxRecDepth 100000 in
theorem c70 : Compiled Try.prog (70, a70) := ⟨Try.f70, n70, Try.func70, by kernel_rfl⟩
set_option maxRecDepth 100000 in
theorem c71 : Compiled Try.prog (71, a71) := ⟨Try.f71, n71, Try.func71, by kernel_rfl⟩
set_option maxRecDepth 100000 in
theorem c72 : Compiled Try.prog (72, a72) := ⟨Try.f72, n72, Try.func72, by kernel_rfl⟩
set_option maxRecDepth 100000 in
theorem c73 : Compiled Try.prog (73, a73) := ⟨Try.f73, n73, Try.func73, by kernel_rfl⟩
set_option maxRecDepth 100000 in
theorem c74 : Compiled Try.prog (74, a74) := ⟨Try.f74, n74, Try.func74, by kernel_rfl⟩
set_option maxRecDepth 100000 in
theorem c75 : Compiled Try.prog (75, a75) := ⟨Try.f75, n75, Try.func75, by kernel_rfl⟩
set_option maxRecDepth 100000 in
theorem c76 : Compiled Try.prog (76, a76) := ⟨Try.f76, n76, Try.func76, by kernel_rfl⟩
set_option maxRecDepth 100000 in
theorem c77 : Compiled Try.prog (77, a77) := ⟨Try.f77, n77, Try.func77, by kernel_rfl⟩
set_option maxRecDepth 100000 in
theorem c78 : Compiled Try.prog (78, a78) := ⟨Try.f78, n78, Try.func78, by kernel_rfl⟩
set_option maxRecDepth 100000 in
theorem c79 : Compiled Try.prog (79, a79) := ⟨Try.f79, n79, Try.func79, by kernel_rfl⟩
set_option maxRecDepth 100000 in
theorem c80 : Compiled Try.prog (80, a80) := ⟨Try.f80, n80, Try.func80, by kernel_rfl⟩
set_option maxRecDepth 100000 in
theorem c81 : Compiled Try.prog (81, a81) := ⟨Try.f81, n81, Try.func81, by kernel_rfl⟩
set_option maxRecDepth 100000 in
theorem c82 : Compiled Try.prog (82, a82) := ⟨Try.f82, n82, Try.func82, by kernel_rfl⟩
set_option maxRecDepth 100000 in
theorem c83 : Compiled Try.prog (83, a83) := ⟨Try.f83, n83, Try.func83, by kernel_rfl⟩
set_option maxRecDepth 100000 in
theorem c84 : Compiled Try.prog (84, a84) := ⟨Try.f84, n84, Try.func84, by kernel_rfl⟩
set_option maxRecDepth 100000 in
theorem c85 : Compiled Try.prog (85, a85) := ⟨Try.f85, n85, Try.func85, by kernel_rfl⟩
set_option maxRecDepth 100000 in
theorem c86 : Compiled Try.prog (86, a86) := ⟨Try.f86, n86, Try.func86, by kernel_rfl⟩
set_option maxRecDepth 100000 in
theorem c87 : Compiled Try.prog (87, a87) := ⟨Try.f87, n87, Try.func87, by kernel_rfl⟩
set_option maxRecDepth 100000 in
theorem c88 : Compiled Try.prog (88, a88) := ⟨Try.f88, n88, Try.func88, by kernel_rfl⟩
set_option maxRecDepth 100000 in
theorem c89 : Compiled Try.prog (89, a89) := ⟨Try.f89, n89, Try.func89, by kernel_rfl⟩
set_option maxRecDepth 100000 in
theorem c90 : Compiled Try.prog (90, a90) := ⟨Try.f90, n90, Try.func90, by kernel_rfl⟩
set_option maxRecDepth 100000 in
theorem c91 : Compiled Try.prog (91, a91) := ⟨Try.f91, n91, Try.func91, by kernel_rfl⟩
set_option maxRecDepth 100000 in
theorem c92 : Compiled Try.prog (92, a92) := ⟨Try.f92, n92, Try.func92, by kernel_rfl⟩
set_option maxRecDepth 100000 in
theorem c93 : Compiled Try.prog (93, a93) := ⟨Try.f93, n93, Try.func93, by kernel_rfl⟩
set_option maxRecDepth 100000 in
theorem c94 : Compiled Try.prog (94, a94) := ⟨Try.f94, n94, Try.func94, by kernel_rfl⟩
set_option maxRecDepth 100000 in
theorem c95 : Compiled Try.prog (95, a95) := ⟨Try.f95, n95, Try.func95, by kernel_rfl⟩
set_option maxRecDepth 100000 in
theorem c96 : Compiled Try.prog (96, a96) := ⟨Try.f96, n96, Try.func96, by kernel_rfl⟩
set_option maxRecDepth 100000 in
theorem c97 : Compiled Try.prog (97, a97) := ⟨Try.f97, n97, Try.func97, by kernel_rfl⟩
set_option maxRecDepth 100000 in
theorem c98 : Compiled Try.prog (98, a98) := ⟨Try.f98, n98, Try.func98, by kernel_rfl⟩
set_option maxRecDepth 100000 in
theorem c99 : Compiled Try.prog (99, a99) := ⟨Try.f99, n99, Try.func99, by kernel_rfl⟩
set_option maxRecDepth 100000 in
theorem c100 : Compiled Try.prog (100, a100) := ⟨Try.f100, n100, Try.func100, by kernel_rfl⟩
set_option maxRecDepth 100000 in
theorem c101 : Compiled Try.prog (101, a101) := ⟨Try.f101, n101, Try.func101, by kernel_rfl⟩
set_option maxRecDepth 100000 in
theorem c102 : Compiled Try.prog (102, a102) := ⟨Try.f102, n102, Try.func102, by kernel_rfl⟩
set_option maxRecDepth 100000 in
theorem c103 : Compiled Try.prog (103, a103) := ⟨Try.f103, n103, Try.func103, by kernel_rfl⟩
set_option maxRecDepth 100000 in
theorem c104 : Compiled Try.prog (104, a104) := ⟨Try.f104, n104, Try.func104, by kernel_rfl⟩
set_option maxRecDepth 100000 in
theorem c105 : Compiled Try.prog (105, a105) := ⟨Try.f105, n105, Try.func105, by kernel_rfl⟩
set_option maxRecDepth 100000 in
theorem c106 : Compiled Try.prog (106, a106) := ⟨Try.f106, n106, Try.func106, by kernel_rfl⟩
set_option maxRecDepth 100000 in
theorem c107 : Compiled Try.prog (107, a107) := ⟨Try.f107, n107, Try.func107, by kernel_rfl⟩
def fns : List (FuncId × AFn) := [(2, a2), (3, a3), (4, a4), (5, a5), (6, a6), (7, a7), (8, a8), (9, a9), (10, a10), (11, a11), (12, a12), (13, a13), (14, a14), (15, a15), (16, a16), (17, a17), (18, a18), (19, a19), (20, a20), (21, a21), (22, a22), (23, a23), (24, a24), (25, a25), (26, a26), (27, a27), (28, a28), (29, a29), (30, a30), (31, a31), (32, a32), (33, a33), (34, a34), (35, a35), (36, a36), (37, a37), (38, a38), (39, a39), (40, a40), (41, a41), (42, a42), (43, a43), (44, a44), (45, a45), (46, a46), (47, a47), (48, a48), (49, a49), (50, a50), (51, a51), (52, a52), (53, a53), (54, a54), (55, a55), (56, a56), (57, a57), (58, a58), (59, a59), (60, a60), (61, a61), (62, a62), (63, a63), (64, a64), (65, a65), (66, a66), (67, a67), (68, a68), (69, a69), (70, a70), (71, a71), (72, a72), (73, a73), (74, a74), (75, a75), (76, a76), (77, a77), (78, a78), (79, a79), (80, a80), (81, a81), (82, a82), (83, a83), (84, a84), (85, a85), (86, a86), (87, a87), (88, a88), (89, a89), (90, a90), (91, a91), (92, a92), (93, a93), (94, a94), (95, a95), (96, a96), (97, a97), (98, a98), (99, a99), (100, a100), (101, a101), (102, a102), (103, a103), (104, a104), (105, a105), (106, a106), (107, a107)]
abbrev T : Tab := Tab.of fns
theorem tabOk : TabOk Try.prog T := by
  refine Tab.of_ok fun x hx => ?_
  simp only [fns, List.mem_cons, List.not_mem_nil, or_false] at hx
  rcases hx with rfl | rfl | rfl | rfl | rfl | rfl | rfl | rfl | rfl | rfl | rfl | rfl | rfl | rfl | rfl | rfl | rfl | rfl | rfl | rfl | rfl | rfl | rfl | rfl | rfl | rfl | rfl | rfl | rfl | rfl | rfl | rfl | rfl | rfl | rfl | rfl | rfl | rfl | rfl | rfl | rfl | rfl | rfl | rfl | rfl | rfl | rfl | rfl | rfl | rfl | rfl | rfl | rfl | rfl | rfl | rfl | rfl | rfl | rfl | rfl | rfl | rfl | rfl | rfl | rfl | rfl | rfl | rfl | rfl | rfl | rfl | rfl | rfl | rfl | rfl | rfl | rfl | rfl | rfl | rfl | rfl | rfl | rfl | rfl | rfl | rfl | rfl | rfl | rfl | rfl | rfl | rfl | rfl | rfl | rfl | rfl | rfl | rfl | rfl | rfl | rfl | rfl | rfl | rfl | rfl | rfl
  · exact c2
  · exact c3
  · exact c4
  · exact c5
  · exact c6
  · exact c7
  · exact c8
  · exact c9
  · exact c10
  · exact c11
  · exact c12
  · exact c13
  · exact c14
  · exact c15
  · exact c16
  · exact c17
  · exact c18
  · exact c19
  · exact c20
  · exact c21
  · exact c22
  · exact c23
  · exact c24
  · exact c25
  · exact c26
  · exact c27
  · exact c28
  · exact c29
  · exact c30
  · exact c31
  · exact c32
  · exact c33
  · exact c34
  · exact c35
  · exact c36
  · exact c37
  · exact c38
  · exact c39
  · exact c40
  · exact c41
  · exact c42
  · exact c43
  · exact c44
  · exact c45
  · exact c46
  · exact c47
  · exact c48
  · exact c49
  · exact c50
  · exact c51
  · exact c52
  · exact c53
  · exact c54
  · exact c55
  · exact c56
  · exact c57
  · exact c58
  · exact c59
  · exact c60
  · exact c61
  · exact c62
  · exact c63
  · exact c64
  · exact c65
  · exact c66
  · exact c67
  · exact c68
  · exact c69
  · exact c70
  · exact c71
  · exact c72
  · exact c73
  · exact c74
  · exact c75
  · exact c76
  · exact c77
  · exact c78
  · exact c79
  · exact c80
  · exact c81
  · exact c82
  · exact c83
  · exact c84
  · exact c85
  · exact c86
  · exact c87
  · exact c88
  · exact c89
  · exact c90
  · exact c91
  · exact c92
  · exact c93
  · exact c94
  · exact c95
  · exact c96
  · exact c97
  · exact c98
  · exact c99
  · exact c100
  · exact c101
  · exact c102
  · exact c103
  · exact c104
  · exact c105
  · exact c106
  · exact c107
theorem t2 : T.fns 2 = some (.code a2) := Tab.of_code rfl
theorem t3 : T.fns 3 = some (.code a3) := Tab.of_code rfl
theorem t4 : T.fns 4 = some (.code a4) := Tab.of_code rfl
theorem t5 : T.fns 5 = some (.code a5) := Tab.of_code rfl
theorem t6 : T.fns 6 = some (.code a6) := Tab.of_code rfl
theorem t7 : T.fns 7 = some (.code a7) := Tab.of_code rfl
theorem t8 : T.fns 8 = some (.code a8) := Tab.of_code rfl
theorem t9 : T.fns 9 = some (.code a9) := Tab.of_code rfl
theorem t10 : T.fns 10 = some (.code a10) := Tab.of_code rfl
theorem t11 : T.fns 11 = some (.code a11) := Tab.of_code rfl
theorem t12 : T.fns 12 = some (.code a12) := Tab.of_code rfl
theorem t13 : T.fns 13 = some (.code a13) := Tab.of_code rfl
theorem t14 : T.fns 14 = some (.code a14) := Tab.of_code rfl
theorem t15 : T.fns 15 = some (.code a15) := Tab.of_code rfl
theorem t16 : T.fns 16 = some (.code a16) := Tab.of_code rfl
theorem t17 : T.fns 17 = some (.code a17) := Tab.of_code rfl
theorem t18 : T.fns 18 = some (.code a18) := Tab.of_code rfl
theorem t19 : T.fns 19 = some (.code a19) := Tab.of_code rfl
theorem t20 : T.fns 20 = some (.code a20) := Tab.of_code rfl
theorem t21 : T.fns 21 = some (.code a21) := Tab.of_code rfl
theorem t22 : T.fns 22 = some (.code a22) := Tab.of_code rfl
theorem t23 : T.fns 23 = some (.code a23) := Tab.of_code rfl
theorem t24 : T.fns 24 = some (.code a24) := Tab.of_code rfl
theorem t25 : T.fns 25 = some (.code a25) := Tab.of_code rfl
theorem t26 : T.fns 26 = some (.code a26) := Tab.of_code rfl
theorem t27 : T.fns 27 = some (.code a27) := Tab.of_code rfl
theorem t28 : T.fns 28 = some (.code a28) := Tab.of_code rfl
theorem t29 : T.fns 29 = some (.code a29) := Tab.of_code rfl
theorem t30 : T.fns 30 = some (.code a30) := Tab.of_code rfl
theorem t31 : T.fns 31 = some (.code a31) := Tab.of_code rfl
theorem t32 : T.fns 32 = some (.code a32) := Tab.of_code rfl
theorem t33 : T.fns 33 = some (.code a33) := Tab.of_code rfl
theorem t34 : T.fns 34 = some (.code a34) := Tab.of_code rfl
theorem t35 : T.fns 35 = some (.code a35) := Tab.of_code rfl
theorem t36 : T.fns 36 = some (.code a36) := Tab.of_code rfl
theorem t37 : T.fns 37 = some (.code a37) := Tab.of_code rfl
theorem t38 : T.fns 38 = some (.code a38) := Tab.of_code rfl
theorem t39 : T.fns 39 = some (.code a39) := Tab.of_code rfl
theorem t40 : T.fns 40 = some (.code a40) := Tab.of_code rfl
theorem t41 : T.fns 41 = some (.code a41) := Tab.of_code rfl
theorem t42 : T.fns 42 = some (.code a42) := Tab.of_code rfl
theorem t43 : T.fns 43 = some (.code a43) := Tab.of_code rfl
theorem t44 : T.fns 44 = some (.code a44) := Tab.of_code rfl
theorem t45 : T.fns 45 = some (.code a45) := Tab.of_code rfl
theorem t46 : T.fns 46 = some (.code a46) := Tab.of_code rfl
theorem t47 : T.fns 47 = some (.code a47) := Tab.of_code rfl
theorem t48 : T.fns 48 = some (.code a48) := Tab.of_code rfl
theorem t49 : T.fns 49 = some (.code a49) := Tab.of_code rfl
theorem t50 : T.fns 50 = some (.code a50) := Tab.of_code rfl
theorem t51 : T.fns 51 = some (.code a51) := Tab.of_code rfl
theorem t52 : T.fns 52 = some (.code a52) := Tab.of_code rfl
theorem t53 : T.fns 53 = some (.code a53) := Tab.of_code rfl
theorem t54 : T.fns 54 = some (.code a54) := Tab.of_code rfl
theorem t55 : T.fns 55 = some (.code a55) := Tab.of_code rfl
theorem t56 : T.fns 56 = some (.code a56) := Tab.of_code rfl
theorem t57 : T.fns 57 = some (.code a57) := Tab.of_code rfl
theorem t58 : T.fns 58 = some (.code a58) := Tab.of_code rfl
theorem t59 : T.fns 59 = some (.code a59) := Tab.of_code rfl
theorem t60 : T.fns 60 = some (.code a60) := Tab.of_code rfl
theorem t61 : T.fns 61 = some (.code a61) := Tab.of_code rfl
theorem t62 : T.fns 62 = some (.code a62) := Tab.of_code rfl
theorem t63 : T.fns 63 = some (.code a63) := Tab.of_code rfl
theorem t64 : T.fns 64 = some (.code a64) := Tab.of_code rfl
theorem t65 : T.fns 65 = some (.code a65) := Tab.of_code rfl
theorem t66 : T.fns 66 = some (.code a66) := Tab.of_code rfl
theorem t67 : T.fns 67 = some (.code a67) := Tab.of_code rfl
theorem t68 : T.fns 68 = some (.code a68) := Tab.of_code rfl
theorem t69 : T.fns 69 = some (.code a69) := Tab.of_code rfl
theorem t70 : T.fns 70 = some (.code a70) := Tab.of_code rfl
theorem t71 : T.fns 71 = some (.code a71) := Tab.of_code rfl
theorem t72 : T.fns 72 = some (.code a72) := Tab.of_code rfl
theorem t73 : T.fns 73 = some (.code a73) := Tab.of_code rfl
theorem t74 : T.fns 74 = some (.code a74) := Tab.of_code rfl
theorem t75 : T.fns 75 = some (.code a75) := Tab.of_code rfl
theorem t76 : T.fns 76 = some (.code a76) := Tab.of_code rfl
theorem t77 : T.fns 77 = some (.code a77) := Tab.of_code rfl
theorem t78 : T.fns 78 = some (.code a78) := Tab.of_code rfl
theorem t79 : T.fns 79 = some (.code a79) := Tab.of_code rfl
theorem t80 : T.fns 80 = some (.code a80) := Tab.of_code rfl
theorem t81 : T.fns 81 = some (.code a81) := Tab.of_code rfl
theorem t82 : T.fns 82 = some (.code a82) := Tab.of_code rfl
theorem t83 : T.fns 83 = some (.code a83) := Tab.of_code rfl
theorem t84 : T.fns 84 = some (.code a84) := Tab.of_code rfl
theorem t85 : T.fns 85 = some (.code a85) := Tab.of_code rfl
theorem t86 : T.fns 86 = some (.code a86) := Tab.of_code rfl
theorem t87 : T.fns 87 = some (.code a87) := Tab.of_code rfl
theorem t88 : T.fns 88 = some (.code a88) := Tab.of_code rfl
theorem t89 : T.fns 89 = some (.code a89) := Tab.of_code rfl
theorem t90 : T.fns 90 = some (.code a90) := Tab.of_code rfl
theorem t91 : T.fns 91 = some (.code a91) := Tab.of_code rfl
theorem t92 : T.fns 92 = some (.code a92) := Tab.of_code rfl
theorem t93 : T.fns 93 = some (.code a93) := Tab.of_code rfl
theorem t94 : T.fns 94 = some (.code a94) := Tab.of_code rfl
theorem t95 : T.fns 95 = some (.code a95) := Tab.of_code rfl
theorem t96 : T.fns 96 = some (.code a96) := Tab.of_code rfl
theorem t97 : T.fns 97 = some (.code a97) := Tab.of_code rfl
theorem t98 : T.fns 98 = some (.code a98) := Tab.of_code rfl
theorem t99 : T.fns 99 = some (.code a99) := Tab.of_code rfl
theorem t100 : T.fns 100 = some (.code a100) := Tab.of_code rfl
theorem t101 : T.fns 101 = some (.code a101) := Tab.of_code rfl
theorem t102 : T.fns 102 = some (.code a102) := Tab.of_code rfl
theorem t103 : T.fns 103 = some (.code a103) := Tab.of_code rfl
theorem t104 : T.fns 104 = some (.code a104) := Tab.of_code rfl
theorem t105 : T.fns 105 = some (.code a105) := Tab.of_code rfl
theorem t106 : T.fns 106 = some (.code a106) := Tab.of_code rfl
theorem t107 : T.fns 107 = some (.code a107) := Tab.of_code rfl
theorem mixed : Try.prog.follows .mixedOrders = true := by kernel_rfl
end Go.Proofs.Ytekgicoibcgecaa
