/-
  MADE BY PROGRAM (mkt.py): the functions compile to that code; the table.
-/
import Derived.Test.YtlcnoldkekcifaaPcode1
import Derived.Test.YtlcnoldkekcifaaChecked
import Derived.Test.YtlcnoldkekcifaaAb9
set_option linter.unusedSimpArgs false
set_option linter.unusedVariables false
namespace Go.Proofs.Ytlcnoldkekcifaa
open Go.Ab
set_option maxRecDepth 100000
def sortL_ren : Go.Shelf.Ren := ⟨fun | 6 => 120 | 15 => 127 | 14 => 126 | 28 => 137 | 29 => 138 | 20 => 129 | 21 => 130 | 22 => 131 | 23 => 132 | 24 => 133 | 25 => 134 | 26 => 135 | 27 => 136 | 46 => 140 | 47 => 141 | 48 => 142 | 49 => 143 | 50 => 144 | 57 => 145 | n => n, fun | 22 => 82 | 24 => 43 | 25 => 130 | 3 => 3 | 39 => 134 | 0 => 0 | 53 => 143 | 55 => 145 | 4 => 4 | 46 => 137 | 45 => 136 | 50 => 37 | 5 => 5 | 9 => 9 | 66 => 146 | 70 => 150 | 76 => 152 | 77 => 153 | n => n, fun n => n⟩
open Go.Shelf Go.Proofs in
theorem sortL : SlLaysF.n6 Try.prog sortL_ren := {
  mixed := by kernel_rfl,
  f6 := ⟨Try.f120.name, by kernel_rfl, Try.func120.trans (congrArg some (by kernel_rfl))⟩,
  f14 := ⟨Try.f126.name, by kernel_rfl, Try.func126.trans (congrArg some (by kernel_rfl))⟩,
  f15 := Try.func127.trans (congrArg some (by kernel_rfl)),
  f20 := ⟨Try.f129.name, by kernel_rfl, Try.func129.trans (congrArg some (by kernel_rfl))⟩,
  f21 := ⟨Try.f130.name, by kernel_rfl, Try.func130.trans (congrArg some (by kernel_rfl))⟩,
  f22 := ⟨Try.f131.name, by kernel_rfl, Try.func131.trans (congrArg some (by kernel_rfl))⟩,
  f23 := ⟨Try.f132.name, by kernel_rfl, Try.func132.trans (congrArg some (by kernel_rfl))⟩,
  f24 := ⟨Try.f133.name, by kernel_rfl, Try.func133.trans (congrArg some (by kernel_rfl))⟩,
  f25 := ⟨Try.f134.name, by kernel_rfl, Try.func134.trans (congrArg some (by kernel_rfl))⟩,
  f26 := ⟨Try.f135.name, by kernel_rfl, Try.func135.trans (congrArg some (by kernel_rfl))⟩,
  f27 := ⟨Try.f136.name, by kernel_rfl, Try.func136.trans (congrArg some (by kernel_rfl))⟩,
  f28 := Try.func137.trans (congrArg some (by kernel_rfl)),
  f29 := Try.func138.trans (congrArg some (by kernel_rfl)),
  f46 := ⟨Try.f140.name, by kernel_rfl, Try.func140.trans (congrArg some (by kernel_rfl))⟩,
  f47 := Try.func141.trans (congrArg some (by kernel_rfl)),
  f48 := Try.func142.trans (congrArg some (by kernel_rfl)),
  f49 := ⟨Try.f143.name, by kernel_rfl, Try.func143.trans (congrArg some (by kernel_rfl))⟩,
  f50 := ⟨Try.f144.name, by kernel_rfl, Try.func144.trans (congrArg some (by kernel_rfl))⟩,
  f57 := ⟨Try.f145.name, by kernel_rfl, Try.func145.trans (congrArg some (by kernel_rfl))⟩,
  t0 := Try.underlying0,
  a0 := Try.isAgg0,
  z0 := Try.sizeOf0,
  v0 := Try.zeroValue0,
  t3 := Try.underlying3,
  a3 := Try.isAgg3,
  z3 := Try.sizeOf3,
  v3 := Try.zeroValue3,
  t4 := Try.underlying4,
  a4 := Try.isAgg4,
  z4 := Try.sizeOf4,
  v4 := Try.zeroValue4,
  t5 := Try.underlying5,
  a5 := Try.isAgg5,
  z5 := Try.sizeOf5,
  v5 := Try.zeroValue5,
  t9 := Try.underlying9,
  a9 := Try.isAgg9,
  z9 := Try.sizeOf9,
  v9 := Try.zeroValue9,
  t22 := Try.underlying82,
  a22 := Try.isAgg82,
  z22 := Try.sizeOf82,
  v22 := Try.zeroValue82,
  a24 := Try.isAgg43,
  z24 := Try.sizeOf43,
  t25 := Try.underlying130,
  a25 := Try.isAgg130,
  z25 := Try.sizeOf130,
  v25 := Try.zeroValue130,
  t39 := Try.underlying134,
  a39 := Try.isAgg134,
  z39 := Try.sizeOf134,
  v39 := Try.zeroValue134,
  t45 := Try.underlying136,
  a45 := Try.isAgg136,
  z45 := Try.sizeOf136,
  v45 := Try.zeroValue136,
  t46 := Try.underlying137,
  a46 := Try.isAgg137,
  z46 := Try.sizeOf137,
  v46 := Try.zeroValue137,
  t50 := Try.underlying37,
  a50 := Try.isAgg37,
  z50 := Try.sizeOf37,
  v50 := Try.zeroValue37,
  t53 := Try.underlying143,
  a53 := Try.isAgg143,
  z53 := Try.sizeOf143,
  v53 := Try.zeroValue143,
  t55 := Try.underlying145,
  a55 := Try.isAgg145,
  z55 := Try.sizeOf145,
  v55 := Try.zeroValue145,
  t66 := Try.underlying146,
  a66 := Try.isAgg146,
  z66 := Try.sizeOf146,
  v66 := Try.zeroValue146,
  t70 := Try.underlying150,
  a70 := Try.isAgg150,
  z70 := Try.sizeOf150,
  v70 := Try.zeroValue150,
  t76 := Try.underlying152,
  a76 := Try.isAgg152,
  z76 := Try.sizeOf152,
  v76 := Try.zeroValue152,
  t77 := Try.underlying153,
  a77 := Try.isAgg153,
  z77 := Try.sizeOf153,
  v77 := Try.zeroValue153 }
theorem c11 : Compiled Try.prog (11, a11) := ⟨Try.f11, n11, Try.func11, by kernel_rfl⟩
theorem c16 : Compiled Try.prog (16, a16) := ⟨Try.f16, n16, Try.func16, by kernel_rfl⟩
theorem c17 : Compiled Try.prog (17, a17) := ⟨Try.f17, n17, Try.func17, by kernel_rfl⟩
theorem c18 : Compiled Try.prog (18, a18) := ⟨Try.f18, n18, Try.func18, by kernel_rfl⟩
theorem c27 : Compiled Try.prog (27, a27) := ⟨Try.f27, n27, Try.func27, by kernel_rfl⟩
theorem c28 : Compiled Try.prog (28, a28) := ⟨Try.f28, n28, Try.func28, by kernel_rfl⟩
theorem c29 : Compiled Try.prog (29, a29) := ⟨Try.f29, n29, Try.func29, by kernel_rfl⟩
theorem c31 : Compiled Try.prog (31, a31) := ⟨Try.f31, n31, Try.func31, by kernel_rfl⟩
theorem c32 : Compiled Try.prog (32, a32) := ⟨Try.f32, n32, Try.func32, by kernel_rfl⟩
theorem c35 : Compiled Try.prog (35, a35) := ⟨Try.f35, n35, Try.func35, by kernel_rfl⟩
theorem c39 : Compiled Try.prog (39, a39) := ⟨Try.f39, n39, Try.func39, by kernel_rfl⟩
theorem c42 : Compiled Try.prog (42, a42) := ⟨Try.f42, n42, Try.func42, by kernel_rfl⟩
theorem c43 : Compiled Try.prog (43, a43) := ⟨Try.f43, n43, Try.func43, by kernel_rfl⟩
theorem c46 : Compiled Try.prog (46, a46) := ⟨Try.f46, n46, Try.func46, by kernel_rfl⟩
theorem c47 : Compiled Try.prog (47, a47) := ⟨Try.f47, n47, Try.func47, by kernel_rfl⟩
theorem c48 : Compiled Try.prog (48, a48) := ⟨Try.f48, n48, Try.func48, by kernel_rfl⟩
theorem c49 : Compiled Try.prog (49, a49) := ⟨Try.f49, n49, Try.func49, by kernel_rfl⟩
theorem c55 : Compiled Try.prog (55, a55) := ⟨Try.f55, n55, Try.func55, by kernel_rfl⟩
theorem c58 : Compiled Try.prog (58, a58) := ⟨Try.f58, n58, Try.func58, by kernel_rfl⟩
theorem c59 : Compiled Try.prog (59, a59) := ⟨Try.f59, n59, Try.func59, by kernel_rfl⟩
theorem c60 : Compiled Try.prog (60, a60) := ⟨Try.f60, n60, Try.func60, by kernel_rfl⟩
theorem c61 : Compiled Try.prog (61, a61) := ⟨Try.f61, n61, Try.func61, by kernel_rfl⟩
theorem c62 : Compiled Try.prog (62, a62) := ⟨Try.f62, n62, Try.func62, by kernel_rfl⟩
theorem c63 : Compiled Try.prog (63, a63) := ⟨Try.f63, n63, Try.func63, by kernel_rfl⟩
theorem c64 : Compiled Try.prog (64, a64) := ⟨Try.f64, n64, Try.func64, by kernel_rfl⟩
theorem c65 : Compiled Try.prog (65, a65) := ⟨Try.f65, n65, Try.func65, by kernel_rfl⟩
theorem c67 : Compiled Try.prog (67, a67) := ⟨Try.f67, n67, Try.func67, by kernel_rfl⟩
theorem c68 : Compiled Try.prog (68, a68) := ⟨Try.f68, n68, Try.func68, by kernel_rfl⟩
theorem c69 : Compiled Try.prog (69, a69) := ⟨Try.f69, n69, Try.func69, by kernel_rfl⟩
theorem c70 : Compiled Try.prog (70, a70) := ⟨Try.f70, n70, Try.func70, by kernel_rfl⟩
theorem c71 : Compiled Try.prog (71, a71) := ⟨Try.f71, n71, Try.func71, by kernel_rfl⟩
theorem c78 : Compiled Try.prog (78, a78) := ⟨Try.f78, n78, Try.func78, by kernel_rfl⟩
theorem c79 : Compiled Try.prog (79, a79) := ⟨Try.f79, n79, Try.func79, by kernel_rfl⟩
theorem c80 : Compiled Try.prog (80, a80) := ⟨Try.f80, n80, Try.func80, by kernel_rfl⟩
theorem c81 : Compiled Try.prog (81, a81) := ⟨Try.f81, n81, Try.func81, by kernel_rfl⟩
theorem c82 : Compiled Try.prog (82, a82) := ⟨Try.f82, n82, Try.func82, by kernel_rfl⟩
theorem c83 : Compiled Try.prog (83, a83) := ⟨Try.f83, n83, Try.func83, by kernel_rfl⟩
theorem c84 : Compiled Try.prog (84, a84) := ⟨Try.f84, n84, Try.func84, by kernel_rfl⟩
theorem c86 : Compiled Try.prog (86, a86) := ⟨Try.f86, n86, Try.func86, by kernel_rfl⟩
theorem c87 : Compiled Try.prog (87, a87) := ⟨Try.f87, n87, Try.func87, by kernel_rfl⟩
theorem c88 : Compiled Try.prog (88, a88) := ⟨Try.f88, n88, Try.func88, by kernel_rfl⟩
theorem c93 : Compiled Try.prog (93, a93) := ⟨Try.f93, n93, Try.func93, by kernel_rfl⟩
theorem c94 : Compiled Try.prog (94, a94) := ⟨Try.f94, n94, Try.func94, by kernel_rfl⟩
theorem c95 : Compiled Try.prog (95, a95) := ⟨Try.f95, n95, Try.func95, by kernel_rfl⟩
theorem c97 : Compiled Try.prog (97, a97) := ⟨Try.f97, n97, Try.func97, by kernel_rfl⟩
theorem c98 : Compiled Try.prog (98, a98) := ⟨Try.f98, n98, Try.func98, by kernel_rfl⟩
theorem c99 : Compiled Try.prog (99, a99) := ⟨Try.f99, n99, Try.func99, by kernel_rfl⟩
theorem c100 : Compiled Try.prog (100, a100) := ⟨Try.f100, n100, Try.func100, by kernel_rfl⟩
theorem c101 : Compiled Try.prog (101, a101) := ⟨Try.f101, n101, Try.func101, by kernel_rfl⟩
theorem c102 : Compiled Try.prog (102, a102) := ⟨Try.f102, n102, Try.func102, by kernel_rfl⟩
theorem c103 : Compiled Try.prog (103, a103) := ⟨Try.f103, n103, Try.func103, by kernel_rfl⟩
theorem c104 : Compiled Try.prog (104, a104) := ⟨Try.f104, n104, Try.func104, by kernel_rfl⟩
theorem c105 : Compiled Try.prog (105, a105) := ⟨Try.f105, n105, Try.func105, by kernel_rfl⟩
theorem c107 : Compiled Try.prog (107, a107) := ⟨Try.f107, n107, Try.func107, by kernel_rfl⟩
theorem c108 : Compiled Try.prog (108, a108) := ⟨Try.f108, n108, Try.func108, by kernel_rfl⟩
theorem c109 : Compiled Try.prog (109, a109) := ⟨Try.f109, n109, Try.func109, by kernel_rfl⟩
theorem c110 : Compiled Try.prog (110, a110) := ⟨Try.f110, n110, Try.func110, by kernel_rfl⟩
theorem c112 : Compiled Try.prog (112, a112) := ⟨Try.f112, n112, Try.func112, by kernel_rfl⟩
theorem c113 : Compiled Try.prog (113, a113) := ⟨Try.f113, n113, Try.func113, by kernel_rfl⟩
theorem c114 : Compiled Try.prog (114, a114) := ⟨Try.f114, n114, Try.func114, by kernel_rfl⟩
theorem c115 : Compiled Try.prog (115, a115) := ⟨Try.f115, n115, Try.func115, by kernel_rfl⟩
theorem c116 : Compiled Try.prog (116, a116) := ⟨Try.f116, n116, Try.func116, by kernel_rfl⟩
theorem c117 : Compiled Try.prog (117, a117) := ⟨Try.f117, n117, Try.func117, by kernel_rfl⟩
theorem c118 : Compiled Try.prog (118, a118) := ⟨Try.f118, n118, Try.func118, by kernel_rfl⟩
theorem c119 : Compiled Try.prog (119, a119) := ⟨Try.f119, n119, Try.func119, by kernel_rfl⟩
theorem c121 : Compiled Try.prog (121, a121) := ⟨Try.f121, n121, Try.func121, by kernel_rfl⟩
theorem c122 : Compiled Try.prog (122, a122) := ⟨Try.f122, n122, Try.func122, by kernel_rfl⟩
theorem c123 : Compiled Try.prog (123, a123) := ⟨Try.f123, n123, Try.func123, by kernel_rfl⟩
theorem c124 : Compiled Try.prog (124, a124) := ⟨Try.f124, n124, Try.func124, by kernel_rfl⟩
theorem c125 : Compiled Try.prog (125, a125) := ⟨Try.f125, n125, Try.func125, by kernel_rfl⟩
theorem c128 : Compiled Try.prog (128, a128) := ⟨Try.f128, n128, Try.func128, by kernel_rfl⟩
theorem c139 : Compiled Try.prog (139, a139) := ⟨Try.f139, n139, Try.func139, by kernel_rfl⟩
def fns : List (FuncId × AFn) := [(11, a11), (16, a16), (17, a17), (18, a18), (27, a27), (28, a28), (29, a29), (31, a31), (32, a32), (35, a35), (39, a39), (42, a42), (43, a43), (46, a46), (47, a47), (48, a48), (49, a49), (55, a55), (58, a58), (59, a59), (60, a60), (61, a61), (62, a62), (63, a63), (64, a64), (65, a65), (67, a67), (68, a68), (69, a69), (70, a70), (71, a71), (78, a78), (79, a79), (80, a80), (81, a81), (82, a82), (83, a83), (84, a84), (86, a86), (87, a87), (88, a88), (93, a93), (94, a94), (95, a95), (97, a97), (98, a98), (99, a99), (100, a100), (101, a101), (102, a102), (103, a103), (104, a104), (105, a105), (107, a107), (108, a108), (109, a109), (110, a110), (112, a112), (113, a113), (114, a114), (115, a115), (116, a116), (117, a117), (118, a118), (119, a119), (121, a121), (122, a122), (123, a123), (124, a124), (125, a125), (128, a128), (139, a139)]
abbrev T0 : Tab := Tab.of fns
theorem tabOk0 : TabOk Try.prog T0 := by
  refine Tab.of_ok fun x hx => ?_
  simp only [fns, List.mem_cons, List.not_mem_nil, or_false] at hx
  rcases hx with rfl | rfl | rfl | rfl | rfl | rfl | rfl | rfl | rfl | rfl | rfl | rfl | rfl | rfl | rfl | rfl | rfl | rfl | rfl | rfl | rfl | rfl | rfl | rfl | rfl | rfl | rfl | rfl | rfl | rfl | rfl | rfl | rfl | rfl | rfl | rfl | rfl | rfl | rfl | rfl | rfl | rfl | rfl | rfl | rfl | rfl | rfl | rfl | rfl | rfl | rfl | rfl | rfl | rfl | rfl | rfl | rfl | rfl | rfl | rfl | rfl | rfl | rfl | rfl | rfl | rfl | rfl | rfl | rfl | rfl | rfl | rfl
  · exact c11
  · exact c16
  · exact c17
  · exact c18
  · exact c27
  · exact c28
  · exact c29
  · exact c31
  · exact c32
  · exact c35
  · exact c39
  · exact c42
  · exact c43
  · exact c46
  · exact c47
  · exact c48
  · exact c49
  · exact c55
  · exact c58
  · exact c59
  · exact c60
  · exact c61
  · exact c62
  · exact c63
  · exact c64
  · exact c65
  · exact c67
  · exact c68
  · exact c69
  · exact c70
  · exact c71
  · exact c78
  · exact c79
  · exact c80
  · exact c81
  · exact c82
  · exact c83
  · exact c84
  · exact c86
  · exact c87
  · exact c88
  · exact c93
  · exact c94
  · exact c95
  · exact c97
  · exact c98
  · exact c99
  · exact c100
  · exact c101
  · exact c102
  · exact c103
  · exact c104
  · exact c105
  · exact c107
  · exact c108
  · exact c109
  · exact c110
  · exact c112
  · exact c113
  · exact c114
  · exact c115
  · exact c116
  · exact c117
  · exact c118
  · exact c119
  · exact c121
  · exact c122
  · exact c123
  · exact c124
  · exact c125
  · exact c128
  · exact c139
theorem u11 : T0.fns 11 = some (.code a11) := Tab.of_code rfl
theorem u16 : T0.fns 16 = some (.code a16) := Tab.of_code rfl
theorem u17 : T0.fns 17 = some (.code a17) := Tab.of_code rfl
theorem u18 : T0.fns 18 = some (.code a18) := Tab.of_code rfl
theorem u27 : T0.fns 27 = some (.code a27) := Tab.of_code rfl
theorem u28 : T0.fns 28 = some (.code a28) := Tab.of_code rfl
theorem u29 : T0.fns 29 = some (.code a29) := Tab.of_code rfl
theorem u31 : T0.fns 31 = some (.code a31) := Tab.of_code rfl
theorem u32 : T0.fns 32 = some (.code a32) := Tab.of_code rfl
theorem u35 : T0.fns 35 = some (.code a35) := Tab.of_code rfl
theorem u39 : T0.fns 39 = some (.code a39) := Tab.of_code rfl
theorem u42 : T0.fns 42 = some (.code a42) := Tab.of_code rfl
theorem u43 : T0.fns 43 = some (.code a43) := Tab.of_code rfl
theorem u46 : T0.fns 46 = some (.code a46) := Tab.of_code rfl
theorem u47 : T0.fns 47 = some (.code a47) := Tab.of_code rfl
theorem u48 : T0.fns 48 = some (.code a48) := Tab.of_code rfl
theorem u49 : T0.fns 49 = some (.code a49) := Tab.of_code rfl
theorem u55 : T0.fns 55 = some (.code a55) := Tab.of_code rfl
theorem u58 : T0.fns 58 = some (.code a58) := Tab.of_code rfl
theorem u59 : T0.fns 59 = some (.code a59) := Tab.of_code rfl
theorem u60 : T0.fns 60 = some (.code a60) := Tab.of_code rfl
theorem u61 : T0.fns 61 = some (.code a61) := Tab.of_code rfl
theorem u62 : T0.fns 62 = some (.code a62) := Tab.of_code rfl
theorem u63 : T0.fns 63 = some (.code a63) := Tab.of_code rfl
theorem u64 : T0.fns 64 = some (.code a64) := Tab.of_code rfl
theorem u65 : T0.fns 65 = some (.code a65) := Tab.of_code rfl
theorem u67 : T0.fns 67 = some (.code a67) := Tab.of_code rfl
theorem u68 : T0.fns 68 = some (.code a68) := Tab.of_code rfl
theorem u69 : T0.fns 69 = some (.code a69) := Tab.of_code rfl
theorem u70 : T0.fns 70 = some (.code a70) := Tab.of_code rfl
theorem u71 : T0.fns 71 = some (.code a71) := Tab.of_code rfl
theorem u78 : T0.fns 78 = some (.code a78) := Tab.of_code rfl
theorem u79 : T0.fns 79 = some (.code a79) := Tab.of_code rfl
theorem u80 : T0.fns 80 = some (.code a80) := Tab.of_code rfl
theorem u81 : T0.fns 81 = some (.code a81) := Tab.of_code rfl
theorem u82 : T0.fns 82 = some (.code a82) := Tab.of_code rfl
theorem u83 : T0.fns 83 = some (.code a83) := Tab.of_code rfl
theorem u84 : T0.fns 84 = some (.code a84) := Tab.of_code rfl
theorem u86 : T0.fns 86 = some (.code a86) := Tab.of_code rfl
theorem u87 : T0.fns 87 = some (.code a87) := Tab.of_code rfl
theorem u88 : T0.fns 88 = some (.code a88) := Tab.of_code rfl
theorem u93 : T0.fns 93 = some (.code a93) := Tab.of_code rfl
theorem u94 : T0.fns 94 = some (.code a94) := Tab.of_code rfl
theorem u95 : T0.fns 95 = some (.code a95) := Tab.of_code rfl
theorem u97 : T0.fns 97 = some (.code a97) := Tab.of_code rfl
theorem u98 : T0.fns 98 = some (.code a98) := Tab.of_code rfl
theorem u99 : T0.fns 99 = some (.code a99) := Tab.of_code rfl
theorem u100 : T0.fns 100 = some (.code a100) := Tab.of_code rfl
theorem u101 : T0.fns 101 = some (.code a101) := Tab.of_code rfl
theorem u102 : T0.fns 102 = some (.code a102) := Tab.of_code rfl
theorem u103 : T0.fns 103 = some (.code a103) := Tab.of_code rfl
theorem u104 : T0.fns 104 = some (.code a104) := Tab.of_code rfl
theorem u105 : T0.fns 105 = some (.code a105) := Tab.of_code rfl
theorem u107 : T0.fns 107 = some (.code a107) := Tab.of_code rfl
theorem u108 : T0.fns 108 = some (.code a108) := Tab.of_code rfl
theorem u109 : T0.fns 109 = some (.code a109) := Tab.of_code rfl
theorem u110 : T0.fns 110 = some (.code a110) := Tab.of_code rfl
theorem u112 : T0.fns 112 = some (.code a112) := Tab.of_code rfl
theorem u113 : T0.fns 113 = some (.code a113) := Tab.of_code rfl
theorem u114 : T0.fns 114 = some (.code a114) := Tab.of_code rfl
theorem u115 : T0.fns 115 = some (.code a115) := Tab.of_code rfl
theorem u116 : T0.fns 116 = some (.code a116) := Tab.of_code rfl
theorem u117 : T0.fns 117 = some (.code a117) := Tab.of_code rfl
theorem u118 : T0.fns 118 = some (.code a118) := Tab.of_code rfl
theorem u119 : T0.fns 119 = some (.code a119) := Tab.of_code rfl
theorem u121 : T0.fns 121 = some (.code a121) := Tab.of_code rfl
theorem u122 : T0.fns 122 = some (.code a122) := Tab.of_code rfl
theorem u123 : T0.fns 123 = some (.code a123) := Tab.of_code rfl
theorem u124 : T0.fns 124 = some (.code a124) := Tab.of_code rfl
theorem u125 : T0.fns 125 = some (.code a125) := Tab.of_code rfl
theorem u128 : T0.fns 128 = some (.code a128) := Tab.of_code rfl
theorem u139 : T0.fns 139 = some (.code a139) := Tab.of_code rfl
theorem mixed : Try.prog.follows .mixedOrders = true := by kernel_rfl
noncomputable def sortP : List V → Nat → Stk → Option (V × Stk) := sortFP T0 false
theorem sortP_ok : PrimOk Try.prog (120, sortP) := sortF1_ok mixed sortL tabOk0
noncomputable def prims : List (FuncId × (List V → Nat → Stk → Option (V × Stk))) := [(120, sortP)]
noncomputable abbrev T : Tab := Tab.ofP fns prims
theorem tabOk : TabOk Try.prog T := by
  refine Tab.ofP_ok (fun x hx => ?_) (fun x hx => by simp only [prims, List.mem_cons, List.not_mem_nil, or_false] at hx; subst hx; exact sortP_ok)
  simp only [fns, List.mem_cons, List.not_mem_nil, or_false] at hx
  rcases hx with rfl | rfl | rfl | rfl | rfl | rfl | rfl | rfl | rfl | rfl | rfl | rfl | rfl | rfl | rfl | rfl | rfl | rfl | rfl | rfl | rfl | rfl | rfl | rfl | rfl | rfl | rfl | rfl | rfl | rfl | rfl | rfl | rfl | rfl | rfl | rfl | rfl | rfl | rfl | rfl | rfl | rfl | rfl | rfl | rfl | rfl | rfl | rfl | rfl | rfl | rfl | rfl | rfl | rfl | rfl | rfl | rfl | rfl | rfl | rfl | rfl | rfl | rfl | rfl | rfl | rfl | rfl | rfl | rfl | rfl | rfl | rfl
  · exact c11
  · exact c16
  · exact c17
  · exact c18
  · exact c27
  · exact c28
  · exact c29
  · exact c31
  · exact c32
  · exact c35
  · exact c39
  · exact c42
  · exact c43
  · exact c46
  · exact c47
  · exact c48
  · exact c49
  · exact c55
  · exact c58
  · exact c59
  · exact c60
  · exact c61
  · exact c62
  · exact c63
  · exact c64
  · exact c65
  · exact c67
  · exact c68
  · exact c69
  · exact c70
  · exact c71
  · exact c78
  · exact c79
  · exact c80
  · exact c81
  · exact c82
  · exact c83
  · exact c84
  · exact c86
  · exact c87
  · exact c88
  · exact c93
  · exact c94
  · exact c95
  · exact c97
  · exact c98
  · exact c99
  · exact c100
  · exact c101
  · exact c102
  · exact c103
  · exact c104
  · exact c105
  · exact c107
  · exact c108
  · exact c109
  · exact c110
  · exact c112
  · exact c113
  · exact c114
  · exact c115
  · exact c116
  · exact c117
  · exact c118
  · exact c119
  · exact c121
  · exact c122
  · exact c123
  · exact c124
  · exact c125
  · exact c128
  · exact c139
theorem t11 : T.fns 11 = some (.code a11) := Tab.ofP_code rfl
theorem t16 : T.fns 16 = some (.code a16) := Tab.ofP_code rfl
theorem t17 : T.fns 17 = some (.code a17) := Tab.ofP_code rfl
theorem t18 : T.fns 18 = some (.code a18) := Tab.ofP_code rfl
theorem t27 : T.fns 27 = some (.code a27) := Tab.ofP_code rfl
theorem t28 : T.fns 28 = some (.code a28) := Tab.ofP_code rfl
theorem t29 : T.fns 29 = some (.code a29) := Tab.ofP_code rfl
theorem t31 : T.fns 31 = some (.code a31) := Tab.ofP_code rfl
theorem t32 : T.fns 32 = some (.code a32) := Tab.ofP_code rfl
theorem t35 : T.fns 35 = some (.code a35) := Tab.ofP_code rfl
theorem t39 : T.fns 39 = some (.code a39) := Tab.ofP_code rfl
theorem t42 : T.fns 42 = some (.code a42) := Tab.ofP_code rfl
theorem t43 : T.fns 43 = some (.code a43) := Tab.ofP_code rfl
theorem t46 : T.fns 46 = some (.code a46) := Tab.ofP_code rfl
theorem t47 : T.fns 47 = some (.code a47) := Tab.ofP_code rfl
theorem t48 : T.fns 48 = some (.code a48) := Tab.ofP_code rfl
theorem t49 : T.fns 49 = some (.code a49) := Tab.ofP_code rfl
theorem t55 : T.fns 55 = some (.code a55) := Tab.ofP_code rfl
theorem t58 : T.fns 58 = some (.code a58) := Tab.ofP_code rfl
theorem t59 : T.fns 59 = some (.code a59) := Tab.ofP_code rfl
theorem t60 : T.fns 60 = some (.code a60) := Tab.ofP_code rfl
theorem t61 : T.fns 61 = some (.code a61) := Tab.ofP_code rfl
theorem t62 : T.fns 62 = some (.code a62) := Tab.ofP_code rfl
theorem t63 : T.fns 63 = some (.code a63) := Tab.ofP_code rfl
theorem t64 : T.fns 64 = some (.code a64) := Tab.ofP_code rfl
theorem t65 : T.fns 65 = some (.code a65) := Tab.ofP_code rfl
theorem t67 : T.fns 67 = some (.code a67) := Tab.ofP_code rfl
theorem t68 : T.fns 68 = some (.code a68) := Tab.ofP_code rfl
theorem t69 : T.fns 69 = some (.code a69) := Tab.ofP_code rfl
theorem t70 : T.fns 70 = some (.code a70) := Tab.ofP_code rfl
theorem t71 : T.fns 71 = some (.code a71) := Tab.ofP_code rfl
theorem t78 : T.fns 78 = some (.code a78) := Tab.ofP_code rfl
theorem t79 : T.fns 79 = some (.code a79) := Tab.ofP_code rfl
theorem t80 : T.fns 80 = some (.code a80) := Tab.ofP_code rfl
theorem t81 : T.fns 81 = some (.code a81) := Tab.ofP_code rfl
theorem t82 : T.fns 82 = some (.code a82) := Tab.ofP_code rfl
theorem t83 : T.fns 83 = some (.code a83) := Tab.ofP_code rfl
theorem t84 : T.fns 84 = some (.code a84) := Tab.ofP_code rfl
theorem t86 : T.fns 86 = some (.code a86) := Tab.ofP_code rfl
theorem t87 : T.fns 87 = some (.code a87) := Tab.ofP_code rfl
theorem t88 : T.fns 88 = some (.code a88) := Tab.ofP_code rfl
theorem t93 : T.fns 93 = some (.code a93) := Tab.ofP_code rfl
theorem t94 : T.fns 94 = some (.code a94) := Tab.ofP_code rfl
theorem t95 : T.fns 95 = some (.code a95) := Tab.ofP_code rfl
theorem t97 : T.fns 97 = some (.code a97) := Tab.ofP_code rfl
theorem t98 : T.fns 98 = some (.code a98) := Tab.ofP_code rfl
theorem t99 : T.fns 99 = some (.code a99) := Tab.ofP_code rfl
theorem t100 : T.fns 100 = some (.code a100) := Tab.ofP_code rfl
theorem t101 : T.fns 101 = some (.code a101) := Tab.ofP_code rfl
theorem t102 : T.fns 102 = some (.code a102) := Tab.ofP_code rfl
theorem t103 : T.fns 103 = some (.code a103) := Tab.ofP_code rfl
theorem t104 : T.fns 104 = some (.code a104) := Tab.ofP_code rfl
theorem t105 : T.fns 105 = some (.code a105) := Tab.ofP_code rfl
theorem t107 : T.fns 107 = some (.code a107) := Tab.ofP_code rfl
theorem t108 : T.fns 108 = some (.code a108) := Tab.ofP_code rfl
theorem t109 : T.fns 109 = some (.code a109) := Tab.ofP_code rfl
theorem t110 : T.fns 110 = some (.code a110) := Tab.ofP_code rfl
theorem t112 : T.fns 112 = some (.code a112) := Tab.ofP_code rfl
theorem t113 : T.fns 113 = some (.code a113) := Tab.ofP_code rfl
theorem t114 : T.fns 114 = some (.code a114) := Tab.ofP_code rfl
theorem t115 : T.fns 115 = some (.code a115) := Tab.ofP_code rfl
theorem t116 : T.fns 116 = some (.code a116) := Tab.ofP_code rfl
theorem t117 : T.fns 117 = some (.code a117) := Tab.ofP_code rfl
theorem t118 : T.fns 118 = some (.code a118) := Tab.ofP_code rfl
theorem t119 : T.fns 119 = some (.code a119) := Tab.ofP_code rfl
theorem t121 : T.fns 121 = some (.code a121) := Tab.ofP_code rfl
theorem t122 : T.fns 122 = some (.code a122) := Tab.ofP_code rfl
theorem t123 : T.fns 123 = some (.code a123) := Tab.ofP_code rfl
theorem t124 : T.fns 124 = some (.code a124) := Tab.ofP_code rfl
theorem t125 : T.fns 125 = some (.code a125) := Tab.ofP_code rfl
theorem t128 : T.fns 128 = some (.code a128) := Tab.ofP_code rfl
theorem t139 : T.fns 139 = some (.code a139) := Tab.ofP_code rfl
theorem t120 : T.fns 120 = some (.prim sortP) := Tab.ofP_prim rfl rfl
end Go.Proofs.Ytlcnoldkekcifaa
