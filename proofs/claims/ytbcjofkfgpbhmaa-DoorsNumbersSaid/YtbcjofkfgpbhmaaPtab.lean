/-
  MADE BY PROGRAM (mkt.py): the functions compile to that code; the table.
-/
import Derived.Test.YtbcjofkfgpbhmaaPcode1
import Derived.Test.YtbcjofkfgpbhmaaChecked
import Derived.Test.YtbcjofkfgpbhmaaAb8
set_option linter.unusedSimpArgs false
set_option linter.unusedVariables false
namespace Go.Proofs.Ytbcjofkfgpbhmaa
open Go.Ab
set_option maxRecDepth 100000
def sortL_ren : Go.Shelf.Ren := ⟨fun | 6 => 91 | 15 => 107 | 14 => 106 | 28 => 118 | 29 => 119 | 20 => 110 | 21 => 111 | 22 => 112 | 23 => 113 | 24 => 114 | 25 => 115 | 26 => 116 | 27 => 117 | 46 => 130 | 47 => 131 | 48 => 132 | 49 => 133 | 50 => 134 | 57 => 138 | n => n, fun | 22 => 26 | 24 => 3 | 25 => 114 | 3 => 3 | 39 => 126 | 0 => 0 | 53 => 136 | 55 => 138 | 4 => 4 | 46 => 130 | 45 => 129 | 50 => 107 | 5 => 5 | 9 => 9 | 66 => 144 | 70 => 148 | 76 => 152 | 77 => 153 | n => n, fun n => n⟩
open Go.Shelf Go.Proofs in
theorem sortL : SlLaysF.n6 Try.prog sortL_ren := {
  mixed := by kernel_rfl,
  f6 := ⟨Try.f91.name, by kernel_rfl, Try.func91.trans (congrArg some (by kernel_rfl))⟩,
  f14 := ⟨Try.f106.name, by kernel_rfl, Try.func106.trans (congrArg some (by kernel_rfl))⟩,
  f15 := Try.func107.trans (congrArg some (by kernel_rfl)),
  f20 := ⟨Try.f110.name, by kernel_rfl, Try.func110.trans (congrArg some (by kernel_rfl))⟩,
  f21 := ⟨Try.f111.name, by kernel_rfl, Try.func111.trans (congrArg some (by kernel_rfl))⟩,
  f22 := ⟨Try.f112.name, by kernel_rfl, Try.func112.trans (congrArg some (by kernel_rfl))⟩,
  f23 := ⟨Try.f113.name, by kernel_rfl, Try.func113.trans (congrArg some (by kernel_rfl))⟩,
  f24 := ⟨Try.f114.name, by kernel_rfl, Try.func114.trans (congrArg some (by kernel_rfl))⟩,
  f25 := ⟨Try.f115.name, by kernel_rfl, Try.func115.trans (congrArg some (by kernel_rfl))⟩,
  f26 := ⟨Try.f116.name, by kernel_rfl, Try.func116.trans (congrArg some (by kernel_rfl))⟩,
  f27 := ⟨Try.f117.name, by kernel_rfl, Try.func117.trans (congrArg some (by kernel_rfl))⟩,
  f28 := Try.func118.trans (congrArg some (by kernel_rfl)),
  f29 := Try.func119.trans (congrArg some (by kernel_rfl)),
  f46 := ⟨Try.f130.name, by kernel_rfl, Try.func130.trans (congrArg some (by kernel_rfl))⟩,
  f47 := Try.func131.trans (congrArg some (by kernel_rfl)),
  f48 := Try.func132.trans (congrArg some (by kernel_rfl)),
  f49 := ⟨Try.f133.name, by kernel_rfl, Try.func133.trans (congrArg some (by kernel_rfl))⟩,
  f50 := ⟨Try.f134.name, by kernel_rfl, Try.func134.trans (congrArg some (by kernel_rfl))⟩,
  f57 := ⟨Try.f138.name, by kernel_rfl, Try.func138.trans (congrArg some (by kernel_rfl))⟩,
  t0 := Try.underlying0,
  a0 := Try.isAgg0,
  z0 := Try.sizeOf0,
  v0 := Try.zeroValue0,
  t3 := Try.underlying3,
  a3 := Try.isAgg3,
  z3 := Try.sizeOf3,
  v3 := Try.zeroValue3,
  t4 := Try.underlying4,
  a4 := Try.isAgg4,
  z4 := Try.sizeOf4,
  v4 := Try.zeroValue4,
  t5 := Try.underlying5,
  a5 := Try.isAgg5,
  z5 := Try.sizeOf5,
  v5 := Try.zeroValue5,
  t9 := Try.underlying9,
  a9 := Try.isAgg9,
  z9 := Try.sizeOf9,
  v9 := Try.zeroValue9,
  t22 := Try.underlying26,
  a22 := Try.isAgg26,
  z22 := Try.sizeOf26,
  v22 := Try.zeroValue26,
  a24 := Try.isAgg3,
  z24 := Try.sizeOf3,
  t25 := Try.underlying114,
  a25 := Try.isAgg114,
  z25 := Try.sizeOf114,
  v25 := Try.zeroValue114,
  t39 := Try.underlying126,
  a39 := Try.isAgg126,
  z39 := Try.sizeOf126,
  v39 := Try.zeroValue126,
  t45 := Try.underlying129,
  a45 := Try.isAgg129,
  z45 := Try.sizeOf129,
  v45 := Try.zeroValue129,
  t46 := Try.underlying130,
  a46 := Try.isAgg130,
  z46 := Try.sizeOf130,
  v46 := Try.zeroValue130,
  t50 := Try.underlying107,
  a50 := Try.isAgg107,
  z50 := Try.sizeOf107,
  v50 := Try.zeroValue107,
  t53 := Try.underlying136,
  a53 := Try.isAgg136,
  z53 := Try.sizeOf136,
  v53 := Try.zeroValue136,
  t55 := Try.underlying138,
  a55 := Try.isAgg138,
  z55 := Try.sizeOf138,
  v55 := Try.zeroValue138,
  t66 := Try.underlying144,
  a66 := Try.isAgg144,
  z66 := Try.sizeOf144,
  v66 := Try.zeroValue144,
  t70 := Try.underlying148,
  a70 := Try.isAgg148,
  z70 := Try.sizeOf148,
  v70 := Try.zeroValue148,
  t76 := Try.underlying152,
  a76 := Try.isAgg152,
  z76 := Try.sizeOf152,
  v76 := Try.zeroValue152,
  t77 := Try.underlying153,
  a77 := Try.isAgg153,
  z77 := Try.sizeOf153,
  v77 := Try.zeroValue153 }
def sortL2_ren : Go.Shelf.Ren := ⟨fun | 189 => 103 | 125 => 107 | 257 => 109 | 128 => 118 | 129 => 119 | 294 => 121 | 295 => 122 | 296 => 123 | 297 => 124 | 298 => 125 | 299 => 126 | 216 => 127 | 300 => 128 | 301 => 129 | 328 => 135 | 329 => 131 | 330 => 132 | 331 => 136 | 332 => 137 | 215 => 120 | 343 => 139 | n => n, fun | 28 => 26 | 3 => 3 | 46 => 126 | 0 => 0 | 51 => 136 | 53 => 138 | 4 => 4 | 183 => 130 | 182 => 129 | 131 => 107 | 5 => 5 | 9 => 9 | 218 => 144 | 222 => 148 | 228 => 152 | 229 => 153 | n => n, fun n => n⟩
open Go.Shelf Go.Proofs in
theorem sortL2 : Lays.n189 Try.prog sortL2_ren := {
  mixed := by kernel_rfl,
  f125 := Try.func107.trans (congrArg some (by kernel_rfl)),
  f128 := Try.func118.trans (congrArg some (by kernel_rfl)),
  f129 := Try.func119.trans (congrArg some (by kernel_rfl)),
  f189 := Try.func103.trans (congrArg some (by kernel_rfl)),
  f215 := Try.func120.trans (congrArg some (by kernel_rfl)),
  f216 := Try.func127.trans (congrArg some (by kernel_rfl)),
  f257 := Try.func109.trans (congrArg some (by kernel_rfl)),
  f294 := Try.func121.trans (congrArg some (by kernel_rfl)),
  f295 := Try.func122.trans (congrArg some (by kernel_rfl)),
  f296 := Try.func123.trans (congrArg some (by kernel_rfl)),
  f297 := Try.func124.trans (congrArg some (by kernel_rfl)),
  f298 := Try.func125.trans (congrArg some (by kernel_rfl)),
  f299 := Try.func126.trans (congrArg some (by kernel_rfl)),
  f300 := Try.func128.trans (congrArg some (by kernel_rfl)),
  f301 := Try.func129.trans (congrArg some (by kernel_rfl)),
  f328 := Try.func135.trans (congrArg some (by kernel_rfl)),
  f329 := Try.func131.trans (congrArg some (by kernel_rfl)),
  f330 := Try.func132.trans (congrArg some (by kernel_rfl)),
  f331 := Try.func136.trans (congrArg some (by kernel_rfl)),
  f332 := Try.func137.trans (congrArg some (by kernel_rfl)),
  f343 := Try.func139.trans (congrArg some (by kernel_rfl)),
  t0 := Try.underlying0,
  a0 := Try.isAgg0,
  z0 := Try.sizeOf0,
  v0 := Try.zeroValue0,
  t3 := Try.underlying3,
  a3 := Try.isAgg3,
  z3 := Try.sizeOf3,
  v3 := Try.zeroValue3,
  t4 := Try.underlying4,
  a4 := Try.isAgg4,
  z4 := Try.sizeOf4,
  v4 := Try.zeroValue4,
  t5 := Try.underlying5,
  a5 := Try.isAgg5,
  z5 := Try.sizeOf5,
  v5 := Try.zeroValue5,
  t9 := Try.underlying9,
  a9 := Try.isAgg9,
  z9 := Try.sizeOf9,
  v9 := Try.zeroValue9,
  t28 := Try.underlying26,
  a28 := Try.isAgg26,
  z28 := Try.sizeOf26,
  v28 := Try.zeroValue26,
  t46 := Try.underlying126,
  a46 := Try.isAgg126,
  z46 := Try.sizeOf126,
  v46 := Try.zeroValue126,
  t51 := Try.underlying136,
  a51 := Try.isAgg136,
  z51 := Try.sizeOf136,
  v51 := Try.zeroValue136,
  t53 := Try.underlying138,
  a53 := Try.isAgg138,
  z53 := Try.sizeOf138,
  v53 := Try.zeroValue138,
  t131 := Try.underlying107,
  a131 := Try.isAgg107,
  z131 := Try.sizeOf107,
  v131 := Try.zeroValue107,
  t182 := Try.underlying129,
  a182 := Try.isAgg129,
  z182 := Try.sizeOf129,
  v182 := Try.zeroValue129,
  t183 := Try.underlying130,
  a183 := Try.isAgg130,
  z183 := Try.sizeOf130,
  v183 := Try.zeroValue130,
  t218 := Try.underlying144,
  a218 := Try.isAgg144,
  z218 := Try.sizeOf144,
  v218 := Try.zeroValue144,
  t222 := Try.underlying148,
  a222 := Try.isAgg148,
  z222 := Try.sizeOf148,
  v222 := Try.zeroValue148,
  t228 := Try.underlying152,
  a228 := Try.isAgg152,
  z228 := Try.sizeOf152,
  v228 := Try.zeroValue152,
  t229 := Try.underlying153,
  a229 := Try.isAgg153,
  z229 := Try.sizeOf153,
  v229 := Try.zeroValue153 }
theorem c13 : Compiled Try.prog (13, a13) := ⟨Try.f13, n13, Try.func13, by kernel_rfl⟩
theorem c16 : Compiled Try.prog (16, a16) := ⟨Try.f16, n16, Try.func16, by kernel_rfl⟩
theorem c17 : Compiled Try.prog (17, a17) := ⟨Try.f17, n17, Try.func17, by kernel_rfl⟩
theorem c18 : Compiled Try.prog (18, a18) := ⟨Try.f18, n18, Try.func18, by kernel_rfl⟩
theorem c19 : Compiled Try.prog (19, a19) := ⟨Try.f19, n19, Try.func19, by kernel_rfl⟩
theorem c24 : Compiled Try.prog (24, a24) := ⟨Try.f24, n24, Try.func24, by kernel_rfl⟩
theorem c26 : Compiled Try.prog (26, a26) := ⟨Try.f26, n26, Try.func26, by kernel_rfl⟩
theorem c29 : Compiled Try.prog (29, a29) := ⟨Try.f29, n29, Try.func29, by kernel_rfl⟩
theorem c32 : Compiled Try.prog (32, a32) := ⟨Try.f32, n32, Try.func32, by kernel_rfl⟩
theorem c33 : Compiled Try.prog (33, a33) := ⟨Try.f33, n33, Try.func33, by kernel_rfl⟩
theorem c34 : Compiled Try.prog (34, a34) := ⟨Try.f34, n34, Try.func34, by kernel_rfl⟩
theorem c35 : Compiled Try.prog (35, a35) := ⟨Try.f35, n35, Try.func35, by kernel_rfl⟩
theorem c36 : Compiled Try.prog (36, a36) := ⟨Try.f36, n36, Try.func36, by kernel_rfl⟩
theorem c39 : Compiled Try.prog (39, a39) := ⟨Try.f39, n39, Try.func39, by kernel_rfl⟩
theorem c43 : Compiled Try.prog (43, a43) := ⟨Try.f43, n43, Try.func43, by kernel_rfl⟩
theorem c47 : Compiled Try.prog (47, a47) := ⟨Try.f47, n47, Try.func47, by kernel_rfl⟩
theorem c48 : Compiled Try.prog (48, a48) := ⟨Try.f48, n48, Try.func48, by kernel_rfl⟩
theorem c49 : Compiled Try.prog (49, a49) := ⟨Try.f49, n49, Try.func49, by kernel_rfl⟩
theorem c55 : Compiled Try.prog (55, a55) := ⟨Try.f55, n55, Try.func55, by kernel_rfl⟩
theorem c60 : Compiled Try.prog (60, a60) := ⟨Try.f60, n60, Try.func60, by kernel_rfl⟩
theorem c61 : Compiled Try.prog (61, a61) := ⟨Try.f61, n61, Try.func61, by kernel_rfl⟩
theorem c62 : Compiled Try.prog (62, a62) := ⟨Try.f62, n62, Try.func62, by kernel_rfl⟩
theorem c63 : Compiled Try.prog (63, a63) := ⟨Try.f63, n63, Try.func63, by kernel_rfl⟩
theorem c64 : Compiled Try.prog (64, a64) := ⟨Try.f64, n64, Try.func64, by kernel_rfl⟩
theorem c65 : Compiled Try.prog (65, a65) := ⟨Try.f65, n65, Try.func65, by kernel_rfl⟩
theorem c67 : Compiled Try.prog (67, a67) := ⟨Try.f67, n67, Try.func67, by kernel_rfl⟩
theorem c68 : Compiled Try.prog (68, a68) := ⟨Try.f68, n68, Try.func68, by kernel_rfl⟩
theorem c69 : Compiled Try.prog (69, a69) := ⟨Try.f69, n69, Try.func69, by kernel_rfl⟩
theorem c71 : Compiled Try.prog (71, a71) := ⟨Try.f71, n71, Try.func71, by kernel_rfl⟩
theorem c72 : Compiled Try.prog (72, a72) := ⟨Try.f72, n72, Try.func72, by kernel_rfl⟩
theorem c73 : Compiled Try.prog (73, a73) := ⟨Try.f73, n73, Try.func73, by kernel_rfl⟩
theorem c80 : Compiled Try.prog (80, a80) := ⟨Try.f80, n80, Try.func80, by kernel_rfl⟩
theorem c81 : Compiled Try.prog (81, a81) := ⟨Try.f81, n81, Try.func81, by kernel_rfl⟩
theorem c82 : Compiled Try.prog (82, a82) := ⟨Try.f82, n82, Try.func82, by kernel_rfl⟩
theorem c83 : Compiled Try.prog (83, a83) := ⟨Try.f83, n83, Try.func83, by kernel_rfl⟩
theorem c84 : Compiled Try.prog (84, a84) := ⟨Try.f84, n84, Try.func84, by kernel_rfl⟩
theorem c85 : Compiled Try.prog (85, a85) := ⟨Try.f85, n85, Try.func85, by kernel_rfl⟩
theorem c86 : Compiled Try.prog (86, a86) := ⟨Try.f86, n86, Try.func86, by kernel_rfl⟩
theorem c87 : Compiled Try.prog (87, a87) := ⟨Try.f87, n87, Try.func87, by kernel_rfl⟩
theorem c92 : Compiled Try.prog (92, a92) := ⟨Try.f92, n92, Try.func92, by kernel_rfl⟩
theorem c93 : Compiled Try.prog (93, a93) := ⟨Try.f93, n93, Try.func93, by kernel_rfl⟩
theorem c94 : Compiled Try.prog (94, a94) := ⟨Try.f94, n94, Try.func94, by kernel_rfl⟩
theorem c95 : Compiled Try.prog (95, a95) := ⟨Try.f95, n95, Try.func95, by kernel_rfl⟩
theorem c96 : Compiled Try.prog (96, a96) := ⟨Try.f96, n96, Try.func96, by kernel_rfl⟩
theorem c97 : Compiled Try.prog (97, a97) := ⟨Try.f97, n97, Try.func97, by kernel_rfl⟩
theorem c101 : Compiled Try.prog (101, a101) := ⟨Try.f101, n101, Try.func101, by kernel_rfl⟩
theorem c102 : Compiled Try.prog (102, a102) := ⟨Try.f102, n102, Try.func102, by kernel_rfl⟩
theorem c104 : Compiled Try.prog (104, a104) := ⟨Try.f104, n104, Try.func104, by kernel_rfl⟩
theorem c108 : Compiled Try.prog (108, a108) := ⟨Try.f108, n108, Try.func108, by kernel_rfl⟩
theorem c120 : Compiled Try.prog (120, a120) := ⟨Try.f120, n120, Try.func120, by kernel_rfl⟩
def fns : List (FuncId × AFn) := [(13, a13), (16, a16), (17, a17), (18, a18), (19, a19), (24, a24), (26, a26), (29, a29), (32, a32), (33, a33), (34, a34), (35, a35), (36, a36), (39, a39), (43, a43), (47, a47), (48, a48), (49, a49), (55, a55), (60, a60), (61, a61), (62, a62), (63, a63), (64, a64), (65, a65), (67, a67), (68, a68), (69, a69), (71, a71), (72, a72), (73, a73), (80, a80), (81, a81), (82, a82), (83, a83), (84, a84), (85, a85), (86, a86), (87, a87), (92, a92), (93, a93), (94, a94), (95, a95), (96, a96), (97, a97), (101, a101), (102, a102), (104, a104), (108, a108), (120, a120)]
def fns0 : List (FuncId × AFn) := [(64, a64), (92, a92), (93, a93), (94, a94), (108, a108), (120, a120)]
abbrev T0 : Tab := Tab.of fns0
theorem tabOk0 : TabOk Try.prog T0 := by
  refine Tab.of_ok fun x hx => ?_
  simp only [fns0, List.mem_cons, List.not_mem_nil, or_false] at hx
  rcases hx with rfl | rfl | rfl | rfl | rfl | rfl
  · exact c64
  · exact c92
  · exact c93
  · exact c94
  · exact c108
  · exact c120
theorem u64 : T0.fns 64 = some (.code a64) := Tab.of_code rfl
theorem u92 : T0.fns 92 = some (.code a92) := Tab.of_code rfl
theorem u93 : T0.fns 93 = some (.code a93) := Tab.of_code rfl
theorem u94 : T0.fns 94 = some (.code a94) := Tab.of_code rfl
theorem u108 : T0.fns 108 = some (.code a108) := Tab.of_code rfl
theorem u120 : T0.fns 120 = some (.code a120) := Tab.of_code rfl
theorem mixed : Try.prog.follows .mixedOrders = true := by kernel_rfl
noncomputable def sortP : List V → Nat → Stk → Option (V × Stk) := sortFP T0 false
theorem sortP_ok : PrimOk Try.prog (91, sortP) := sortF1_ok mixed sortL tabOk0
noncomputable def prims : List (FuncId × (List V → Nat → Stk → Option (V × Stk))) := [(91, sortP), (103, Go.Ab.sortP)]
noncomputable abbrev T : Tab := Tab.ofP fns prims
theorem tabOk : TabOk Try.prog T := by
  refine Tab.ofP_ok (fun x hx => ?_) (fun x hx => by simp only [prims, List.mem_cons, List.not_mem_nil, or_false] at hx; rcases hx with rfl | rfl; exact sortP_ok; exact Go.Ab.sortP_ok sortL2)
  simp only [fns, List.mem_cons, List.not_mem_nil, or_false] at hx
  rcases hx with rfl | rfl | rfl | rfl | rfl | rfl | rfl | rfl | rfl | rfl | rfl | rfl | rfl | rfl | rfl | rfl | rfl | rfl | rfl | rfl | rfl | rfl | rfl | rfl | rfl | rfl | rfl | rfl | rfl | rfl | rfl | rfl | rfl | rfl | rfl | rfl | rfl | rfl | rfl | rfl | rfl | rfl | rfl | rfl | rfl | rfl | rfl | rfl | rfl | rfl
  · exact c13
  · exact c16
  · exact c17
  · exact c18
  · exact c19
  · exact c24
  · exact c26
  · exact c29
  · exact c32
  · exact c33
  · exact c34
  · exact c35
  · exact c36
  · exact c39
  · exact c43
  · exact c47
  · exact c48
  · exact c49
  · exact c55
  · exact c60
  · exact c61
  · exact c62
  · exact c63
  · exact c64
  · exact c65
  · exact c67
  · exact c68
  · exact c69
  · exact c71
  · exact c72
  · exact c73
  · exact c80
  · exact c81
  · exact c82
  · exact c83
  · exact c84
  · exact c85
  · exact c86
  · exact c87
  · exact c92
  · exact c93
  · exact c94
  · exact c95
  · exact c96
  · exact c97
  · exact c101
  · exact c102
  · exact c104
  · exact c108
  · exact c120
theorem t13 : T.fns 13 = some (.code a13) := Tab.ofP_code rfl
theorem t16 : T.fns 16 = some (.code a16) := Tab.ofP_code rfl
theorem t17 : T.fns 17 = some (.code a17) := Tab.ofP_code rfl
theorem t18 : T.fns 18 = some (.code a18) := Tab.ofP_code rfl
theorem t19 : T.fns 19 = some (.code a19) := Tab.ofP_code rfl
theorem t24 : T.fns 24 = some (.code a24) := Tab.ofP_code rfl
theorem t26 : T.fns 26 = some (.code a26) := Tab.ofP_code rfl
theorem t29 : T.fns 29 = some (.code a29) := Tab.ofP_code rfl
theorem t32 : T.fns 32 = some (.code a32) := Tab.ofP_code rfl
theorem t33 : T.fns 33 = some (.code a33) := Tab.ofP_code rfl
theorem t34 : T.fns 34 = some (.code a34) := Tab.ofP_code rfl
theorem t35 : T.fns 35 = some (.code a35) := Tab.ofP_code rfl
theorem t36 : T.fns 36 = some (.code a36) := Tab.ofP_code rfl
theorem t39 : T.fns 39 = some (.code a39) := Tab.ofP_code rfl
theorem t43 : T.fns 43 = some (.code a43) := Tab.ofP_code rfl
theorem t47 : T.fns 47 = some (.code a47) := Tab.ofP_code rfl
theorem t48 : T.fns 48 = some (.code a48) := Tab.ofP_code rfl
theorem t49 : T.fns 49 = some (.code a49) := Tab.ofP_code rfl
theorem t55 : T.fns 55 = some (.code a55) := Tab.ofP_code rfl
theorem t60 : T.fns 60 = some (.code a60) := Tab.ofP_code rfl
theorem t61 : T.fns 61 = some (.code a61) := Tab.ofP_code rfl
theorem t62 : T.fns 62 = some (.code a62) := Tab.ofP_code rfl
theorem t63 : T.fns 63 = some (.code a63) := Tab.ofP_code rfl
theorem t64 : T.fns 64 = some (.code a64) := Tab.ofP_code rfl
theorem t65 : T.fns 65 = some (.code a65) := Tab.ofP_code rfl
theorem t67 : T.fns 67 = some (.code a67) := Tab.ofP_code rfl
theorem t68 : T.fns 68 = some (.code a68) := Tab.ofP_code rfl
theorem t69 : T.fns 69 = some (.code a69) := Tab.ofP_code rfl
theorem t71 : T.fns 71 = some (.code a71) := Tab.ofP_code rfl
theorem t72 : T.fns 72 = some (.code a72) := Tab.ofP_code rfl
theorem t73 : T.fns 73 = some (.code a73) := Tab.ofP_code rfl
theorem t80 : T.fns 80 = some (.code a80) := Tab.ofP_code rfl
theorem t81 : T.fns 81 = some (.code a81) := Tab.ofP_code rfl
theorem t82 : T.fns 82 = some (.code a82) := Tab.ofP_code rfl
theorem t83 : T.fns 83 = some (.code a83) := Tab.ofP_code rfl
theorem t84 : T.fns 84 = some (.code a84) := Tab.ofP_code rfl
theorem t85 : T.fns 85 = some (.code a85) := Tab.ofP_code rfl
theorem t86 : T.fns 86 = some (.code a86) := Tab.ofP_code rfl
theorem t87 : T.fns 87 = some (.code a87) := Tab.ofP_code rfl
theorem t92 : T.fns 92 = some (.code a92) := Tab.ofP_code rfl
theorem t93 : T.fns 93 = some (.code a93) := Tab.ofP_code rfl
theorem t94 : T.fns 94 = some (.code a94) := Tab.ofP_code rfl
theorem t95 : T.fns 95 = some (.code a95) := Tab.ofP_code rfl
theorem t96 : T.fns 96 = some (.code a96) := Tab.ofP_code rfl
theorem t97 : T.fns 97 = some (.code a97) := Tab.ofP_code rfl
theorem t101 : T.fns 101 = some (.code a101) := Tab.ofP_code rfl
theorem t102 : T.fns 102 = some (.code a102) := Tab.ofP_code rfl
theorem t104 : T.fns 104 = some (.code a104) := Tab.ofP_code rfl
theorem t108 : T.fns 108 = some (.code a108) := Tab.ofP_code rfl
theorem t120 : T.fns 120 = some (.code a120) := Tab.ofP_code rfl
theorem t91 : T.fns 91 = some (.prim sortP) := Tab.ofP_prim rfl rfl
theorem t103 : T.fns 103 = some (.prim Go.Ab.sortP) := Tab.ofP_prim rfl rfl
end Go.Proofs.Ytbcjofkfgpbhmaa
