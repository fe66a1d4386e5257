/-
  MADE BY PROGRAM (mkt.py): the functions compile to that code; the table.
-/
import Derived.Test.YthghcainodgnkaaGreatPcode1
import Derived.Test.YthghcainodgnkaaGreatChecked
import Derived.Test.YthghcainodgnkaaGreatAb8
set_option linter.unusedSimpArgs false
set_option linter.unusedVariables false
namespace Go.Proofs.YthghcainodgnkaaGreat
open Go.Ab
set_option maxRecDepth 100000
def sortL_ren : Go.Shelf.Ren := ⟨fun | 6 => 134 | 15 => 155 | 14 => 154 | 28 => 171 | 29 => 172 | 20 => 163 | 21 => 164 | 22 => 165 | 23 => 166 | 24 => 167 | 25 => 168 | 26 => 169 | 27 => 170 | 46 => 175 | 47 => 176 | 48 => 177 | 49 => 178 | 50 => 179 | 57 => 180 | n => n, fun | 22 => 91 | 24 => 90 | 25 => 145 | 3 => 3 | 39 => 87 | 0 => 0 | 53 => 162 | 55 => 164 | 4 => 4 | 46 => 167 | 45 => 166 | 50 => 32 | 5 => 5 | 9 => 9 | 66 => 173 | 70 => 177 | 76 => 179 | 77 => 180 | n => n, fun n => n⟩
open Go.Shelf Go.Proofs in
theorem sortL : SlLaysF0.n6 Tryz.prog sortL_ren := {
  mixed := by kernel_rfl,
  f6 := ⟨Tryz.f134.name, by kernel_rfl, Tryz.func134.trans (congrArg some (by kernel_rfl))⟩,
  f14 := ⟨Tryz.f154.name, by kernel_rfl, Tryz.func154.trans (congrArg some (by kernel_rfl))⟩,
  f15 := Tryz.func155.trans (congrArg some (by kernel_rfl)),
  f20 := ⟨Tryz.f163.name, by kernel_rfl, Tryz.func163.trans (congrArg some (by kernel_rfl))⟩,
  f21 := ⟨Tryz.f164.name, by kernel_rfl, Tryz.func164.trans (congrArg some (by kernel_rfl))⟩,
  f22 := ⟨Tryz.f165.name, by kernel_rfl, Tryz.func165.trans (congrArg some (by kernel_rfl))⟩,
  f23 := ⟨Tryz.f166.name, by kernel_rfl, Tryz.func166.trans (congrArg some (by kernel_rfl))⟩,
  f24 := ⟨Tryz.f167.name, by kernel_rfl, Tryz.func167.trans (congrArg some (by kernel_rfl))⟩,
  f25 := ⟨Tryz.f168.name, by kernel_rfl, Tryz.func168.trans (congrArg some (by kernel_rfl))⟩,
  f26 := ⟨Tryz.f169.name, by kernel_rfl, Tryz.func169.trans (congrArg some (by kernel_rfl))⟩,
  f27 := ⟨Tryz.f170.name, by kernel_rfl, Tryz.func170.trans (congrArg some (by kernel_rfl))⟩,
  f28 := Tryz.func171.trans (congrArg some (by kernel_rfl)),
  f29 := Tryz.func172.trans (congrArg some (by kernel_rfl)),
  f46 := ⟨Tryz.f175.name, by kernel_rfl, Tryz.func175.trans (congrArg some (by kernel_rfl))⟩,
  f47 := Tryz.func176.trans (congrArg some (by kernel_rfl)),
  f48 := Tryz.func177.trans (congrArg some (by kernel_rfl)),
  f49 := ⟨Tryz.f178.name, by kernel_rfl, Tryz.func178.trans (congrArg some (by kernel_rfl))⟩,
  f50 := ⟨Tryz.f179.name, by kernel_rfl, Tryz.func179.trans (congrArg some (by kernel_rfl))⟩,
  f57 := ⟨Tryz.f180.name, by kernel_rfl, Tryz.func180.trans (congrArg some (by kernel_rfl))⟩,
  t0 := Tryz.underlying0,
  a0 := Tryz.isAgg0,
  z0 := Tryz.sizeOf0,
  v0 := Tryz.zeroValue0,
  t3 := Tryz.underlying3,
  a3 := Tryz.isAgg3,
  z3 := Tryz.sizeOf3,
  v3 := Tryz.zeroValue3,
  t4 := Tryz.underlying4,
  a4 := Tryz.isAgg4,
  z4 := Tryz.sizeOf4,
  v4 := Tryz.zeroValue4,
  t5 := Tryz.underlying5,
  a5 := Tryz.isAgg5,
  z5 := Tryz.sizeOf5,
  v5 := Tryz.zeroValue5,
  t9 := Tryz.underlying9,
  a9 := Tryz.isAgg9,
  z9 := Tryz.sizeOf9,
  v9 := Tryz.zeroValue9,
  t22 := Tryz.underlying91,
  a22 := Tryz.isAgg91,
  z22 := Tryz.sizeOf91,
  v22 := Tryz.zeroValue91,
  t25 := Tryz.underlying145,
  a25 := Tryz.isAgg145,
  z25 := Tryz.sizeOf145,
  v25 := Tryz.zeroValue145,
  t39 := Tryz.underlying87,
  a39 := Tryz.isAgg87,
  z39 := Tryz.sizeOf87,
  v39 := Tryz.zeroValue87,
  t45 := Tryz.underlying166,
  a45 := Tryz.isAgg166,
  z45 := Tryz.sizeOf166,
  v45 := Tryz.zeroValue166,
  t46 := Tryz.underlying167,
  a46 := Tryz.isAgg167,
  z46 := Tryz.sizeOf167,
  v46 := Tryz.zeroValue167,
  t50 := Tryz.underlying32,
  a50 := Tryz.isAgg32,
  z50 := Tryz.sizeOf32,
  v50 := Tryz.zeroValue32,
  t53 := Tryz.underlying162,
  a53 := Tryz.isAgg162,
  z53 := Tryz.sizeOf162,
  v53 := Tryz.zeroValue162,
  t55 := Tryz.underlying164,
  a55 := Tryz.isAgg164,
  z55 := Tryz.sizeOf164,
  v55 := Tryz.zeroValue164,
  t66 := Tryz.underlying173,
  a66 := Tryz.isAgg173,
  z66 := Tryz.sizeOf173,
  v66 := Tryz.zeroValue173,
  t70 := Tryz.underlying177,
  a70 := Tryz.isAgg177,
  z70 := Tryz.sizeOf177,
  v70 := Tryz.zeroValue177,
  t76 := Tryz.underlying179,
  a76 := Tryz.isAgg179,
  z76 := Tryz.sizeOf179,
  v76 := Tryz.zeroValue179,
  t77 := Tryz.underlying180,
  a77 := Tryz.isAgg180,
  z77 := Tryz.sizeOf180,
  v77 := Tryz.zeroValue180 }
theorem c10 : Compiled Tryz.prog (10, a10) := ⟨Tryz.f10, n10, Tryz.func10, by kernel_rfl⟩
theorem c16 : Compiled Tryz.prog (16, a16) := ⟨Tryz.f16, n16, Tryz.func16, by kernel_rfl⟩
theorem c17 : Compiled Tryz.prog (17, a17) := ⟨Tryz.f17, n17, Tryz.func17, by kernel_rfl⟩
theorem c19 : Compiled Tryz.prog (19, a19) := ⟨Tryz.f19, n19, Tryz.func19, by kernel_rfl⟩
theorem c20 : Compiled Tryz.prog (20, a20) := ⟨Tryz.f20, n20, Tryz.func20, by kernel_rfl⟩
theorem c21 : Compiled Tryz.prog (21, a21) := ⟨Tryz.f21, n21, Tryz.func21, by kernel_rfl⟩
theorem c22 : Compiled Tryz.prog (22, a22) := ⟨Tryz.f22, n22, Tryz.func22, by kernel_rfl⟩
theorem c24 : Compiled Tryz.prog (24, a24) := ⟨Tryz.f24, n24, Tryz.func24, by kernel_rfl⟩
theorem c27 : Compiled Tryz.prog (27, a27) := ⟨Tryz.f27, n27, Tryz.func27, by kernel_rfl⟩
theorem c28 : Compiled Tryz.prog (28, a28) := ⟨Tryz.f28, n28, Tryz.func28, by kernel_rfl⟩
theorem c29 : Compiled Tryz.prog (29, a29) := ⟨Tryz.f29, n29, Tryz.func29, by kernel_rfl⟩
theorem c31 : Compiled Tryz.prog (31, a31) := ⟨Tryz.f31, n31, Tryz.func31, by kernel_rfl⟩
theorem c34 : Compiled Tryz.prog (34, a34) := ⟨Tryz.f34, n34, Tryz.func34, by kernel_rfl⟩
theorem c36 : Compiled Tryz.prog (36, a36) := ⟨Tryz.f36, n36, Tryz.func36, by kernel_rfl⟩
theorem c39 : Compiled Tryz.prog (39, a39) := ⟨Tryz.f39, n39, Tryz.func39, by kernel_rfl⟩
theorem c40 : Compiled Tryz.prog (40, a40) := ⟨Tryz.f40, n40, Tryz.func40, by kernel_rfl⟩
theorem c41 : Compiled Tryz.prog (41, a41) := ⟨Tryz.f41, n41, Tryz.func41, by kernel_rfl⟩
theorem c47 : Compiled Tryz.prog (47, a47) := ⟨Tryz.f47, n47, Tryz.func47, by kernel_rfl⟩
theorem c48 : Compiled Tryz.prog (48, a48) := ⟨Tryz.f48, n48, Tryz.func48, by kernel_rfl⟩
theorem c53 : Compiled Tryz.prog (53, a53) := ⟨Tryz.f53, n53, Tryz.func53, by kernel_rfl⟩
theorem c55 : Compiled Tryz.prog (55, a55) := ⟨Tryz.f55, n55, Tryz.func55, by kernel_rfl⟩
theorem c56 : Compiled Tryz.prog (56, a56) := ⟨Tryz.f56, n56, Tryz.func56, by kernel_rfl⟩
theorem c69 : Compiled Tryz.prog (69, a69) := ⟨Tryz.f69, n69, Tryz.func69, by kernel_rfl⟩
theorem c73 : Compiled Tryz.prog (73, a73) := ⟨Tryz.f73, n73, Tryz.func73, by kernel_rfl⟩
theorem c76 : Compiled Tryz.prog (76, a76) := ⟨Tryz.f76, n76, Tryz.func76, by kernel_rfl⟩
theorem c77 : Compiled Tryz.prog (77, a77) := ⟨Tryz.f77, n77, Tryz.func77, by kernel_rfl⟩
theorem c78 : Compiled Tryz.prog (78, a78) := ⟨Tryz.f78, n78, Tryz.func78, by kernel_rfl⟩
theorem c81 : Compiled Tryz.prog (81, a81) := ⟨Tryz.f81, n81, Tryz.func81, by kernel_rfl⟩
theorem c82 : Compiled Tryz.prog (82, a82) := ⟨Tryz.f82, n82, Tryz.func82, by kernel_rfl⟩
theorem c83 : Compiled Tryz.prog (83, a83) := ⟨Tryz.f83, n83, Tryz.func83, by kernel_rfl⟩
theorem c88 : Compiled Tryz.prog (88, a88) := ⟨Tryz.f88, n88, Tryz.func88, by kernel_rfl⟩
theorem c89 : Compiled Tryz.prog (89, a89) := ⟨Tryz.f89, n89, Tryz.func89, by kernel_rfl⟩
theorem c90 : Compiled Tryz.prog (90, a90) := ⟨Tryz.f90, n90, Tryz.func90, by kernel_rfl⟩
theorem c93 : Compiled Tryz.prog (93, a93) := ⟨Tryz.f93, n93, Tryz.func93, by kernel_rfl⟩
theorem c94 : Compiled Tryz.prog (94, a94) := ⟨Tryz.f94, n94, Tryz.func94, by kernel_rfl⟩
theorem c95 : Compiled Tryz.prog (95, a95) := ⟨Tryz.f95, n95, Tryz.func95, by kernel_rfl⟩
theorem c96 : Compiled Tryz.prog (96, a96) := ⟨Tryz.f96, n96, Tryz.func96, by kernel_rfl⟩
theorem c99 : Compiled Tryz.prog (99, a99) := ⟨Tryz.f99, n99, Tryz.func99, by kernel_rfl⟩
theorem c100 : Compiled Tryz.prog (100, a100) := ⟨Tryz.f100, n100, Tryz.func100, by kernel_rfl⟩
theorem c101 : Compiled Tryz.prog (101, a101) := ⟨Tryz.f101, n101, Tryz.func101, by kernel_rfl⟩
theorem c102 : Compiled Tryz.prog (102, a102) := ⟨Tryz.f102, n102, Tryz.func102, by kernel_rfl⟩
theorem c103 : Compiled Tryz.prog (103, a103) := ⟨Tryz.f103, n103, Tryz.func103, by kernel_rfl⟩
theorem c106 : Compiled Tryz.prog (106, a106) := ⟨Tryz.f106, n106, Tryz.func106, by kernel_rfl⟩
theorem c107 : Compiled Tryz.prog (107, a107) := ⟨Tryz.f107, n107, Tryz.func107, by kernel_rfl⟩
theorem c109 : Compiled Tryz.prog (109, a109) := ⟨Tryz.f109, n109, Tryz.func109, by kernel_rfl⟩
theorem c111 : Compiled Tryz.prog (111, a111) := ⟨Tryz.f111, n111, Tryz.func111, by kernel_rfl⟩
theorem c114 : Compiled Tryz.prog (114, a114) := ⟨Tryz.f114, n114, Tryz.func114, by kernel_rfl⟩
theorem c115 : Compiled Tryz.prog (115, a115) := ⟨Tryz.f115, n115, Tryz.func115, by kernel_rfl⟩
theorem c116 : Compiled Tryz.prog (116, a116) := ⟨Tryz.f116, n116, Tryz.func116, by kernel_rfl⟩
theorem c117 : Compiled Tryz.prog (117, a117) := ⟨Tryz.f117, n117, Tryz.func117, by kernel_rfl⟩
theorem c119 : Compiled Tryz.prog (119, a119) := ⟨Tryz.f119, n119, Tryz.func119, by kernel_rfl⟩
theorem c120 : Compiled Tryz.prog (120, a120) := ⟨Tryz.f120, n120, Tryz.func120, by kernel_rfl⟩
theorem c121 : Compiled Tryz.prog (121, a121) := ⟨Tryz.f121, n121, Tryz.func121, by kernel_rfl⟩
theorem c122 : Compiled Tryz.prog (122, a122) := ⟨Tryz.f122, n122, Tryz.func122, by kernel_rfl⟩
theorem c123 : Compiled Tryz.prog (123, a123) := ⟨Tryz.f123, n123, Tryz.func123, by kernel_rfl⟩
theorem c124 : Compiled Tryz.prog (124, a124) := ⟨Tryz.f124, n124, Tryz.func124, by kernel_rfl⟩
theorem c125 : Compiled Tryz.prog (125, a125) := ⟨Tryz.f125, n125, Tryz.func125, by kernel_rfl⟩
theorem c126 : Compiled Tryz.prog (126, a126) := ⟨Tryz.f126, n126, Tryz.func126, by kernel_rfl⟩
theorem c127 : Compiled Tryz.prog (127, a127) := ⟨Tryz.f127, n127, Tryz.func127, by kernel_rfl⟩
theorem c130 : Compiled Tryz.prog (130, a130) := ⟨Tryz.f130, n130, Tryz.func130, by kernel_rfl⟩
theorem c132 : Compiled Tryz.prog (132, a132) := ⟨Tryz.f132, n132, Tryz.func132, by kernel_rfl⟩
theorem c133 : Compiled Tryz.prog (133, a133) := ⟨Tryz.f133, n133, Tryz.func133, by kernel_rfl⟩
theorem c135 : Compiled Tryz.prog (135, a135) := ⟨Tryz.f135, n135, Tryz.func135, by kernel_rfl⟩
theorem c136 : Compiled Tryz.prog (136, a136) := ⟨Tryz.f136, n136, Tryz.func136, by kernel_rfl⟩
theorem c137 : Compiled Tryz.prog (137, a137) := ⟨Tryz.f137, n137, Tryz.func137, by kernel_rfl⟩
theorem c139 : Compiled Tryz.prog (139, a139) := ⟨Tryz.f139, n139, Tryz.func139, by kernel_rfl⟩
theorem c140 : Compiled Tryz.prog (140, a140) := ⟨Tryz.f140, n140, Tryz.func140, by kernel_rfl⟩
theorem c141 : Compiled Tryz.prog (141, a141) := ⟨Tryz.f141, n141, Tryz.func141, by kernel_rfl⟩
theorem c143 : Compiled Tryz.prog (143, a143) := ⟨Tryz.f143, n143, Tryz.func143, by kernel_rfl⟩
theorem c146 : Compiled Tryz.prog (146, a146) := ⟨Tryz.f146, n146, Tryz.func146, by kernel_rfl⟩
theorem c147 : Compiled Tryz.prog (147, a147) := ⟨Tryz.f147, n147, Tryz.func147, by kernel_rfl⟩
theorem c148 : Compiled Tryz.prog (148, a148) := ⟨Tryz.f148, n148, Tryz.func148, by kernel_rfl⟩
theorem c150 : Compiled Tryz.prog (150, a150) := ⟨Tryz.f150, n150, Tryz.func150, by kernel_rfl⟩
theorem c151 : Compiled Tryz.prog (151, a151) := ⟨Tryz.f151, n151, Tryz.func151, by kernel_rfl⟩
theorem c152 : Compiled Tryz.prog (152, a152) := ⟨Tryz.f152, n152, Tryz.func152, by kernel_rfl⟩
theorem c154 : Compiled Tryz.prog (154, a154) := ⟨Tryz.f154, n154, Tryz.func154, by kernel_rfl⟩
theorem c155 : Compiled Tryz.prog (155, a155) := ⟨Tryz.f155, n155, Tryz.func155, by kernel_rfl⟩
theorem c156 : Compiled Tryz.prog (156, a156) := ⟨Tryz.f156, n156, Tryz.func156, by kernel_rfl⟩
theorem c157 : Compiled Tryz.prog (157, a157) := ⟨Tryz.f157, n157, Tryz.func157, by kernel_rfl⟩
theorem c159 : Compiled Tryz.prog (159, a159) := ⟨Tryz.f159, n159, Tryz.func159, by kernel_rfl⟩
theorem c160 : Compiled Tryz.prog (160, a160) := ⟨Tryz.f160, n160, Tryz.func160, by kernel_rfl⟩
theorem c161 : Compiled Tryz.prog (161, a161) := ⟨Tryz.f161, n161, Tryz.func161, by kernel_rfl⟩
theorem c162 : Compiled Tryz.prog (162, a162) := ⟨Tryz.f162, n162, Tryz.func162, by kernel_rfl⟩
theorem c163 : Compiled Tryz.prog (163, a163) := ⟨Tryz.f163, n163, Tryz.func163, by kernel_rfl⟩
theorem c172 : Compiled Tryz.prog (172, a172) := ⟨Tryz.f172, n172, Tryz.func172, by kernel_rfl⟩
theorem c173 : Compiled Tryz.prog (173, a173) := ⟨Tryz.f173, n173, Tryz.func173, by kernel_rfl⟩
theorem c174 : Compiled Tryz.prog (174, a174) := ⟨Tryz.f174, n174, Tryz.func174, by kernel_rfl⟩
def fns : List (FuncId × AFn) := [(10, a10), (16, a16), (17, a17), (19, a19), (20, a20), (21, a21), (22, a22), (24, a24), (27, a27), (28, a28), (29, a29), (31, a31), (34, a34), (36, a36), (39, a39), (40, a40), (41, a41), (47, a47), (48, a48), (53, a53), (55, a55), (56, a56), (69, a69), (73, a73), (76, a76), (77, a77), (78, a78), (81, a81), (82, a82), (83, a83), (88, a88), (89, a89), (90, a90), (93, a93), (94, a94), (95, a95), (96, a96), (99, a99), (100, a100), (101, a101), (102, a102), (103, a103), (106, a106), (107, a107), (109, a109), (111, a111), (114, a114), (115, a115), (116, a116), (117, a117), (119, a119), (120, a120), (121, a121), (122, a122), (123, a123), (124, a124), (125, a125), (126, a126), (127, a127), (130, a130), (132, a132), (133, a133), (135, a135), (136, a136), (137, a137), (139, a139), (140, a140), (141, a141), (143, a143), (146, a146), (147, a147), (148, a148), (150, a150), (151, a151), (152, a152), (154, a154), (155, a155), (156, a156), (157, a157), (159, a159), (160, a160), (161, a161), (162, a162), (163, a163), (172, a172), (173, a173), (174, a174)]
def fns0 : List (FuncId × AFn) := [(77, a77), (119, a119), (135, a135), (136, a136), (137, a137), (156, a156), (173, a173)]
abbrev T0 : Tab := Tab.of fns0
theorem tabOk0 : TabOk Tryz.prog T0 := by
  refine Tab.of_ok fun x hx => ?_
  simp only [fns0, List.mem_cons, List.not_mem_nil, or_false] at hx
  rcases hx with rfl | rfl | rfl | rfl | rfl | rfl | rfl
  · exact c77
  · exact c119
  · exact c135
  · exact c136
  · exact c137
  · exact c156
  · exact c173
theorem u77 : T0.fns 77 = some (.code a77) := Tab.of_code rfl
theorem u119 : T0.fns 119 = some (.code a119) := Tab.of_code rfl
theorem u135 : T0.fns 135 = some (.code a135) := Tab.of_code rfl
theorem u136 : T0.fns 136 = some (.code a136) := Tab.of_code rfl
theorem u137 : T0.fns 137 = some (.code a137) := Tab.of_code rfl
theorem u156 : T0.fns 156 = some (.code a156) := Tab.of_code rfl
theorem u173 : T0.fns 173 = some (.code a173) := Tab.of_code rfl
theorem mixed : Tryz.prog.follows .mixedOrders = true := by kernel_rfl
noncomputable def sortP : List V → Nat → Stk → Option (V × Stk) := sortFPK T0 5
theorem sortP_ok : PrimOk Tryz.prog (134, sortP) := sortFK_ok mixed sortL Tryz.isAgg90 Tryz.sizeOf90 tabOk0
theorem c134 : Compiled Tryz.prog (134, a134) := ⟨Tryz.f134, n134, Tryz.func134, by kernel_rfl⟩
abbrev TE : Tab := Tab.of [(134, a134), (154, a154), (155, a155), (172, a172), (163, a163)]
theorem v134 : TE.fns 134 = some (.code a134) := Tab.of_code rfl
theorem v154 : TE.fns 154 = some (.code a154) := Tab.of_code rfl
theorem v155 : TE.fns 155 = some (.code a155) := Tab.of_code rfl
theorem v172 : TE.fns 172 = some (.code a172) := Tab.of_code rfl
theorem v163 : TE.fns 163 = some (.code a163) := Tab.of_code rfl
noncomputable def sortQ (args : List V) (lab : Nat) (s : Stk) : Option (V × Stk) := match args with
  | [.asl d l z 0 0 0, f] => den TE 134 [.asl d l z 0 0 0, f] lab s
  | args => sortP args lab s
theorem sortQ_ok : PrimOk Tryz.prog (134, sortQ) := by
  intro args lab s v s' h
  dsimp only at h
  unfold sortQ at h
  split at h
  · refine den_sound mixed (Tab.of_ok fun x hx => ?_) h
    simp only [List.mem_cons, List.not_mem_nil, or_false] at hx
    rcases hx with rfl | rfl | rfl | rfl | rfl
    · exact c134
    · exact c154
    · exact c155
    · exact c172
    · exact c163
  · exact sortP_ok _ _ _ _ _ h
noncomputable def prims : List (FuncId × (List V → Nat → Stk → Option (V × Stk))) := [(134, sortQ)]
noncomputable abbrev T : Tab := Tab.ofP fns prims
theorem tabOk : TabOk Tryz.prog T := by
  refine Tab.ofP_ok (fun x hx => ?_) (fun x hx => by simp only [prims, List.mem_cons, List.not_mem_nil, or_false] at hx; subst hx; exact sortQ_ok)
  simp only [fns, List.mem_cons, List.not_mem_nil, or_false] at hx
  rcases hx with rfl | rfl | rfl | rfl | rfl | rfl | rfl | rfl | rfl | rfl | rfl | rfl | rfl | rfl | rfl | rfl | rfl | rfl | rfl | rfl | rfl | rfl | rfl | rfl | rfl | rfl | rfl | rfl | rfl | rfl | rfl | rfl | rfl | rfl | rfl | rfl | rfl | rfl | rfl | rfl | rfl | rfl | rfl | rfl | rfl | rfl | rfl | rfl | rfl | rfl | rfl | rfl | rfl | rfl | rfl | rfl | rfl | rfl | rfl | rfl | rfl | rfl | rfl | rfl | rfl | rfl | rfl | rfl | rfl | rfl | rfl | rfl | rfl | rfl | rfl | rfl | rfl | rfl | rfl | rfl | rfl | rfl | rfl | rfl | rfl | rfl | rfl
  · exact c10
  · exact c16
  · exact c17
  · exact c19
  · exact c20
  · exact c21
  · exact c22
  · exact c24
  · exact c27
  · exact c28
  · exact c29
  · exact c31
  · exact c34
  · exact c36
  · exact c39
  · exact c40
  · exact c41
  · exact c47
  · exact c48
  · exact c53
  · exact c55
  · exact c56
  · exact c69
  · exact c73
  · exact c76
  · exact c77
  · exact c78
  · exact c81
  · exact c82
  · exact c83
  · exact c88
  · exact c89
  · exact c90
  · exact c93
  · exact c94
  · exact c95
  · exact c96
  · exact c99
  · exact c100
  · exact c101
  · exact c102
  · exact c103
  · exact c106
  · exact c107
  · exact c109
  · exact c111
  · exact c114
  · exact c115
  · exact c116
  · exact c117
  · exact c119
  · exact c120
  · exact c121
  · exact c122
  · exact c123
  · exact c124
  · exact c125
  · exact c126
  · exact c127
  · exact c130
  · exact c132
  · exact c133
  · exact c135
  · exact c136
  · exact c137
  · exact c139
  · exact c140
  · exact c141
  · exact c143
  · exact c146
  · exact c147
  · exact c148
  · exact c150
  · exact c151
  · exact c152
  · exact c154
  · exact c155
  · exact c156
  · exact c157
  · exact c159
  · exact c160
  · exact c161
  · exact c162
  · exact c163
  · exact c172
  · exact c173
  · exact c174
theorem t10 : T.fns 10 = some (.code a10) := Tab.ofP_code rfl
theorem t16 : T.fns 16 = some (.code a16) := Tab.ofP_code rfl
theorem t17 : T.fns 17 = some (.code a17) := Tab.ofP_code rfl
theorem t19 : T.fns 19 = some (.code a19) := Tab.ofP_code rfl
theorem t20 : T.fns 20 = some (.code a20) := Tab.ofP_code rfl
theorem t21 : T.fns 21 = some (.code a21) := Tab.ofP_code rfl
theorem t22 : T.fns 22 = some (.code a22) := Tab.ofP_code rfl
theorem t24 : T.fns 24 = some (.code a24) := Tab.ofP_code rfl
theorem t27 : T.fns 27 = some (.code a27) := Tab.ofP_code rfl
theorem t28 : T.fns 28 = some (.code a28) := Tab.ofP_code rfl
theorem t29 : T.fns 29 = some (.code a29) := Tab.ofP_code rfl
theorem t31 : T.fns 31 = some (.code a31) := Tab.ofP_code rfl
theorem t34 : T.fns 34 = some (.code a34) := Tab.ofP_code rfl
theorem t36 : T.fns 36 = some (.code a36) := Tab.ofP_code rfl
theorem t39 : T.fns 39 = some (.code a39) := Tab.ofP_code rfl
theorem t40 : T.fns 40 = some (.code a40) := Tab.ofP_code rfl
theorem t41 : T.fns 41 = some (.code a41) := Tab.ofP_code rfl
theorem t47 : T.fns 47 = some (.code a47) := Tab.ofP_code rfl
theorem t48 : T.fns 48 = some (.code a48) := Tab.ofP_code rfl
theorem t53 : T.fns 53 = some (.code a53) := Tab.ofP_code rfl
theorem t55 : T.fns 55 = some (.code a55) := Tab.ofP_code rfl
theorem t56 : T.fns 56 = some (.code a56) := Tab.ofP_code rfl
theorem t69 : T.fns 69 = some (.code a69) := Tab.ofP_code rfl
theorem t73 : T.fns 73 = some (.code a73) := Tab.ofP_code rfl
theorem t76 : T.fns 76 = some (.code a76) := Tab.ofP_code rfl
theorem t77 : T.fns 77 = some (.code a77) := Tab.ofP_code rfl
theorem t78 : T.fns 78 = some (.code a78) := Tab.ofP_code rfl
theorem t81 : T.fns 81 = some (.code a81) := Tab.ofP_code rfl
theorem t82 : T.fns 82 = some (.code a82) := Tab.ofP_code rfl
theorem t83 : T.fns 83 = some (.code a83) := Tab.ofP_code rfl
theorem t88 : T.fns 88 = some (.code a88) := Tab.ofP_code rfl
theorem t89 : T.fns 89 = some (.code a89) := Tab.ofP_code rfl
theorem t90 : T.fns 90 = some (.code a90) := Tab.ofP_code rfl
theorem t93 : T.fns 93 = some (.code a93) := Tab.ofP_code rfl
theorem t94 : T.fns 94 = some (.code a94) := Tab.ofP_code rfl
theorem t95 : T.fns 95 = some (.code a95) := Tab.ofP_code rfl
theorem t96 : T.fns 96 = some (.code a96) := Tab.ofP_code rfl
theorem t99 : T.fns 99 = some (.code a99) := Tab.ofP_code rfl
theorem t100 : T.fns 100 = some (.code a100) := Tab.ofP_code rfl
theorem t101 : T.fns 101 = some (.code a101) := Tab.ofP_code rfl
theorem t102 : T.fns 102 = some (.code a102) := Tab.ofP_code rfl
theorem t103 : T.fns 103 = some (.code a103) := Tab.ofP_code rfl
theorem t106 : T.fns 106 = some (.code a106) := Tab.ofP_code rfl
theorem t107 : T.fns 107 = some (.code a107) := Tab.ofP_code rfl
theorem t109 : T.fns 109 = some (.code a109) := Tab.ofP_code rfl
theorem t111 : T.fns 111 = some (.code a111) := Tab.ofP_code rfl
theorem t114 : T.fns 114 = some (.code a114) := Tab.ofP_code rfl
theorem t115 : T.fns 115 = some (.code a115) := Tab.ofP_code rfl
theorem t116 : T.fns 116 = some (.code a116) := Tab.ofP_code rfl
theorem t117 : T.fns 117 = some (.code a117) := Tab.ofP_code rfl
theorem t119 : T.fns 119 = some (.code a119) := Tab.ofP_code rfl
theorem t120 : T.fns 120 = some (.code a120) := Tab.ofP_code rfl
theorem t121 : T.fns 121 = some (.code a121) := Tab.ofP_code rfl
theorem t122 : T.fns 122 = some (.code a122) := Tab.ofP_code rfl
theorem t123 : T.fns 123 = some (.code a123) := Tab.ofP_code rfl
theorem t124 : T.fns 124 = some (.code a124) := Tab.ofP_code rfl
theorem t125 : T.fns 125 = some (.code a125) := Tab.ofP_code rfl
theorem t126 : T.fns 126 = some (.code a126) := Tab.ofP_code rfl
theorem t127 : T.fns 127 = some (.code a127) := Tab.ofP_code rfl
theorem t130 : T.fns 130 = some (.code a130) := Tab.ofP_code rfl
theorem t132 : T.fns 132 = some (.code a132) := Tab.ofP_code rfl
theorem t133 : T.fns 133 = some (.code a133) := Tab.ofP_code rfl
theorem t135 : T.fns 135 = some (.code a135) := Tab.ofP_code rfl
theorem t136 : T.fns 136 = some (.code a136) := Tab.ofP_code rfl
theorem t137 : T.fns 137 = some (.code a137) := Tab.ofP_code rfl
theorem t139 : T.fns 139 = some (.code a139) := Tab.ofP_code rfl
theorem t140 : T.fns 140 = some (.code a140) := Tab.ofP_code rfl
theorem t141 : T.fns 141 = some (.code a141) := Tab.ofP_code rfl
theorem t143 : T.fns 143 = some (.code a143) := Tab.ofP_code rfl
theorem t146 : T.fns 146 = some (.code a146) := Tab.ofP_code rfl
theorem t147 : T.fns 147 = some (.code a147) := Tab.ofP_code rfl
theorem t148 : T.fns 148 = some (.code a148) := Tab.ofP_code rfl
theorem t150 : T.fns 150 = some (.code a150) := Tab.ofP_code rfl
theorem t151 : T.fns 151 = some (.code a151) := Tab.ofP_code rfl
theorem t152 : T.fns 152 = some (.code a152) := Tab.ofP_code rfl
theorem t154 : T.fns 154 = some (.code a154) := Tab.ofP_code rfl
theorem t155 : T.fns 155 = some (.code a155) := Tab.ofP_code rfl
theorem t156 : T.fns 156 = some (.code a156) := Tab.ofP_code rfl
theorem t157 : T.fns 157 = some (.code a157) := Tab.ofP_code rfl
theorem t159 : T.fns 159 = some (.code a159) := Tab.ofP_code rfl
theorem t160 : T.fns 160 = some (.code a160) := Tab.ofP_code rfl
theorem t161 : T.fns 161 = some (.code a161) := Tab.ofP_code rfl
theorem t162 : T.fns 162 = some (.code a162) := Tab.ofP_code rfl
theorem t163 : T.fns 163 = some (.code a163) := Tab.ofP_code rfl
theorem t172 : T.fns 172 = some (.code a172) := Tab.ofP_code rfl
theorem t173 : T.fns 173 = some (.code a173) := Tab.ofP_code rfl
theorem t174 : T.fns 174 = some (.code a174) := Tab.ofP_code rfl
theorem t134 : T.fns 134 = some (.prim sortQ) := Tab.ofP_prim rfl rfl
end Go.Proofs.YthghcainodgnkaaGreat
