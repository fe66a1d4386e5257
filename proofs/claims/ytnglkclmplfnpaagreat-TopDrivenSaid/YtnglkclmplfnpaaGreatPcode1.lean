/-
  MADE BY PROGRAM (mkt.py, out of what Gen.lean prints): the functions' code for the evaluator.
-/
import Derived.Test.YtnglkclmplfnpaaGreatAb7
set_option linter.unusedSimpArgs false
set_option linter.unusedVariables false
namespace Go.Proofs.YtnglkclmplfnpaaGreat
open Go.Ab
def zeroV(n:Nat):List V:=List.replicate n (i64 0)
@[simp] def d3l1:AC:=
 .seq (.seq (.region false [
 ao 114 (.mv (.t 12)),
 ao 115 (.mv (.t 2)),
 ao 116 (.mv (.t 10)),
 ao 117 (.idxs 1 (.t 115) (.t 116)),
 ao 118 (.load none (.t 117)),
 ao 119 (.len (.t 118)),
 ao 120 (.bin .lss (.t 114) (.t 119))] [1,2,3,7,8,9,10,11,12,120]) (.cond (.t 120) (.skip) (.exit 2))) (.seq (.block 3 (.seq (.region true (spl [
 ao 123 (.mv (.t 2)),
 ao 124 (.mv (.t 10)),
 ap 125 (.idxs 1 (.t 123) (.t 124)) [0,1],
 ap 126 (.load none (.t 125)) [2,0,1],
 ao 127 (.mv (.t 12)),
 ap 128 (.idxs 1 (.t 126) (.t 127)) [3,4,2,0,1],
 ap 129 (.load none (.t 128)) [5,3,4,2,0,1],
 ao 130 (.faddr 4 (.t 9)),
 ap 131 (.load none (.t 130)) [7],
 ao 132 (.mv (.t 12)),
 ap 133 (.idxs 2 (.t 131) (.t 132)) [8,9,7],
 ap 134 (.faddr 0 (.t 133)) [10,8,9,7],
 ap 135 (.load none (.t 134)) [11,10,8,9,7]] [
 ap 136 (.bin .lss (.t 129) (.t 135)) [6,12,5,3,4,2,0,1,11,10,8,9,7]]) [1,2,3,7,8,9,10,11,12,136]) (.cond (.t 136) (.seq (.region false [
 ao 137 (.call 9 []),
 ao 6 (.mv (.t 137))] [6]) (.ret)) (.skip)))) (.region false [
 ao 121 (.mv (.t 12)),
 ao 122 (.bin .add (.t 121) (.c (i64 1))),
 ao 12 (.mv (.t 122))] [1,2,3,7,8,9,10,11,12]))
def b3l1:AC:= .loop [1,2,3,7,8,9,10,11,12] [48,112,116,129,144,176] d3l1
@[simp] def d3l0:AC:=
 .seq (.seq (.region false [
 ao 70 (.mv (.t 10)),
 ao 71 (.mv (.t 1)),
 ao 72 (.len (.t 71)),
 ao 73 (.bin .lss (.t 70) (.t 72))] [1,2,3,7,8,9,10,73]) (.cond (.t 73) (.skip) (.exit 0))) (.seq (.block 1 (.seq (.seq (.region true (spl [
 ao 76 (.mv (.t 1)),
 ao 77 (.mv (.t 10)),
 ap 78 (.idxs 1 (.t 76) (.t 77)) [0,1],
 ap 79 (.load none (.t 78)) [2,0,1],
 ap 80 (.len (.t 79)) [3,2,0,1],
 ap 81 (.bin .gtr (.t 80) (.c (i64 40))) [4,3,2,0,1],
 ap 82 (.mv (.t 81)) [5,4,3,2,0,1],
 ag 83 (.mv (.t 2)) 82 false [6,5,4,3,2,0,1],
 ag 84 (.mv (.t 10)) 82 false [6,5,4,3,2,0,1],
 ag 85 (.idxs 1 (.t 83) (.t 84)) 82 false [7,8,6,5,4,3,2,0,1],
 ag 86 (.load none (.t 85)) 82 false [9,7,8,6,5,4,3,2,0,1],
 ag 87 (.len (.t 86)) 82 false [10,9,7,8,6,5,4,3,2,0,1],
 ag 88 (.bin .gtr (.t 87) (.c (i64 40))) 82 false [11,10,9,7,8,6,5,4,3,2,0,1],
 ap 89 (.pick (.t 82) (.c (.bool true)) (.t 88)) [12,11,10,9,7,8,6,5,4,3,2,0,1],
 ap 90 (.mv (.t 89)) [13,12,11,10,9,7,8,6,5,4,3,2,0,1],
 ag 91 (.load (some 5) (.t 9)) 90 false [14,13,12,11,10,9,7,8,6,5,4,3,2,0,1],
 ag 92 (.mv (.t 1)) 90 false [14,13,12,11,10,9,7,8,6,5,4,3,2,0,1],
 ag 93 (.mv (.t 10)) 90 false [14,13,12,11,10,9,7,8,6,5,4,3,2,0,1],
 ag 94 (.idxs 1 (.t 92) (.t 93)) 90 false [16,17,14,13,12,11,10,9,7,8,6,5,4,3,2,0,1],
 ag 95 (.load none (.t 94)) 90 false [18,16,17,14,13,12,11,10,9,7,8,6,5,4,3,2,0,1]] [
 ag 96 (.call 11 [(.t 91),(.t 95)]) 90 false [15,19,18,16,17,14,13,12,11,10,9,7,8,6,5,4,3,2,0,1],
 ag 97 (.un .not (.t 96)) 90 false [20,15,19,18,16,17,14,13,12,11,10,9,7,8,6,5,4,3,2,0,1],
 ap 98 (.pick (.t 90) (.c (.bool true)) (.t 97)) [21,20,15,19,18,16,17,14,13,12,11,10,9,7,8,6,5,4,3,2,0,1]]) [1,2,3,7,8,9,10,98]) (.cond (.t 98) (.seq (.region false [
 ao 99 (.call 9 []),
 ao 6 (.mv (.t 99))] [6]) (.ret)) (.skip))) (.seq (.region true (spl [
 ao 100 (.load (some 5) (.t 9)),
 ao 101 (.mv (.t 1)),
 ao 102 (.mv (.t 10)),
 ap 103 (.idxs 1 (.t 101) (.t 102)) [1,2],
 ap 104 (.load none (.t 103)) [3,1,2],
 ap 105 (.call 12 [(.t 100),(.t 104)]) [0,4,3,1,2],
 ao 11 (.alloc [(i64 0),(i64 0),(i64 0),(.sl .full 3 []),(.sl .full 2 [])])] [
 ⟨none, .store 5 (.t 11) (.t 105),none,[5,6,0,4,3,1,2],[]⟩]) [1,2,3,7,8,9,10,11]) (.seq (.seq (.region true (spl [
 ao 106 (.load (some 5) (.t 11)),
 ao 107 (.mv (.t 2)),
 ao 108 (.mv (.t 10)),
 ap 109 (.idxs 1 (.t 107) (.t 108)) [1,2],
 ap 110 (.load none (.t 109)) [3,1,2]] [
 ap 111 (.call 13 [(.t 106),(.t 110)]) [0,4,3,1,2],
 ap 112 (.un .not (.t 111)) [5,0,4,3,1,2]]) [1,2,3,7,8,9,10,11,112]) (.cond (.t 112) (.seq (.region false [
 ao 113 (.call 9 []),
 ao 6 (.mv (.t 113))] [6]) (.ret)) (.skip))) (.seq (.seq (.region false [
 ao 12 (.mv (.c (i64 0)))] [1,2,3,7,8,9,10,11,12]) (.block 2 (b3l1))) (.seq (.region true (spl [
 ao 139 (.load (some 5) (.t 3)),
 ao 140 (.mv (.t 1)),
 ao 141 (.mv (.t 10)),
 ap 142 (.bin .add (.t 141) (.c (i64 1))) [2],
 ap 143 (.slice 1 (.t 140) none (some (.t 142)) none) [1,3,2],
 ap 144 (.call 15 [(.t 143)]) [4,1,3,2],
 ao 145 (.mv (.t 2)),
 ao 146 (.mv (.t 10)),
 ap 147 (.bin .add (.t 146) (.c (i64 1))) [7],
 ap 148 (.slice 1 (.t 145) none (some (.t 147)) none) [6,8,7],
 ap 149 (.call 15 [(.t 148)]) [9,5,6,8,7,4,1,3,2],
 ap 150 (.call 14 [(.t 139),(.t 144),(.t 149)]) [0,10,9,5,6,8,7,4,1,3,2],
 ap 138 (.mv (.t 150)) [11,0,10,9,5,6,8,7,4,1,3,2],
 ap 151 (.ext (.t 138) 0) [12,11,0,10,9,5,6,8,7,4,1,3,2],
 ⟨(some 152), .ext (.t 138) 1,none,[12,11,0,10,9,5,6,8,7,4,1,3,2],[208]⟩,
 ao 13 (.alloc [(i64 0),(i64 0),(i64 0),(.sl .full 3 []),(.sl .full 2 [])]),
 ⟨none, .store 5 (.t 13) (.t 151),none,[13,15,12,11,0,10,9,5,6,8,7,4,1,3,2],[]⟩] [
 ap 14 (.mv (.t 152)) [14,16,13,15,12,11,0,10,9,5,6,8,7,4,1,3,2]]) [1,2,3,7,8,9,10,11,13,14]) (.seq (.region true (spl [
 ao 153 (.load (some 5) (.t 11)),
 ao 154 (.mv (.t 2)),
 ao 155 (.mv (.t 10)),
 ap 156 (.idxs 1 (.t 154) (.t 155)) [1,2],
 ap 157 (.load none (.t 156)) [3,1,2]] [
 ap 158 (.call 16 [(.t 153),(.t 157)]) [0,4,3,1,2],
 ⟨none, .store 5 (.t 9) (.t 158),none,[5,0,4,3,1,2],[]⟩]) [1,2,3,7,8,9,10,11,13,14]) (.seq (.seq (.region false [
 ao 159 (.mv (.t 14)),
 ao 160 (.bin .neq (.t 159) (.c (i64 0))),
 ao 161 (.mv (.t 160)),
 ag 162 (.load (some 5) (.t 13)) 161 false [],
 ag 163 (.load (some 5) (.t 9)) 161 false [],
 ag 164 (.call 17 [(.t 162),(.t 163)]) 161 false [],
 ag 165 (.un .not (.t 164)) 161 false [],
 ao 166 (.pick (.t 161) (.c (.bool true)) (.t 165))] [1,2,3,7,8,9,10,11,166]) (.cond (.t 166) (.seq (.region false [
 ao 6 (.mv (.c (.bool false)))] [6]) (.ret)) (.skip))) (.seq (.region false [
 ao 167 (.faddr 1 (.t 7)),
 ao 168 (.load none (.t 167)),
 ao 169 (.bin .add (.t 168) (.c (i64 1))),
 ao 170 (.faddr 1 (.t 7)),
 ⟨none, .store 1 (.t 170) (.t 169),none,[],[]⟩] [1,2,3,7,8,9,10,11]) (.seq (.region true (spl [
 ao 171 (.faddr 2 (.t 7)),
 ap 172 (.load none (.t 171)) [0],
 ao 173 (.load (some 5) (.t 11)),
 ap 174 (.call 18 [(.t 173)]) [2],
 ap 175 (.lit [(.sl .full 1 [])] 1 [(0,(.t 174))]) [3,2]] [
 ap 176 (.app 1 24 (.t 172) (.t 175)) [1,4,0,3,2],
 ap 177 (.faddr 2 (.t 7)) [5,1,4,0,3,2],
 ⟨none, .store 1 (.t 177) (.t 176),none,[6,5,1,4,0,3,2],[]⟩]) [1,2,3,7,8,9,10]) (.region false [
 ao 178 (.mv (.t 8)),
 ao 179 (.load (some 5) (.t 9)),
 ao 180 (.call 8 [(.t 179)]),
 ao 181 (.lit [(.sl .full 1 [])] 1 [(0,(.t 180))]),
 ao 182 (.app 1 24 (.t 178) (.t 181)),
 ao 8 (.mv (.t 182))] [1,2,3,7,8,9,10]))))))))))) (.region false [
 ao 74 (.mv (.t 10)),
 ao 75 (.bin .add (.t 74) (.c (i64 1))),
 ao 10 (.mv (.t 75))] [1,2,3,7,8,9,10]))
def b3l0:AC:= .loop [1,2,3,7,8,9,10] [48,112,116,129,144] d3l0
@[simp] def d3l2:AC:=
 .seq (.seq (.region false [
 ao 203 (.mv (.t 19)),
 ao 204 (.faddr 0 (.t 3)),
 ao 205 (.load none (.t 204)),
 ao 206 (.bin .lss (.t 203) (.t 205))] [3,7,8,17,18,19,206]) (.cond (.t 206) (.skip) (.exit 4))) (.seq (.block 5 (.region true (spl [
 ao 209 (.faddr 3 (.t 18)),
 ap 210 (.load none (.t 209)) [0],
 ao 211 (.mv (.t 19)),
 ao 212 (.mv (.t 8)),
 ap 213 (.idxs 1 (.t 212) (.c (i64 0))) [3],
 ap 214 (.load none (.t 213)) [4,3],
 ao 215 (.mv (.t 19)),
 ap 216 (.idxs 1 (.t 214) (.t 215)) [5,6,4,3],
 ap 217 (.load none (.t 216)) [7,5,6,4,3],
 ao 218 (.mv (.t 8)),
 ap 219 (.idxs 1 (.t 218) (.c (i64 0))) [9],
 ap 220 (.load none (.t 219)) [10,9],
 ao 221 (.mv (.t 19)),
 ap 222 (.idxs 1 (.t 220) (.t 221)) [11,12,10,9],
 ap 223 (.load none (.t 222)) [13,11,12,10,9],
 ap 224 (.build [(i64 0),(i64 0),(i64 0),(i64 0)] [(1,1,(.t 211)),(2,1,(.t 217)),(3,1,(.t 223))]) [2,8,14,7,5,6,4,3,13,11,12,10,9],
 ap 225 (.lit [(i64 0),(i64 0),(i64 0),(i64 0)] 1 [(0,(.t 224))]) [15,2,8,14,7,5,6,4,3,13,11,12,10,9]] [
 ap 226 (.app 4 32 (.t 210) (.t 225)) [1,16,0,15,2,8,14,7,5,6,4,3,13,11,12,10,9],
 ap 227 (.faddr 3 (.t 18)) [17,1,16,0,15,2,8,14,7,5,6,4,3,13,11,12,10,9],
 ⟨none, .store 1 (.t 227) (.t 226),none,[18,17,1,16,0,15,2,8,14,7,5,6,4,3,13,11,12,10,9],[]⟩]) [3,7,8,17,18,19])) (.region false [
 ao 207 (.mv (.t 19)),
 ao 208 (.bin .add (.t 207) (.c (i64 1))),
 ao 19 (.mv (.t 208))] [3,7,8,17,18,19]))
def b3l2:AC:= .loop [3,7,8,17,18,19] [48,112,144,288,293] d3l2
def b3:AC:=
 .seq (.region false [
 ao 3 (.box (.t 0)),
 ao 6 (.mv (.c (.bool false)))] [1,2,3]) (.seq (.seq (.region false [
 ao 29 (.load (some 5) (.t 3)),
 ao 30 (.call 4 [(.t 29)]),
 ao 31 (.mv (.t 30)),
 ag 32 (.load (some 5) (.t 3)) 31 false [],
 ag 33 (.call 5 [(.t 32)]) 31 false [],
 ag 34 (.bin .neq (.t 33) (.c (i64 0))) 31 false [],
 ao 35 (.pick (.t 31) (.c (.bool true)) (.t 34)),
 ao 36 (.mv (.t 35)),
 ag 37 (.load (some 5) (.t 3)) 36 false [],
 ag 38 (.call 6 [(.t 37)]) 36 false [],
 ag 39 (.un .not (.t 38)) 36 false [],
 ao 40 (.pick (.t 36) (.c (.bool true)) (.t 39)),
 ao 41 (.mv (.t 40)),
 ag 42 (.mv (.t 1)) 41 false [],
 ag 43 (.len (.t 42)) 41 false [],
 ag 44 (.mv (.t 2)) 41 false [],
 ag 45 (.len (.t 44)) 41 false [],
 ag 46 (.bin .neq (.t 43) (.t 45)) 41 false [],
 ao 47 (.pick (.t 41) (.c (.bool true)) (.t 46)),
 ao 48 (.mv (.t 47)),
 ag 49 (.mv (.t 1)) 48 false [],
 ag 50 (.len (.t 49)) 48 false [],
 ag 51 (.faddr 1 (.t 3)) 48 false [],
 ag 52 (.load none (.t 51)) 48 false [],
 ag 53 (.bin .gtr (.t 50) (.t 52)) 48 false [],
 ao 54 (.pick (.t 48) (.c (.bool true)) (.t 53)),
 ao 55 (.mv (.t 54)),
 ag 56 (.load (some 5) (.t 3)) 55 false [],
 ag 57 (.call 8 [(.t 56)]) 55 false [],
 ag 58 (.call 7 [(.t 57)]) 55 false [],
 ag 59 (.bin .gtr (.t 58) (.c (i64 40))) 55 false [],
 ao 60 (.pick (.t 55) (.c (.bool true)) (.t 59))] [1,2,3,60]) (.cond (.t 60) (.seq (.region false [
 ao 61 (.call 9 []),
 ao 6 (.mv (.t 61))] [6]) (.ret)) (.skip))) (.seq (.region false [
 ao 62 (.faddr 0 (.t 3)),
 ao 63 (.load none (.t 62)),
 ao 64 (.build [(i64 0),(i64 0),(.sl .full 1 []),(.sl .full 4 [])] [(0,1,(.t 63)),(1,1,(.c (i64 1)))]),
 ao 7 (.alloc [(i64 0),(i64 0),(.sl .full 1 []),(.sl .full 4 [])]),
 ⟨none, .store 4 (.t 7) (.t 64),none,[],[]⟩] [1,2,3,7]) (.seq (.region false [
 ao 65 (.load (some 5) (.t 3)),
 ao 66 (.call 8 [(.t 65)]),
 ao 67 (.lit [(.sl .full 1 [])] 1 [(0,(.t 66))]),
 ao 8 (.mv (.t 67))] [1,2,3,7,8]) (.seq (.region false [
 ao 68 (.load (some 5) (.t 3)),
 ao 69 (.call 10 [(.t 68)]),
 ao 9 (.alloc [(i64 0),(i64 0),(i64 0),(.sl .full 3 []),(.sl .full 2 [])]),
 ⟨none, .store 5 (.t 9) (.t 69),none,[],[]⟩] [1,2,3,7,8,9]) (.seq (.seq (.seq (.freeze [1104,2104,3104,4104,5104,6104,7104,8104,9104]) (.region false [
 ao 10 (.mv (.c (i64 0)))] [1,2,3,7,8,9,10])) (.block 0 (.seq (.thawc 7 2 116 1) (.seq (.thaw 8 129 1) (b3l0))))) (.seq (.region false [
 ao 184 (.load (some 4) (.t 7)),
 ao 185 (.call 20 [(.t 184)]),
 ao 186 (.mv (.t 8)),
 ao 187 (.call 15 [(.t 186)]),
 ao 188 (.call 19 [(.t 185),(.t 187)]),
 ao 183 (.mv (.t 188)),
 ao 189 (.ext (.t 183) 0),
 ao 190 (.ext (.t 183) 1),
 ao 15 (.mv (.t 189)),
 ao 16 (.mv (.t 190))] [3,7,8,15,16]) (.seq (.seq (.seq (.freeze [2960,3960,4960,5960,6960,7960,8960,9960,10960]) (.region false [
 ao 191 (.mv (.t 16)),
 ao 192 (.bin .neq (.t 191) (.c (i64 0))),
 ao 193 (.mv (.t 192)),
 ag 194 (.mv (.t 15)) 193 false [],
 ag 195 (.un .not (.t 194)) 193 false [],
 ao 196 (.pick (.t 193) (.c (.bool true)) (.t 195))] [3,7,8,196])) (.cond (.t 196) (.seq (.region false [
 ao 6 (.mv (.c (.bool false)))] [6]) (.ret)) (.skip))) (.seq (.region false [
 ao 197 (.mv (.t 8)),
 ao 198 (.idxs 1 (.t 197) (.c (i64 0))),
 ao 199 (.load none (.t 198)),
 ao 200 (.call 7 [(.t 199)]),
 ao 17 (.mv (.t 200))] [3,7,8,17]) (.seq (.region false [
 ao 201 (.load (some 4) (.t 7)),
 ao 202 (.call 20 [(.t 201)]),
 ao 18 (.alloc [(i64 0),(i64 0),(.sl .full 1 []),(.sl .full 4 [])]),
 ⟨none, .store 4 (.t 18) (.t 202),none,[],[]⟩] [3,7,8,17,18]) (.seq (.seq (.seq (.freeze [3232,4232,5232,6232,7232,8232,9232,10232,11232]) (.region false [
 ao 19 (.mv (.c (i64 0)))] [3,7,8,17,18,19])) (.block 4 (.seq (.thawc 18 3 293 4) (b3l2)))) (.seq (.region false [
 ao 228 (.faddr 1 (.t 7)),
 ao 229 (.load none (.t 228)),
 ao 230 (.bin .sub (.t 229) (.c (i64 1))),
 ao 20 (.mv (.t 230))] [3,7,8,17,18,20]) (.seq (.region false [
 ao 232 (.load (some 4) (.t 18)),
 ao 233 (.mv (.t 20)),
 ao 234 (.call 21 [(.t 232),(.t 233)]),
 ao 231 (.mv (.t 234)),
 ao 235 (.ext (.t 231) 0),
 ao 236 (.ext (.t 231) 1),
 ao 21 (.alloc [(i64 0),(i64 0)]),
 ⟨none, .store 2 (.t 21) (.t 235),none,[],[]⟩,
 ao 16 (.mv (.t 236))] [3,7,8,16,17,18,20,21]) (.seq (.region false [
 ao 238 (.load (some 4) (.t 18)),
 ao 239 (.mv (.t 20)),
 ao 240 (.call 22 [(.t 238),(.c (i64 0)),(.t 239)]),
 ao 237 (.mv (.t 240)),
 ao 241 (.ext (.t 237) 0),
 ao 242 (.ext (.t 237) 1),
 ao 22 (.alloc [(i64 0),(i64 0)]),
 ⟨none, .store 2 (.t 22) (.t 241),none,[],[]⟩,
 ao 23 (.mv (.t 242))] [3,7,8,16,17,18,20,21,22,23]) (.seq (.region false [
 ao 244 (.load (some 4) (.t 7)),
 ao 245 (.mv (.t 20)),
 ao 246 (.faddr 0 (.t 3)),
 ao 247 (.load none (.t 246)),
 ao 248 (.bin .sub (.t 247) (.c (i64 1))),
 ao 249 (.call 23 [(.t 244),(.t 245),(.t 248)]),
 ao 243 (.mv (.t 249)),
 ao 250 (.ext (.t 243) 0),
 ao 251 (.ext (.t 243) 1),
 ao 24 (.alloc [(i64 0),(i64 0)]),
 ⟨none, .store 2 (.t 24) (.t 250),none,[],[]⟩,
 ao 25 (.mv (.t 251))] [3,8,16,17,18,20,21,22,23,24,25]) (.seq (.region false [
 ao 253 (.load (some 4) (.t 18)),
 ao 254 (.mv (.t 20)),
 ao 255 (.faddr 0 (.t 3)),
 ao 256 (.load none (.t 255)),
 ao 257 (.bin .sub (.t 256) (.c (i64 1))),
 ao 258 (.call 23 [(.t 253),(.t 254),(.t 257)]),
 ao 252 (.mv (.t 258)),
 ao 259 (.ext (.t 252) 0),
 ao 260 (.ext (.t 252) 1),
 ao 26 (.alloc [(i64 0),(i64 0)]),
 ⟨none, .store 2 (.t 26) (.t 259),none,[],[]⟩,
 ao 27 (.mv (.t 260))] [3,8,16,17,20,21,22,23,24,25,26,27]) (.seq (.region true (spl [
 ao 261 (.mv (.t 8)),
 ao 262 (.mv (.t 20)),
 ap 263 (.idxs 1 (.t 261) (.t 262)) [0,1],
 ap 264 (.load none (.t 263)) [2,0,1],
 ao 265 (.faddr 0 (.t 3)),
 ap 266 (.load none (.t 265)) [4],
 ap 267 (.bin .sub (.t 266) (.c (i64 1))) [5,4]] [
 ap 268 (.idxs 1 (.t 264) (.t 267)) [3,6,2,0,1,5,4],
 ap 269 (.load none (.t 268)) [7,3,6,2,0,1,5,4],
 ap 28 (.mv (.t 269)) [8,7,3,6,2,0,1,5,4]]) [16,17,21,22,23,24,25,26,27,28]) (.seq (.seq (.region false [
 ao 270 (.mv (.t 16)),
 ao 271 (.bin .neq (.t 270) (.c (i64 0))),
 ao 272 (.mv (.t 271)),
 ag 273 (.mv (.t 23)) 272 false [],
 ag 274 (.bin .neq (.t 273) (.c (i64 0))) 272 false [],
 ao 275 (.pick (.t 272) (.c (.bool true)) (.t 274)),
 ao 276 (.mv (.t 275)),
 ag 277 (.mv (.t 25)) 276 false [],
 ag 278 (.bin .neq (.t 277) (.c (i64 0))) 276 false [],
 ao 279 (.pick (.t 276) (.c (.bool true)) (.t 278)),
 ao 280 (.mv (.t 279)),
 ag 281 (.mv (.t 27)) 280 false [],
 ag 282 (.bin .neq (.t 281) (.c (i64 0))) 280 false [],
 ao 283 (.pick (.t 280) (.c (.bool true)) (.t 282)),
 ao 284 (.mv (.t 283)),
 ag 285 (.load (some 2) (.t 21)) 284 false [],
 ag 286 (.mv (.t 17)) 284 false [],
 ag 287 (.mv (.t 17)) 284 false [],
 ag 288 (.build [(i64 0),(i64 0)] [(0,1,(.t 286)),(1,1,(.t 287))]) 284 false [],
 ag 289 (.eqa [true,true] true (.t 285) (.t 288)) 284 false [],
 ao 290 (.pick (.t 284) (.c (.bool true)) (.t 289)),
 ao 291 (.mv (.t 290)),
 ag 292 (.load (some 2) (.t 22)) 291 false [],
 ag 293 (.build [(i64 0),(i64 0)] []) 291 false [],
 ag 294 (.eqa [true,true] true (.t 292) (.t 293)) 291 false [],
 ao 295 (.pick (.t 291) (.c (.bool true)) (.t 294))] [24,26,28,295]) (.cond (.t 295) (.seq (.region false [
 ao 6 (.mv (.c (.bool false)))] [6]) (.ret)) (.skip))) (.seq (.region false [
 ao 296 (.faddr 0 (.t 24)),
 ao 297 (.load none (.t 296)),
 ao 298 (.faddr 0 (.t 26)),
 ao 299 (.load none (.t 298)),
 ao 300 (.bin .leq (.t 297) (.t 299)),
 ao 301 (.mv (.t 300)),
 ag 302 (.faddr 0 (.t 26)) 301 true [],
 ag 303 (.load none (.t 302)) 301 true [],
 ag 304 (.mv (.t 28)) 301 true [],
 ag 305 (.bin .leq (.t 303) (.t 304)) 301 true [],
 ao 306 (.pick (.t 301) (.t 305) (.c (.bool false))),
 ao 307 (.mv (.t 306)),
 ag 308 (.mv (.t 28)) 307 true [],
 ag 309 (.faddr 1 (.t 26)) 307 true [],
 ag 310 (.load none (.t 309)) 307 true [],
 ag 311 (.bin .leq (.t 308) (.t 310)) 307 true [],
 ao 312 (.pick (.t 307) (.t 311) (.c (.bool false))),
 ao 313 (.mv (.t 312)),
 ag 314 (.faddr 1 (.t 26)) 313 true [],
 ag 315 (.load none (.t 314)) 313 true [],
 ag 316 (.faddr 1 (.t 24)) 313 true [],
 ag 317 (.load none (.t 316)) 313 true [],
 ag 318 (.bin .leq (.t 315) (.t 317)) 313 true [],
 ao 319 (.pick (.t 313) (.t 318) (.c (.bool false))),
 ao 320 (.mv (.t 319)),
 ag 321 (.call 9 []) 320 true [],
 ao 322 (.pick (.t 320) (.t 321) (.c (.bool false))),
 ao 6 (.mv (.t 322))] [6]) (.ret)))))))))))))))))))
def a3:AFn:=⟨3,[.t 6],b3,false⟩
def n3:Ann:=⟨[[1,2,3],[1,2,3,60],[6],[1,2,3,7],[1,2,3,7,8],[1,2,3,7,8,9],[1,2,3,7,8,9,10],[1,2,3,7,8,9,10,73],[1,2,3,7,8,9,10,98],[6],[1,2,3,7,8,9,10,11],[1,2,3,7,8,9,10,11,112],[6],[1,2,3,7,8,9,10,11,12],[1,2,3,7,8,9,10,11,12,120],[1,2,3,7,8,9,10,11,12,136],[6],[1,2,3,7,8,9,10,11,12],[1,2,3,7,8,9,10,11,13,14],[1,2,3,7,8,9,10,11,13,14],[1,2,3,7,8,9,10,11,166],[6],[1,2,3,7,8,9,10,11],[1,2,3,7,8,9,10],[1,2,3,7,8,9,10],[1,2,3,7,8,9,10],[3,7,8,15,16],[3,7,8,196],[6],[3,7,8,17],[3,7,8,17,18],[3,7,8,17,18,19],[3,7,8,17,18,19,206],[3,7,8,17,18,19],[3,7,8,17,18,19],[3,7,8,17,18,20],[3,7,8,16,17,18,20,21],[3,7,8,16,17,18,20,21,22,23],[3,8,16,17,18,20,21,22,23,24,25],[3,8,16,17,20,21,22,23,24,25,26,27],[16,17,21,22,23,24,25,26,27,28],[24,26,28,295],[6],[6]],[⟨[.c 7 2 116 1, .t 8 129 1],[1,2,3,7,8,9,10],[48,112,116,129,144]⟩,⟨[],[1,2,3,7,8,9,10,11,12],[48,112,116,129,144,176]⟩,⟨[.c 18 3 293 4],[3,7,8,17,18,19],[48,112,144,288,293]⟩],[],[[],[],[],[],[],[],[1104,2104,3104,4104,5104,6104,7104,8104,9104],[],[],[],[],[],[],[],[],[],[],[],[],[],[],[],[],[],[],[],[],[2960,3960,4960,5960,6960,7960,8960,9960,10960],[],[],[],[3232,4232,5232,6232,7232,8232,9232,10232,11232],[],[],[],[],[],[],[],[],[],[],[],[]],[],false,[(287,3200),(286,3200),(281,4128),(277,3984),(273,3840),(270,3008),(27,4128),(260,4128),(259,4128),(252,4128),(25,3984),(251,3984),(250,3984),(243,3984),(23,3840),(242,3840),(241,3840),(237,3840),(236,3744),(235,3744),(231,3744),(17,3200),(194,3008),(191,3008),(16,3008),(15,3008),(190,3008),(189,3008),(183,3008),(159,2400),(14,2400),(152,2400),(151,2400),(138,2400),(6,976),(31,480)]⟩
def b4:AC:=
 .seq (.region false [
 ao 1 (.box (.t 0)),
 ao 2 (.mv (.c (.bool false)))] [1]) (.seq (.region false [
 ao 3 (.faddr 3 (.t 1)),
 ao 4 (.load none (.t 3)),
 ao 5 (.len (.t 4)),
 ao 6 (.bin .gtr (.t 5) (.c (i64 40))),
 ao 7 (.mv (.t 6)),
 ag 8 (.faddr 4 (.t 1)) 7 false [],
 ag 9 (.load none (.t 8)) 7 false [],
 ag 10 (.len (.t 9)) 7 false [],
 ag 11 (.bin .gtr (.t 10) (.c (i64 40))) 7 false [],
 ao 12 (.pick (.t 7) (.c (.bool true)) (.t 11)),
 ao 2 (.mv (.t 12))] [2]) (.ret))
def a4:AFn:=⟨1,[.t 2],b4,false⟩
def n4:Ann:=⟨[[1],[2]],[],[],[],[],false,[]⟩
@[simp] def d5l0:AC:=
 .seq (.seq (.region false [
 ao 35 (.mv (.t 3)),
 ao 36 (.faddr 3 (.t 1)),
 ao 37 (.load none (.t 36)),
 ao 38 (.len (.t 37)),
 ao 39 (.bin .lss (.t 35) (.t 38))] [1,3,39]) (.cond (.t 39) (.skip) (.exit 0))) (.seq (.block 1 (.seq (.region false [
 ao 42 (.faddr 3 (.t 1)),
 ao 43 (.load none (.t 42)),
 ao 44 (.mv (.t 3)),
 ao 45 (.idxs 3 (.t 43) (.t 44)),
 ao 46 (.load (some 3) (.t 45)),
 ao 4 (.alloc [(i64 0),(i64 0),(.bool false)]),
 ⟨none, .store 3 (.t 4) (.t 46),none,[],[]⟩] [1,3,4]) (.seq (.region false [
 ao 47 (.load (some 5) (.t 1)),
 ao 48 (.faddr 0 (.t 4)),
 ao 49 (.load none (.t 48)),
 ao 50 (.call 25 [(.t 47),(.t 49)]),
 ao 51 (.un .not (.t 50)),
 ao 52 (.mv (.t 51)),
 ag 53 (.load (some 5) (.t 1)) 52 false [],
 ag 54 (.faddr 1 (.t 4)) 52 false [],
 ag 55 (.load none (.t 54)) 52 false [],
 ag 56 (.call 25 [(.t 53),(.t 55)]) 52 false [],
 ag 57 (.un .not (.t 56)) 52 false [],
 ao 58 (.pick (.t 52) (.c (.bool true)) (.t 57)),
 ao 59 (.mv (.t 58)),
 ag 60 (.faddr 0 (.t 4)) 59 false [],
 ag 61 (.load none (.t 60)) 59 false [],
 ag 62 (.faddr 1 (.t 4)) 59 false [],
 ag 63 (.load none (.t 62)) 59 false [],
 ag 64 (.bin .eql (.t 61) (.t 63)) 59 false [],
 ao 65 (.pick (.t 59) (.c (.bool true)) (.t 64))] [1,3,65]) (.cond (.t 65) (.seq (.region false [
 ao 2 (.mv (.c (i64 30)))] [2]) (.ret)) (.skip))))) (.region false [
 ao 40 (.mv (.t 3)),
 ao 41 (.bin .add (.t 40) (.c (i64 1))),
 ao 3 (.mv (.t 41))] [1,3]))
def b5l0:AC:= .loop [1,3] [16,96,144,224,320,1296,1376] d5l0
@[simp] def d5l1:AC:=
 .seq (.seq (.region false [
 ao 66 (.mv (.t 5)),
 ao 67 (.faddr 4 (.t 1)),
 ao 68 (.load none (.t 67)),
 ao 69 (.len (.t 68)),
 ao 70 (.bin .lss (.t 66) (.t 69))] [1,5,70]) (.cond (.t 70) (.skip) (.exit 2))) (.seq (.block 3 (.seq (.region false [
 ao 73 (.faddr 4 (.t 1)),
 ao 74 (.load none (.t 73)),
 ao 75 (.mv (.t 5)),
 ao 76 (.idxs 2 (.t 74) (.t 75)),
 ao 77 (.load (some 2) (.t 76)),
 ao 6 (.alloc [(i64 0),(i64 0)]),
 ⟨none, .store 2 (.t 6) (.t 77),none,[],[]⟩] [1,5,6]) (.seq (.region false [
 ao 78 (.load (some 5) (.t 1)),
 ao 79 (.faddr 0 (.t 6)),
 ao 80 (.load none (.t 79)),
 ao 81 (.call 25 [(.t 78),(.t 80)]),
 ao 82 (.un .not (.t 81)),
 ao 83 (.mv (.t 82)),
 ag 84 (.faddr 1 (.t 6)) 83 false [],
 ag 85 (.load none (.t 84)) 83 false [],
 ag 86 (.call 24 [(.t 85),(.c (i64 0)),(.c (i64 99))]) 83 false [],
 ag 87 (.un .not (.t 86)) 83 false [],
 ao 88 (.pick (.t 83) (.c (.bool true)) (.t 87))] [1,5,88]) (.cond (.t 88) (.seq (.region false [
 ao 2 (.mv (.c (i64 30)))] [2]) (.ret)) (.skip))))) (.region false [
 ao 71 (.mv (.t 5)),
 ao 72 (.bin .add (.t 71) (.c (i64 1))),
 ao 5 (.mv (.t 72))] [1,5]))
def b5l1:AC:= .loop [1,5] [16,64,144,224,320,800,896] d5l1
def b5:AC:=
 .seq (.region false [
 ao 1 (.box (.t 0)),
 ao 2 (.mv (.c (i64 0)))] [1]) (.seq (.seq (.region false [
 ao 7 (.faddr 0 (.t 1)),
 ao 8 (.load none (.t 7)),
 ao 9 (.call 24 [(.t 8),(.c (i64 1)),(.c (i64 4))]),
 ao 10 (.un .not (.t 9)),
 ao 11 (.mv (.t 10)),
 ag 12 (.faddr 1 (.t 1)) 11 false [],
 ag 13 (.load none (.t 12)) 11 false [],
 ag 14 (.call 24 [(.t 13),(.c (i64 0)),(.c (i64 4))]) 11 false [],
 ag 15 (.un .not (.t 14)) 11 false [],
 ao 16 (.pick (.t 11) (.c (.bool true)) (.t 15)),
 ao 17 (.mv (.t 16)),
 ag 18 (.faddr 2 (.t 1)) 17 false [],
 ag 19 (.load none (.t 18)) 17 false [],
 ag 20 (.call 24 [(.t 19),(.c (i64 0)),(.c (i64 3))]) 17 false [],
 ag 21 (.un .not (.t 20)) 17 false [],
 ao 22 (.pick (.t 17) (.c (.bool true)) (.t 21)),
 ao 23 (.mv (.t 22)),
 ag 24 (.faddr 3 (.t 1)) 23 false [],
 ag 25 (.load none (.t 24)) 23 false [],
 ag 26 (.len (.t 25)) 23 false [],
 ag 27 (.bin .gtr (.t 26) (.c (i64 5))) 23 false [],
 ao 28 (.pick (.t 23) (.c (.bool true)) (.t 27)),
 ao 29 (.mv (.t 28)),
 ag 30 (.faddr 4 (.t 1)) 29 false [],
 ag 31 (.load none (.t 30)) 29 false [],
 ag 32 (.len (.t 31)) 29 false [],
 ag 33 (.bin .gtr (.t 32) (.c (i64 3))) 29 false [],
 ao 34 (.pick (.t 29) (.c (.bool true)) (.t 33))] [1,34]) (.cond (.t 34) (.seq (.region false [
 ao 2 (.mv (.c (i64 30)))] [2]) (.ret)) (.skip))) (.seq (.seq (.region false [
 ao 3 (.mv (.c (i64 0)))] [1,3]) (.block 0 (b5l0))) (.seq (.seq (.region false [
 ao 5 (.mv (.c (i64 0)))] [1,5]) (.block 2 (b5l1))) (.seq (.region false [
 ao 2 (.mv (.c (i64 0)))] [2]) (.ret)))))
def a5:AFn:=⟨1,[.t 2],b5,false⟩
def n5:Ann:=⟨[[1],[1,34],[2],[1,3],[1,3,39],[1,3,4],[1,3,65],[2],[1,3],[1,5],[1,5,70],[1,5,6],[1,5,88],[2],[1,5],[2]],[⟨[],[1,3],[16,96,144,224,320,1296,1376]⟩,⟨[],[1,5],[16,64,144,224,320,800,896]⟩],[],[],[],false,[]⟩
@[simp] def d6l0:AC:=
 .seq (.seq (.region false [
 ao 11 (.mv (.t 3)),
 ao 12 (.faddr 3 (.t 1)),
 ao 13 (.load none (.t 12)),
 ao 14 (.len (.t 13)),
 ao 15 (.bin .lss (.t 11) (.t 14))] [1,3,15]) (.cond (.t 15) (.skip) (.exit 0))) (.seq (.block 1 (.seq (.region false [
 ao 18 (.faddr 3 (.t 1)),
 ao 19 (.load none (.t 18)),
 ao 20 (.mv (.t 3)),
 ao 21 (.idxs 3 (.t 19) (.t 20)),
 ao 22 (.faddr 0 (.t 21)),
 ao 23 (.load none (.t 22)),
 ao 24 (.mv (.t 3)),
 ao 25 (.bin .neq (.t 23) (.t 24)),
 ao 26 (.mv (.t 25)),
 ag 27 (.faddr 3 (.t 1)) 26 false [],
 ag 28 (.load none (.t 27)) 26 false [],
 ag 29 (.mv (.t 3)) 26 false [],
 ag 30 (.idxs 3 (.t 28) (.t 29)) 26 false [],
 ag 31 (.faddr 1 (.t 30)) 26 false [],
 ag 32 (.load none (.t 31)) 26 false [],
 ag 33 (.mv (.t 3)) 26 false [],
 ag 34 (.bin .add (.t 33) (.c (i64 1))) 26 false [],
 ag 35 (.bin .neq (.t 32) (.t 34)) 26 false [],
 ao 36 (.pick (.t 26) (.c (.bool true)) (.t 35))] [1,3,36]) (.cond (.t 36) (.seq (.region false [
 ao 2 (.mv (.c (.bool false)))] [2]) (.ret)) (.skip)))) (.region false [
 ao 16 (.mv (.t 3)),
 ao 17 (.bin .add (.t 16) (.c (i64 1))),
 ao 3 (.mv (.t 17))] [1,3]))
def b6l0:AC:= .loop [1,3] [16] d6l0
def b6:AC:=
 .seq (.region false [
 ao 1 (.box (.t 0)),
 ao 2 (.mv (.c (.bool false)))] [1]) (.seq (.seq (.region false [
 ao 4 (.faddr 3 (.t 1)),
 ao 5 (.load none (.t 4)),
 ao 6 (.len (.t 5)),
 ao 7 (.faddr 0 (.t 1)),
 ao 8 (.load none (.t 7)),
 ao 9 (.bin .sub (.t 8) (.c (i64 1))),
 ao 10 (.bin .neq (.t 6) (.t 9))] [1,10]) (.cond (.t 10) (.seq (.region false [
 ao 2 (.mv (.c (.bool false)))] [2]) (.ret)) (.skip))) (.seq (.seq (.region false [
 ao 3 (.mv (.c (i64 0)))] [1,3]) (.block 0 (b6l0))) (.seq (.region false [
 ao 2 (.mv (.c (.bool true)))] [2]) (.ret))))
def a6:AFn:=⟨1,[.t 2],b6,false⟩
def n6:Ann:=⟨[[1],[1,10],[2],[1,3],[1,3,15],[1,3,36],[2],[1,3],[2]],[⟨[],[1,3],[16]⟩],[],[],[],false,[]⟩
@[simp] def d7l0:AC:=
 .seq (.seq (.region false [
 ao 5 (.mv (.t 4)),
 ao 6 (.mv (.t 0)),
 ao 7 (.len (.t 6)),
 ao 8 (.bin .lss (.t 5) (.t 7))] [0,3,4,8]) (.cond (.t 8) (.skip) (.exit 0))) (.seq (.block 1 (.region false [
 ao 11 (.mv (.t 3)),
 ao 12 (.mv (.t 0)),
 ao 13 (.mv (.t 4)),
 ao 14 (.idxs 1 (.t 12) (.t 13)),
 ao 15 (.load none (.t 14)),
 ao 16 (.bin .add (.t 11) (.t 15)),
 ao 3 (.mv (.t 16))] [0,3,4])) (.region false [
 ao 9 (.mv (.t 4)),
 ao 10 (.bin .add (.t 9) (.c (i64 1))),
 ao 4 (.mv (.t 10))] [0,3,4]))
def b7l0:AC:= .loop [0,3,4] [] d7l0
def b7:AC:=
 .seq (.region false [
 ao 2 (.mv (.c (i64 0)))] [0]) (.seq (.region false [
 ao 3 (.mv (.c (i64 0)))] [0,3]) (.seq (.seq (.region false [
 ao 4 (.mv (.c (i64 0)))] [0,3,4]) (.block 0 (b7l0))) (.seq (.region false [
 ao 17 (.mv (.t 3)),
 ao 2 (.mv (.t 17))] [2]) (.ret))))
def a7:AFn:=⟨1,[.t 2],b7,false⟩
def n7:Ann:=⟨[[0],[0,3],[0,3,4],[0,3,4,8],[0,3,4],[0,3,4],[2]],[⟨[],[0,3,4],[]⟩],[],[],[],false,[]⟩
@[simp] def d8l0:AC:=
 .seq (.seq (.region false [
 ao 8 (.mv (.t 4)),
 ao 9 (.faddr 4 (.t 1)),
 ao 10 (.load none (.t 9)),
 ao 11 (.len (.t 10)),
 ao 12 (.bin .lss (.t 8) (.t 11))] [1,3,4,12]) (.cond (.t 12) (.skip) (.exit 0))) (.seq (.block 1 (.region true (spl [
 ao 15 (.mv (.t 3)),
 ao 16 (.faddr 4 (.t 1)),
 ap 17 (.load none (.t 16)) [1],
 ao 18 (.mv (.t 4)),
 ap 19 (.idxs 2 (.t 17) (.t 18)) [2,3,1],
 ap 20 (.faddr 0 (.t 19)) [4,2,3,1],
 ap 21 (.load none (.t 20)) [5,4,2,3,1],
 ap 22 (.idxs 1 (.t 15) (.t 21)) [0,6,5,4,2,3,1],
 ap 23 (.load none (.t 22)) [7,0,6,5,4,2,3,1],
 ao 24 (.faddr 4 (.t 1)),
 ap 25 (.load none (.t 24)) [9],
 ao 26 (.mv (.t 4)),
 ap 27 (.idxs 2 (.t 25) (.t 26)) [10,11,9],
 ap 28 (.faddr 1 (.t 27)) [12,10,11,9],
 ap 29 (.load none (.t 28)) [13,12,10,11,9]] [
 ap 30 (.bin .add (.t 23) (.t 29)) [8,14,7,0,6,5,4,2,3,1,13,12,10,11,9],
 ap 31 (.idxs 1 (.t 15) (.t 21)) [15,8,14,7,0,6,5,4,2,3,1,13,12,10,11,9],
 ⟨none, .store 1 (.t 31) (.t 30),none,[16,15,8,14,7,0,6,5,4,2,3,1,13,12,10,11,9],[]⟩]) [1,3,4])) (.region false [
 ao 13 (.mv (.t 4)),
 ao 14 (.bin .add (.t 13) (.c (i64 1))),
 ao 4 (.mv (.t 14))] [1,3,4]))
def b8l0:AC:= .loop [1,3,4] [16,112] d8l0
def b8:AC:=
 .seq (.region false [
 ao 1 (.box (.t 0)),
 ao 2 (.mv (.c (.sl .full 1 [])))] [1]) (.seq (.region false [
 ao 5 (.faddr 0 (.t 1)),
 ao 6 (.load none (.t 5)),
 ao 7 (.mksl [(i64 0)] 8 (.t 6) (.t 6)),
 ao 3 (.mv (.t 7))] [1,3]) (.seq (.seq (.region false [
 ao 4 (.mv (.c (i64 0)))] [1,3,4]) (.block 0 (b8l0))) (.seq (.region false [
 ao 32 (.mv (.t 3)),
 ao 2 (.mv (.t 32))] [2]) (.ret))))
def a8:AFn:=⟨1,[.t 2],b8,false⟩
def n8:Ann:=⟨[[1],[1,3],[1,3,4],[1,3,4,12],[1,3,4],[1,3,4],[2]],[⟨[],[1,3,4],[16,112]⟩],[],[],[],false,[]⟩
def b9:AC:=
 .seq (.region false [
 ao 0 (.mv (.c (.bool false)))] []) (.seq (.region false [
 ao 10 (.call 26 []),
 ao 9 (.mv (.t 10)),
 ao 11 (.ext (.t 9) 0),
 ao 12 (.ext (.t 9) 1),
 ao 1 (.alloc [(i64 0),(i64 0),(.sl .full 1 []),(.sl .full 4 [])]),
 ao 2 (.alloc [(i64 0),(i64 0),(.sl .full 1 []),(.sl .full 4 [])]),
 ⟨none, .store 4 (.t 1) (.t 11),none,[],[]⟩,
 ⟨none, .store 4 (.t 2) (.t 12),none,[],[]⟩] [1]) (.seq (.region false [
 ao 14 (.call 27 []),
 ao 13 (.mv (.t 14)),
 ao 15 (.ext (.t 13) 0),
 ao 16 (.ext (.t 13) 1),
 ao 3 (.alloc [(i64 0),(i64 0),(i64 0),(.sl .full 3 []),(.sl .full 2 [])]),
 ao 4 (.alloc [(i64 0),(i64 0),(i64 0),(.sl .full 3 []),(.sl .full 2 [])]),
 ⟨none, .store 5 (.t 3) (.t 15),none,[],[]⟩,
 ⟨none, .store 5 (.t 4) (.t 16),none,[],[]⟩] [1,3]) (.seq (.region false [
 ao 18 (.load (some 4) (.t 1)),
 ao 19 (.call 23 [(.t 18),(.c (i64 2)),(.c (i64 1))]),
 ao 17 (.mv (.t 19)),
 ao 20 (.ext (.t 17) 0),
 ao 21 (.ext (.t 17) 1),
 ao 5 (.alloc [(i64 0),(i64 0)]),
 ⟨none, .store 2 (.t 5) (.t 20),none,[],[]⟩,
 ao 6 (.mv (.t 21))] [3,5,6]) (.seq (.region false [
 ao 23 (.load (some 5) (.t 3)),
 ao 24 (.call 28 [(.t 23)]),
 ao 22 (.mv (.t 24)),
 ao 25 (.ext (.t 22) 0),
 ao 26 (.ext (.t 22) 1),
 ao 7 (.mv (.t 25)),
 ao 8 (.mv (.t 26))] [5,6,7,8]) (.seq (.region false [
 ao 27 (.mv (.t 6)),
 ao 28 (.bin .eql (.t 27) (.c (i64 0))),
 ao 29 (.mv (.t 28)),
 ag 30 (.mv (.t 8)) 29 true [],
 ag 31 (.bin .eql (.t 30) (.c (i64 0))) 29 true [],
 ao 32 (.pick (.t 29) (.t 31) (.c (.bool false))),
 ao 33 (.mv (.t 32)),
 ag 34 (.load (some 2) (.t 5)) 33 true [],
 ag 35 (.build [(i64 0),(i64 0)] [(0,1,(.c (i64 4))),(1,1,(.c (i64 10)))]) 33 true [],
 ag 36 (.eqa [true,true] false (.t 34) (.t 35)) 33 true [],
 ao 37 (.pick (.t 33) (.t 36) (.c (.bool false))),
 ao 38 (.mv (.t 37)),
 ag 39 (.mv (.t 7)) 38 true [],
 ag 40 (.bin .eql (.t 39) (.c (i64 10))) 38 true [],
 ao 41 (.pick (.t 38) (.t 40) (.c (.bool false))),
 ao 0 (.mv (.t 41))] [0]) (.ret))))))
def a9:AFn:=⟨0,[.t 0],b9,false⟩
def n9:Ann:=⟨[[],[1],[1,3],[3,5,6],[5,6,7,8],[0]],[],[],[],[],false,[(39,384),(30,384),(27,304),(8,384),(7,384),(26,384),(25,384),(22,384),(6,304),(21,304),(20,304),(17,304),(16,224),(15,224),(13,224),(12,160),(11,160),(9,160)]⟩
def b10:AC:=
 .seq (.region false [
 ao 1 (.box (.t 0)),
 ao 2 (.alloc [(i64 0),(i64 0),(i64 0),(.sl .full 3 []),(.sl .full 2 [])])] [1,2]) (.seq (.region true (spl [
 ao 3 (.faddr 0 (.t 1)),
 ap 4 (.load none (.t 3)) [0],
 ao 5 (.faddr 1 (.t 1)),
 ap 6 (.load none (.t 5)) [2],
 ao 7 (.faddr 2 (.t 1)),
 ap 8 (.load none (.t 7)) [4],
 ao 9 (.lit [(i64 0),(i64 0),(.bool false)] 0 []),
 ao 10 (.faddr 3 (.t 1)),
 ap 11 (.load none (.t 10)) [7],
 ap 12 (.appm 3 24 (.t 9) (.t 11)) [6,8,7],
 ao 13 (.lit [(i64 0),(i64 0)] 0 []),
 ao 14 (.faddr 4 (.t 1)),
 ap 15 (.load none (.t 14)) [11],
 ap 16 (.appm 2 16 (.t 13) (.t 15)) [10,12,9,11,6,8,7]] [
 ap 17 (.build [(i64 0),(i64 0),(i64 0),(.sl .full 3 []),(.sl .full 2 [])] [(0,1,(.t 4)),(1,1,(.t 6)),(2,1,(.t 8)),(3,1,(.t 12)),(4,1,(.t 16))]) [1,3,5,13,0,2,4,10,12,9,11,6,8,7],
 ⟨none, .store 5 (.t 2) (.t 17),none,[14,1,3,5,13,0,2,4,10,12,9,11,6,8,7],[]⟩]) [2]) (.ret))
def a10:AFn:=⟨1,[.cell 2 (some 5)],b10,true⟩
def n10:Ann:=⟨[[1,2],[2]],[],[],[],[12,16],true,[]⟩
def b11:AC:=
 .seq (.region false [
 ao 2 (.box (.t 0)),
 ao 4 (.mv (.c (.bool false)))] [1,2]) (.seq (.region false [
 ao 5 (.mv (.t 1)),
 ao 6 (.len (.t 5)),
 ao 7 (.faddr 2 (.t 2)),
 ao 8 (.load none (.t 7)),
 ao 9 (.bin .leq (.t 6) (.t 8)),
 ao 10 (.mv (.t 9)),
 ag 11 (.mv (.t 1)) 10 true [],
 ag 12 (.faddr 3 (.t 2)) 10 true [],
 ag 13 (.load none (.t 12)) 10 true [],
 ag 14 (.len (.t 13)) 10 true [],
 ag 15 (.bin .sub (.t 14) (.c (i64 1))) 10 true [],
 ag 16 (.call 29 [(.t 11),(.c (i64 0)),(.t 15)]) 10 true [],
 ao 17 (.pick (.t 10) (.t 16) (.c (.bool false))),
 ao 4 (.mv (.t 17))] [4]) (.ret))
def a11:AFn:=⟨2,[.t 4],b11,false⟩
def n11:Ann:=⟨[[1,2],[4]],[],[],[],[],false,[]⟩
@[simp] def d12l0:AC:=
 .seq (.seq (.region false [
 ao 10 (.mv (.t 6)),
 ao 11 (.mv (.t 1)),
 ao 12 (.len (.t 11)),
 ao 13 (.bin .lss (.t 10) (.t 12))] [1,4,5,6,13]) (.cond (.t 13) (.skip) (.exit 0))) (.seq (.block 1 (.seq (.region true (spl [
 ao 16 (.faddr 3 (.t 5)),
 ap 17 (.load none (.t 16)) [0],
 ao 18 (.mv (.t 1)),
 ao 19 (.mv (.t 6)),
 ap 20 (.idxs 1 (.t 18) (.t 19)) [2,3],
 ap 21 (.load none (.t 20)) [4,2,3],
 ap 22 (.idxs 3 (.t 17) (.t 21)) [1,5,0,4,2,3],
 ap 23 (.load (some 3) (.t 22)) [6,1,5,0,4,2,3],
 ao 7 (.alloc [(i64 0),(i64 0),(.bool false)])] [
 ⟨none, .store 3 (.t 7) (.t 23),none,[7,8,6,1,5,0,4,2,3],[]⟩]) [1,4,5,6,7]) (.seq (.region false [
 ao 24 (.faddr 2 (.t 7)),
 ao 25 (.load none (.t 24)),
 ao 26 (.un .not (.t 25)),
 ao 27 (.faddr 2 (.t 7)),
 ⟨none, .store 1 (.t 27) (.t 26),none,[],[]⟩] [1,4,5,6,7]) (.region true (spl [
 ao 28 (.faddr 3 (.t 5)),
 ap 29 (.load none (.t 28)) [0],
 ao 30 (.mv (.t 1)),
 ao 31 (.mv (.t 6)),
 ap 32 (.idxs 1 (.t 30) (.t 31)) [2,3],
 ap 33 (.load none (.t 32)) [4,2,3],
 ao 34 (.load (some 3) (.t 7))] [
 ap 35 (.idxs 3 (.t 29) (.t 33)) [1,5,6,0,4,2,3],
 ⟨none, .store 3 (.t 35) (.t 34),none,[7,1,5,6,0,4,2,3],[]⟩]) [1,4,5,6])))) (.region false [
 ao 14 (.mv (.t 6)),
 ao 15 (.bin .add (.t 14) (.c (i64 1))),
 ao 6 (.mv (.t 15))] [1,4,5,6]))
def b12l0:AC:= .loop [1,4,5,6] [32,64,80,144,1144] d12l0
def b12:AC:=
 .seq (.region false [
 ao 2 (.box (.t 0)),
 ao 4 (.alloc [(i64 0),(i64 0),(i64 0),(.sl .full 3 []),(.sl .full 2 [])])] [1,2,4]) (.seq (.region false [
 ao 8 (.load (some 5) (.t 2)),
 ao 9 (.call 10 [(.t 8)]),
 ao 5 (.alloc [(i64 0),(i64 0),(i64 0),(.sl .full 3 []),(.sl .full 2 [])]),
 ⟨none, .store 5 (.t 5) (.t 9),none,[],[]⟩] [1,4,5]) (.seq (.seq (.region false [
 ao 6 (.mv (.c (i64 0)))] [1,4,5,6]) (.block 0 (b12l0))) (.seq (.region false [
 ao 36 (.load (some 5) (.t 5)),
 ⟨none, .store 5 (.t 4) (.t 36),none,[],[]⟩] [4]) (.ret))))
def a12:AFn:=⟨2,[.cell 4 (some 5)],b12,false⟩
def n12:Ann:=⟨[[1,2,4],[1,4,5],[1,4,5,6],[1,4,5,6,13],[1,4,5,6,7],[1,4,5,6,7],[1,4,5,6],[1,4,5,6],[4]],[⟨[],[1,4,5,6],[32,64,80,144,1144]⟩],[],[],[],false,[]⟩
@[simp] def d13l0:AC:=
 .seq (.seq (.region false [
 ao 12 (.mv (.t 5)),
 ao 13 (.mv (.t 1)),
 ao 14 (.len (.t 13)),
 ao 15 (.bin .lss (.t 12) (.t 14))] [1,2,5,15]) (.cond (.t 15) (.skip) (.exit 0))) (.seq (.block 1 (.seq (.region true (spl [
 ao 18 (.load (some 5) (.t 2)),
 ao 19 (.faddr 4 (.t 2)),
 ap 20 (.load none (.t 19)) [1],
 ao 21 (.mv (.t 5)),
 ap 22 (.idxs 2 (.t 20) (.t 21)) [2,3,1],
 ap 23 (.faddr 0 (.t 22)) [4,2,3,1],
 ap 24 (.load none (.t 23)) [5,4,2,3,1],
 ap 25 (.call 31 [(.t 18),(.t 24)]) [0,6,5,4,2,3,1],
 ao 26 (.mv (.t 1)),
 ao 27 (.mv (.t 5)),
 ap 28 (.idxs 1 (.t 26) (.t 27)) [8,9],
 ap 29 (.load none (.t 28)) [10,8,9]] [
 ap 30 (.call 30 [(.t 25),(.t 29)]) [11,7,10,8,9,0,6,5,4,2,3,1],
 ap 31 (.un .not (.t 30)) [12,11,7,10,8,9,0,6,5,4,2,3,1]]) [1,2,5,31]) (.cond (.t 31) (.seq (.region false [
 ao 4 (.mv (.c (.bool false)))] [4]) (.ret)) (.skip)))) (.region false [
 ao 16 (.mv (.t 5)),
 ao 17 (.bin .add (.t 16) (.c (i64 1))),
 ao 5 (.mv (.t 17))] [1,2,5]))
def b13l0:AC:= .loop [1,2,5] [32] d13l0
def b13:AC:=
 .seq (.region false [
 ao 2 (.box (.t 0)),
 ao 4 (.mv (.c (.bool false)))] [1,2]) (.seq (.seq (.region false [
 ao 6 (.mv (.t 1)),
 ao 7 (.len (.t 6)),
 ao 8 (.faddr 4 (.t 2)),
 ao 9 (.load none (.t 8)),
 ao 10 (.len (.t 9)),
 ao 11 (.bin .neq (.t 7) (.t 10))] [1,2,11]) (.cond (.t 11) (.seq (.region false [
 ao 4 (.mv (.c (.bool false)))] [4]) (.ret)) (.skip))) (.seq (.seq (.region false [
 ao 5 (.mv (.c (i64 0)))] [1,2,5]) (.block 0 (b13l0))) (.seq (.region false [
 ao 4 (.mv (.c (.bool true)))] [4]) (.ret))))
def a13:AFn:=⟨2,[.t 4],b13,false⟩
def n13:Ann:=⟨[[1,2],[1,2,11],[4],[1,2,5],[1,2,5,15],[1,2,5,31],[4],[1,2,5],[4]],[⟨[],[1,2,5],[32]⟩],[],[],[],false,[]⟩
@[simp] def d14l1:AC:=
 .seq (.region false [
 ao 78 (.bin .lss (.t 77) (.t 76))] [1,2,3,6,8,9,40,41,42,75,76,77,78]) (.seq (.cond (.t 78) (.skip) (.exit 2)) (.seq (.block 3 (.seq (.region false [
 ao 79 (.mv (.t 77)),
 ao 80 (.idxs 1 (.t 75) (.t 77)),
 ao 81 (.load none (.t 80)),
 ao 15 (.mv (.t 79)),
 ao 16 (.mv (.t 81))] [1,2,3,6,8,9,15,16,40,41,42,75,76,77]) (.seq (.seq (.region true (spl [
 ao 82 (.mv (.t 8)),
 ao 83 (.faddr 1 (.t 9)),
 ap 84 (.load none (.t 83)) [1],
 ao 85 (.mv (.t 15)),
 ao 86 (.faddr 2 (.t 9)),
 ap 87 (.idxa 3 1 (.t 86) (.t 85)) [4,3],
 ap 88 (.load none (.t 87)) [5,4,3],
 ap 89 (.call 35 [(.t 82),(.t 84),(.t 88)]) [0,2,6,1,5,4,3],
 ao 90 (.mv (.t 16))] [
 ap 91 (.call 34 [(.t 89),(.t 90)]) [8,7,0,2,6,1,5,4,3],
 ap 92 (.un .not (.t 91)) [9,8,7,0,2,6,1,5,4,3]]) [1,2,3,6,8,9,15,16,40,41,42,75,76,77,92]) (.cond (.t 92) (.seq (.region false [
 ao 93 (.build [(i64 0),(i64 0),(i64 0),(.sl .full 3 []),(.sl .full 2 [])] []),
 ⟨none, .store 5 (.t 6) (.t 93),none,[],[]⟩,
 ao 7 (.mv (.c (i64 1)))] [6,7]) (.ret)) (.skip))) (.region false [
 ao 94 (.mv (.t 15)),
 ao 95 (.mv (.t 16)),
 ao 96 (.faddr 2 (.t 9)),
 ao 97 (.idxa 3 1 (.t 96) (.t 94)),
 ⟨none, .store 1 (.t 97) (.t 95),none,[],[]⟩] [1,2,3,6,8,9,40,41,42,75,76,77])))) (.region false [
 ao 98 (.bin .add (.t 77) (.c (i64 1))),
 ao 77 (.mv (.t 98))] [1,2,3,6,8,9,40,41,42,75,76,77])))
def b14l1:AC:= .loop [1,2,3,6,8,9,40,41,42,75,76,77] [48,96,144,416,1416] d14l1
@[simp] def d14l0:AC:=
 .seq (.region false [
 ao 43 (.bin .lss (.t 42) (.t 41))] [1,2,3,6,8,9,40,41,42,43]) (.seq (.cond (.t 43) (.skip) (.exit 0)) (.seq (.block 1 (.seq (.region false [
 ao 44 (.mv (.t 42)),
 ao 45 (.idxs 1 (.t 40) (.t 42)),
 ao 46 (.load none (.t 45)),
 ao 11 (.mv (.t 44)),
 ao 12 (.mv (.t 46))] [1,2,3,6,8,9,11,12,40,41,42]) (.seq (.region false [
 ao 48 (.mv (.t 8)),
 ao 49 (.mv (.t 12)),
 ao 50 (.call 33 [(.t 48),(.t 49)]),
 ao 47 (.mv (.t 50)),
 ao 51 (.ext (.t 47) 0),
 ao 52 (.ext (.t 47) 1),
 ao 13 (.mv (.t 51)),
 ao 14 (.mv (.t 52))] [1,2,3,6,8,9,11,13,14,40,41,42]) (.seq (.seq (.region true (spl [
 ao 53 (.mv (.t 14)),
 ap 54 (.un .not (.t 53)) [0],
 ap 55 (.mv (.t 54)) [1,0],
 ag 56 (.mv (.t 2)) 55 false [2,1,0],
 ag 57 (.mv (.t 11)) 55 false [2,1,0],
 ag 58 (.idxs 1 (.t 56) (.t 57)) 55 false [3,4,2,1,0],
 ag 59 (.load none (.t 58)) 55 false [5,3,4,2,1,0],
 ag 60 (.len (.t 59)) 55 false [6,5,3,4,2,1,0],
 ag 61 (.faddr 4 (.t 3)) 55 false [2,1,0],
 ag 62 (.load none (.t 61)) 55 false [8,2,1,0],
 ag 63 (.len (.t 62)) 55 false [9,8,2,1,0]] [
 ag 64 (.bin .neq (.t 60) (.t 63)) 55 false [7,10,6,5,3,4,9,8,2,1,0],
 ap 65 (.pick (.t 55) (.c (.bool true)) (.t 64)) [11,7,10,6,5,3,4,9,8,2,1,0]]) [1,2,3,6,8,9,11,13,40,41,42,65]) (.cond (.t 65) (.seq (.region false [
 ao 66 (.build [(i64 0),(i64 0),(i64 0),(.sl .full 3 []),(.sl .full 2 [])] []),
 ⟨none, .store 5 (.t 6) (.t 66),none,[],[]⟩,
 ao 7 (.mv (.c (i64 1)))] [6,7]) (.ret)) (.skip))) (.seq (.region false [
 ao 67 (.faddr 1 (.t 9)),
 ao 68 (.load none (.t 67)),
 ao 69 (.mv (.t 13)),
 ao 70 (.bin .xor (.t 68) (.t 69)),
 ao 71 (.faddr 1 (.t 9)),
 ⟨none, .store 1 (.t 71) (.t 70),none,[],[]⟩] [1,2,3,6,8,9,11,40,41,42]) (.seq (.region false [
 ao 72 (.mv (.t 2)),
 ao 73 (.mv (.t 11)),
 ao 74 (.idxs 1 (.t 72) (.t 73)),
 ao 75 (.load none (.t 74)),
 ao 76 (.len (.t 75)),
 ao 77 (.mv (.c (i64 0)))] [1,2,3,6,8,9,40,41,42,75,76,77]) (.block 2 (b14l1)))))))) (.region false [
 ao 99 (.bin .add (.t 42) (.c (i64 1))),
 ao 42 (.mv (.t 99))] [1,2,3,6,8,9,40,41,42])))
def b14l0:AC:= .loop [1,2,3,6,8,9,40,41,42] [48,96,144,416,1416] d14l0
@[simp] def d14l2:AC:=
 .seq (.region false [
 ao 118 (.bin .lss (.t 117) (.t 116))] [3,6,9,116,117,118]) (.seq (.cond (.t 118) (.skip) (.exit 4)) (.seq (.block 5 (.seq (.region false [
 ao 119 (.mv (.t 117)),
 ao 17 (.mv (.t 119))] [3,6,9,17,116,117]) (.region true (spl [
 ao 120 (.faddr 3 (.t 3)),
 ap 121 (.load none (.t 120)) [0],
 ao 122 (.mv (.t 17)),
 ao 123 (.faddr 1 (.t 9)),
 ap 124 (.load none (.t 123)) [3],
 ao 125 (.mv (.t 17)),
 ap 126 (.bin .shr (.t 124) (.t 125)) [4,5,3],
 ap 127 (.bin .and (.t 126) (.c (i64 1))) [6,4,5,3],
 ap 128 (.bin .eql (.t 127) (.c (i64 1))) [7,6,4,5,3]] [
 ap 129 (.idxs 3 (.t 121) (.t 122)) [1,2,8,0,7,6,4,5,3],
 ap 130 (.faddr 2 (.t 129)) [9,1,2,8,0,7,6,4,5,3],
 ⟨none, .store 1 (.t 130) (.t 128),none,[10,9,1,2,8,0,7,6,4,5,3],[]⟩]) [3,6,9,116,117]))) (.region false [
 ao 131 (.bin .add (.t 117) (.c (i64 1))),
 ao 117 (.mv (.t 131))] [3,6,9,116,117])))
def b14l2:AC:= .loop [3,6,9,116,117] [48,96,144,1728,1776] d14l2
@[simp] def d14l3:AC:=
 .seq (.region false [
 ao 136 (.bin .lss (.t 135) (.t 134))] [3,6,9,134,135,136]) (.seq (.cond (.t 136) (.skip) (.exit 6)) (.seq (.block 7 (.seq (.region false [
 ao 137 (.mv (.t 135)),
 ao 18 (.mv (.t 137))] [3,6,9,18,134,135]) (.region true (spl [
 ao 138 (.faddr 4 (.t 3)),
 ap 139 (.load none (.t 138)) [0],
 ao 140 (.mv (.t 18)),
 ao 141 (.mv (.t 18)),
 ao 142 (.faddr 2 (.t 9)),
 ap 143 (.idxa 3 1 (.t 142) (.t 141)) [4,3],
 ap 144 (.load none (.t 143)) [5,4,3]] [
 ap 145 (.idxs 2 (.t 139) (.t 140)) [1,2,6,0,5,4,3],
 ap 146 (.faddr 0 (.t 145)) [7,1,2,6,0,5,4,3],
 ⟨none, .store 1 (.t 146) (.t 144),none,[8,7,1,2,6,0,5,4,3],[]⟩]) [3,6,9,134,135]))) (.region false [
 ao 147 (.bin .add (.t 135) (.c (i64 1))),
 ao 135 (.mv (.t 147))] [3,6,9,134,135])))
def b14l3:AC:= .loop [3,6,9,134,135] [48,96,144,1728,1776] d14l3
def b14:AC:=
 .seq (.region false [
 ao 3 (.box (.t 0)),
 ao 6 (.alloc [(i64 0),(i64 0),(i64 0),(.sl .full 3 []),(.sl .full 2 [])]),
 ao 7 (.mv (.c (i64 0)))] [1,2,3,6]) (.seq (.region false [
 ao 20 (.load (some 5) (.t 3)),
 ao 21 (.mv (.t 1)),
 ao 22 (.len (.t 21)),
 ao 23 (.mv (.t 2)),
 ao 24 (.len (.t 23)),
 ao 25 (.bin .eql (.t 22) (.t 24)),
 ao 26 (.call 32 [(.t 20),(.t 25)]),
 ao 19 (.mv (.t 26)),
 ao 27 (.ext (.t 19) 0),
 ao 28 (.ext (.t 19) 1),
 ao 29 (.ext (.t 19) 2),
 ao 9 (.alloc [(i64 0),(i64 0),(i64 0),(i64 0),(i64 0)]),
 ao 8 (.mv (.t 27)),
 ⟨none, .store 5 (.t 9) (.t 28),none,[],[]⟩,
 ao 10 (.mv (.t 29))] [1,2,3,6,8,9,10]) (.seq (.seq (.region false [
 ao 30 (.mv (.t 10)),
 ao 31 (.bin .neq (.t 30) (.c (i64 0)))] [1,2,3,6,8,9,10,31]) (.cond (.t 31) (.seq (.region false [
 ao 32 (.build [(i64 0),(i64 0),(i64 0),(.sl .full 3 []),(.sl .full 2 [])] []),
 ao 33 (.mv (.t 10)),
 ⟨none, .store 5 (.t 6) (.t 32),none,[],[]⟩,
 ao 7 (.mv (.t 33))] [6,7]) (.ret)) (.skip))) (.seq (.seq (.region false [
 ao 34 (.mv (.t 1)),
 ao 35 (.len (.t 34)),
 ao 36 (.faddr 1 (.t 3)),
 ao 37 (.load none (.t 36)),
 ao 38 (.bin .gtr (.t 35) (.t 37))] [1,2,3,6,8,9,38]) (.cond (.t 38) (.seq (.region false [
 ao 39 (.build [(i64 0),(i64 0),(i64 0),(.sl .full 3 []),(.sl .full 2 [])] []),
 ⟨none, .store 5 (.t 6) (.t 39),none,[],[]⟩,
 ao 7 (.mv (.c (i64 3)))] [6,7]) (.ret)) (.skip))) (.seq (.seq (.region false [
 ao 40 (.mv (.t 1)),
 ao 41 (.len (.t 40)),
 ao 42 (.mv (.c (i64 0)))] [1,2,3,6,8,9,40,41,42]) (.block 0 (b14l0))) (.seq (.region false [
 ao 100 (.faddr 1 (.t 3)),
 ao 101 (.load none (.t 100)),
 ao 102 (.mv (.t 1)),
 ao 103 (.len (.t 102)),
 ao 104 (.bin .sub (.t 101) (.t 103)),
 ao 105 (.faddr 1 (.t 3)),
 ⟨none, .store 1 (.t 105) (.t 104),none,[],[]⟩] [3,6,9]) (.seq (.region true (spl [
 ao 106 (.faddr 3 (.t 3)),
 ap 107 (.load none (.t 106)) [0],
 ap 108 (.call 36 [(.t 107)]) [1,0],
 ao 109 (.faddr 4 (.t 3)),
 ap 110 (.load none (.t 109)) [3],
 ap 111 (.call 37 [(.t 110)]) [4,2,3,1,0],
 ap 112 (.faddr 3 (.t 3)) [2,4,1,0,3]] [
 ⟨none, .store 1 (.t 112) (.t 108),none,[6,5,4,2,1,0,3],[]⟩,
 ap 113 (.faddr 4 (.t 3)) [7,6,5,4,2,1,0,3],
 ⟨none, .store 1 (.t 113) (.t 111),none,[8,7,6,5,4,2,1,0,3],[]⟩]) [3,6,9]) (.seq (.seq (.region false [
 ao 114 (.faddr 3 (.t 3)),
 ao 115 (.load none (.t 114)),
 ao 116 (.len (.t 115)),
 ao 117 (.mv (.c (i64 0)))] [3,6,9,116,117]) (.block 4 (b14l2))) (.seq (.seq (.region false [
 ao 132 (.faddr 4 (.t 3)),
 ao 133 (.load none (.t 132)),
 ao 134 (.len (.t 133)),
 ao 135 (.mv (.c (i64 0)))] [3,6,9,134,135]) (.block 6 (b14l3))) (.seq (.region false [
 ao 148 (.load (some 5) (.t 3)),
 ⟨none, .store 5 (.t 6) (.t 148),none,[],[]⟩,
 ao 7 (.mv (.c (i64 0)))] [6,7]) (.ret))))))))))
def a14:AFn:=⟨3,[.cell 6 (some 5), .t 7],b14,false⟩
def n14:Ann:=⟨[[1,2,3,6],[1,2,3,6,8,9,10],[1,2,3,6,8,9,10,31],[6,7],[1,2,3,6,8,9,38],[6,7],[1,2,3,6,8,9,40,41,42],[1,2,3,6,8,9,40,41,42,43],[1,2,3,6,8,9,11,12,40,41,42],[1,2,3,6,8,9,11,13,14,40,41,42],[1,2,3,6,8,9,11,13,40,41,42,65],[6,7],[1,2,3,6,8,9,11,40,41,42],[1,2,3,6,8,9,40,41,42,75,76,77],[1,2,3,6,8,9,40,41,42,75,76,77,78],[1,2,3,6,8,9,15,16,40,41,42,75,76,77],[1,2,3,6,8,9,15,16,40,41,42,75,76,77,92],[6,7],[1,2,3,6,8,9,40,41,42,75,76,77],[1,2,3,6,8,9,40,41,42,75,76,77],[1,2,3,6,8,9,40,41,42],[3,6,9],[3,6,9],[3,6,9,116,117],[3,6,9,116,117,118],[3,6,9,17,116,117],[3,6,9,116,117],[3,6,9,116,117],[3,6,9,134,135],[3,6,9,134,135,136],[3,6,9,18,134,135],[3,6,9,134,135],[3,6,9,134,135],[6,7]],[⟨[],[1,2,3,6,8,9,40,41,42],[48,96,144,416,1416]⟩,⟨[],[1,2,3,6,8,9,40,41,42,75,76,77],[48,96,144,416,1416]⟩,⟨[],[3,6,9,116,117],[48,96,144,1728,1776]⟩,⟨[],[3,6,9,134,135],[48,96,144,1728,1776]⟩],[],[],[],false,[(82,416),(69,800),(53,800),(14,800),(13,800),(52,800),(51,800),(47,800),(48,416),(7,416),(33,416),(30,416),(10,416),(8,416),(29,416),(28,416),(27,416),(19,416)]⟩
@[simp] def d15l0:AC:=
 .seq (.seq (.region false [
 ao 5 (.mv (.t 4)),
 ao 6 (.mv (.t 0)),
 ao 7 (.len (.t 6)),
 ao 8 (.bin .lss (.t 5) (.t 7))] [0,3,4,8]) (.cond (.t 8) (.skip) (.exit 0))) (.seq (.block 1 (.region false [
 ao 11 (.mv (.t 3)),
 ao 12 (.lit [(i64 0)] 0 []),
 ao 13 (.mv (.t 0)),
 ao 14 (.mv (.t 4)),
 ao 15 (.idxs 1 (.t 13) (.t 14)),
 ao 16 (.load none (.t 15)),
 ao 17 (.app 1 8 (.t 12) (.t 16)),
 ao 18 (.lit [(.sl .full 1 [])] 1 [(0,(.t 17))]),
 ao 19 (.app 1 24 (.t 11) (.t 18)),
 ao 3 (.mv (.t 19))] [0,3,4])) (.region false [
 ao 9 (.mv (.t 4)),
 ao 10 (.bin .add (.t 9) (.c (i64 1))),
 ao 4 (.mv (.t 10))] [0,3,4]))
def b15l0:AC:= .loop [0,3,4] [49] d15l0
def b15:AC:=
 .seq (.region false [
 ao 2 (.mv (.c (.sl .full 1 [])))] [0]) (.seq (.region false [
 ao 3 (.mv (.c (.sl .full 1 [])))] [0,3]) (.seq (.seq (.region false [
 ao 4 (.mv (.c (i64 0)))] [0,3,4]) (.block 0 (.seq (.thaw 3 49 1) (b15l0)))) (.seq (.region false [
 ao 20 (.mv (.t 3)),
 ao 2 (.mv (.t 20))] [2]) (.ret))))
def a15:AFn:=⟨1,[.t 2],b15,false⟩
def n15:Ann:=⟨[[0],[0,3],[0,3,4],[0,3,4,8],[0,3,4],[0,3,4],[2]],[⟨[.t 3 49 1],[0,3,4],[49]⟩],[],[],[],false,[]⟩
@[simp] def d16l0:AC:=
 .seq (.seq (.region false [
 ao 10 (.mv (.t 6)),
 ao 11 (.mv (.t 1)),
 ao 12 (.len (.t 11)),
 ao 13 (.bin .lss (.t 10) (.t 12))] [1,4,5,6,13]) (.cond (.t 13) (.skip) (.exit 0))) (.seq (.block 1 (.seq (.region false [
 ao 16 (.faddr 4 (.t 5)),
 ao 17 (.load none (.t 16)),
 ao 18 (.mv (.t 6)),
 ao 19 (.idxs 2 (.t 17) (.t 18)),
 ao 20 (.load (some 2) (.t 19)),
 ao 7 (.alloc [(i64 0),(i64 0)]),
 ⟨none, .store 2 (.t 7) (.t 20),none,[],[]⟩] [1,4,5,6,7]) (.seq (.region false [
 ao 21 (.mv (.t 1)),
 ao 22 (.mv (.t 6)),
 ao 23 (.idxs 1 (.t 21) (.t 22)),
 ao 24 (.load none (.t 23)),
 ao 25 (.faddr 0 (.t 7)),
 ⟨none, .store 1 (.t 25) (.t 24),none,[],[]⟩] [1,4,5,6,7]) (.region false [
 ao 26 (.faddr 4 (.t 5)),
 ao 27 (.load none (.t 26)),
 ao 28 (.mv (.t 6)),
 ao 29 (.load (some 2) (.t 7)),
 ao 30 (.idxs 2 (.t 27) (.t 28)),
 ⟨none, .store 2 (.t 30) (.t 29),none,[],[]⟩] [1,4,5,6])))) (.region false [
 ao 14 (.mv (.t 6)),
 ao 15 (.bin .add (.t 14) (.c (i64 1))),
 ao 6 (.mv (.t 15))] [1,4,5,6]))
def b16l0:AC:= .loop [1,4,5,6] [32,64,80,144,1144] d16l0
def b16:AC:=
 .seq (.region false [
 ao 2 (.box (.t 0)),
 ao 4 (.alloc [(i64 0),(i64 0),(i64 0),(.sl .full 3 []),(.sl .full 2 [])])] [1,2,4]) (.seq (.region false [
 ao 8 (.load (some 5) (.t 2)),
 ao 9 (.call 10 [(.t 8)]),
 ao 5 (.alloc [(i64 0),(i64 0),(i64 0),(.sl .full 3 []),(.sl .full 2 [])]),
 ⟨none, .store 5 (.t 5) (.t 9),none,[],[]⟩] [1,4,5]) (.seq (.seq (.region false [
 ao 6 (.mv (.c (i64 0)))] [1,4,5,6]) (.block 0 (b16l0))) (.seq (.region false [
 ao 31 (.faddr 1 (.t 5)),
 ao 32 (.load none (.t 31)),
 ao 33 (.bin .sub (.t 32) (.c (i64 1))),
 ao 34 (.faddr 1 (.t 5)),
 ⟨none, .store 1 (.t 34) (.t 33),none,[],[]⟩] [4,5]) (.seq (.region false [
 ao 35 (.load (some 5) (.t 5)),
 ⟨none, .store 5 (.t 4) (.t 35),none,[],[]⟩] [4]) (.ret)))))
def a16:AFn:=⟨2,[.cell 4 (some 5)],b16,false⟩
def n16:Ann:=⟨[[1,2,4],[1,4,5],[1,4,5,6],[1,4,5,6,13],[1,4,5,6,7],[1,4,5,6,7],[1,4,5,6],[1,4,5,6],[4,5],[4]],[⟨[],[1,4,5,6],[32,64,80,144,1144]⟩],[],[],[],false,[]⟩
@[simp] def d17l0:AC:=
 .seq (.seq (.region false [
 ao 44 (.mv (.t 5)),
 ao 45 (.faddr 3 (.t 2)),
 ao 46 (.load none (.t 45)),
 ao 47 (.len (.t 46)),
 ao 48 (.bin .lss (.t 44) (.t 47))] [2,3,5,48]) (.cond (.t 48) (.skip) (.exit 0))) (.seq (.block 1 (.seq (.region true (spl [
 ao 51 (.faddr 3 (.t 2)),
 ap 52 (.load none (.t 51)) [0],
 ao 53 (.mv (.t 5)),
 ap 54 (.idxs 3 (.t 52) (.t 53)) [1,2,0],
 ap 55 (.load (some 3) (.t 54)) [3,1,2,0],
 ao 56 (.faddr 3 (.t 3)),
 ap 57 (.load none (.t 56)) [5],
 ao 58 (.mv (.t 5)),
 ap 59 (.idxs 3 (.t 57) (.t 58)) [6,7,5],
 ap 60 (.load (some 3) (.t 59)) [8,6,7,5]] [
 ap 61 (.eqa [true,true,false] true (.t 55) (.t 60)) [4,9,3,1,2,0,8,6,7,5]]) [2,3,5,61]) (.cond (.t 61) (.seq (.region false [
 ao 4 (.mv (.c (.bool false)))] [4]) (.ret)) (.skip)))) (.region false [
 ao 49 (.mv (.t 5)),
 ao 50 (.bin .add (.t 49) (.c (i64 1))),
 ao 5 (.mv (.t 50))] [2,3,5]))
def b17l0:AC:= .loop [2,3,5] [32,48] d17l0
@[simp] def d17l1:AC:=
 .seq (.seq (.region false [
 ao 62 (.mv (.t 6)),
 ao 63 (.faddr 4 (.t 2)),
 ao 64 (.load none (.t 63)),
 ao 65 (.len (.t 64)),
 ao 66 (.bin .lss (.t 62) (.t 65))] [2,3,6,66]) (.cond (.t 66) (.skip) (.exit 2))) (.seq (.block 3 (.seq (.region true (spl [
 ao 69 (.faddr 4 (.t 2)),
 ap 70 (.load none (.t 69)) [0],
 ao 71 (.mv (.t 6)),
 ap 72 (.idxs 2 (.t 70) (.t 71)) [1,2,0],
 ap 73 (.load (some 2) (.t 72)) [3,1,2,0],
 ao 74 (.faddr 4 (.t 3)),
 ap 75 (.load none (.t 74)) [5],
 ao 76 (.mv (.t 6)),
 ap 77 (.idxs 2 (.t 75) (.t 76)) [6,7,5],
 ap 78 (.load (some 2) (.t 77)) [8,6,7,5]] [
 ap 79 (.eqa [true,true] true (.t 73) (.t 78)) [4,9,3,1,2,0,8,6,7,5]]) [2,3,6,79]) (.cond (.t 79) (.seq (.region false [
 ao 4 (.mv (.c (.bool false)))] [4]) (.ret)) (.skip)))) (.region false [
 ao 67 (.mv (.t 6)),
 ao 68 (.bin .add (.t 67) (.c (i64 1))),
 ao 6 (.mv (.t 68))] [2,3,6]))
def b17l1:AC:= .loop [2,3,6] [32,48] d17l1
def b17:AC:=
 .seq (.region false [
 ao 2 (.box (.t 0)),
 ao 3 (.box (.t 1)),
 ao 4 (.mv (.c (.bool false)))] [2,3]) (.seq (.seq (.region false [
 ao 7 (.faddr 0 (.t 2)),
 ao 8 (.load none (.t 7)),
 ao 9 (.faddr 0 (.t 3)),
 ao 10 (.load none (.t 9)),
 ao 11 (.bin .neq (.t 8) (.t 10)),
 ao 12 (.mv (.t 11)),
 ag 13 (.faddr 1 (.t 2)) 12 false [],
 ag 14 (.load none (.t 13)) 12 false [],
 ag 15 (.faddr 1 (.t 3)) 12 false [],
 ag 16 (.load none (.t 15)) 12 false [],
 ag 17 (.bin .neq (.t 14) (.t 16)) 12 false [],
 ao 18 (.pick (.t 12) (.c (.bool true)) (.t 17)),
 ao 19 (.mv (.t 18)),
 ag 20 (.faddr 2 (.t 2)) 19 false [],
 ag 21 (.load none (.t 20)) 19 false [],
 ag 22 (.faddr 2 (.t 3)) 19 false [],
 ag 23 (.load none (.t 22)) 19 false [],
 ag 24 (.bin .neq (.t 21) (.t 23)) 19 false [],
 ao 25 (.pick (.t 19) (.c (.bool true)) (.t 24)),
 ao 26 (.mv (.t 25)),
 ag 27 (.faddr 3 (.t 2)) 26 false [],
 ag 28 (.load none (.t 27)) 26 false [],
 ag 29 (.len (.t 28)) 26 false [],
 ag 30 (.faddr 3 (.t 3)) 26 false [],
 ag 31 (.load none (.t 30)) 26 false [],
 ag 32 (.len (.t 31)) 26 false [],
 ag 33 (.bin .neq (.t 29) (.t 32)) 26 false [],
 ao 34 (.pick (.t 26) (.c (.bool true)) (.t 33)),
 ao 35 (.mv (.t 34)),
 ag 36 (.faddr 4 (.t 2)) 35 false [],
 ag 37 (.load none (.t 36)) 35 false [],
 ag 38 (.len (.t 37)) 35 false [],
 ag 39 (.faddr 4 (.t 3)) 35 false [],
 ag 40 (.load none (.t 39)) 35 false [],
 ag 41 (.len (.t 40)) 35 false [],
 ag 42 (.bin .neq (.t 38) (.t 41)) 35 false [],
 ao 43 (.pick (.t 35) (.c (.bool true)) (.t 42))] [2,3,43]) (.cond (.t 43) (.seq (.region false [
 ao 4 (.mv (.c (.bool false)))] [4]) (.ret)) (.skip))) (.seq (.seq (.region false [
 ao 5 (.mv (.c (i64 0)))] [2,3,5]) (.block 0 (b17l0))) (.seq (.seq (.region false [
 ao 6 (.mv (.c (i64 0)))] [2,3,6]) (.block 2 (b17l1))) (.seq (.region false [
 ao 4 (.mv (.c (.bool true)))] [4]) (.ret)))))
def a17:AFn:=⟨2,[.t 4],b17,false⟩
def n17:Ann:=⟨[[2,3],[2,3,43],[4],[2,3,5],[2,3,5,48],[2,3,5,61],[4],[2,3,5],[2,3,6],[2,3,6,66],[2,3,6,79],[4],[2,3,6],[4]],[⟨[],[2,3,5],[32,48]⟩,⟨[],[2,3,6],[32,48]⟩],[],[],[],false,[]⟩
@[simp] def d18l0:AC:=
 .seq (.seq (.region false [
 ao 5 (.mv (.t 4)),
 ao 6 (.faddr 3 (.t 1)),
 ao 7 (.load none (.t 6)),
 ao 8 (.len (.t 7)),
 ao 9 (.bin .lss (.t 5) (.t 8))] [1,3,4,9]) (.cond (.t 9) (.skip) (.exit 0))) (.seq (.block 1 (.seq (.region false [
 ao 12 (.faddr 3 (.t 1)),
 ao 13 (.load none (.t 12)),
 ao 14 (.mv (.t 4)),
 ao 15 (.idxs 3 (.t 13) (.t 14)),
 ao 16 (.faddr 2 (.t 15)),
 ao 17 (.load none (.t 16))] [1,3,4,17]) (.cond (.t 17) (.region false [
 ao 18 (.mv (.t 3)),
 ao 19 (.mv (.t 4)),
 ao 20 (.bin .add (.t 19) (.c (i64 1))),
 ao 21 (.lit [(i64 0)] 1 [(0,(.t 20))]),
 ao 22 (.app 1 8 (.t 18) (.t 21)),
 ao 3 (.mv (.t 22))] [1,3,4]) (.skip)))) (.region false [
 ao 10 (.mv (.t 4)),
 ao 11 (.bin .add (.t 10) (.c (i64 1))),
 ao 4 (.mv (.t 11))] [1,3,4]))
def b18l0:AC:= .loop [1,3,4] [16,49] d18l0
def b18:AC:=
 .seq (.region false [
 ao 1 (.box (.t 0)),
 ao 2 (.mv (.c (.sl .full 1 [])))] [1]) (.seq (.region false [
 ao 3 (.mv (.c (.sl .full 1 [])))] [1,3]) (.seq (.seq (.region false [
 ao 4 (.mv (.c (i64 0)))] [1,3,4]) (.block 0 (.seq (.thaw 3 49 1) (b18l0)))) (.seq (.region false [
 ao 23 (.mv (.t 3)),
 ao 2 (.mv (.t 23))] [2]) (.ret))))
def a18:AFn:=⟨1,[.t 2],b18,false⟩
def n18:Ann:=⟨[[1],[1,3],[1,3,4],[1,3,4,9],[1,3,4,17],[1,3,4],[1,3,4],[2]],[⟨[.t 3 49 1],[1,3,4],[16,49]⟩],[],[],[],false,[]⟩
@[simp] def d19l1:AC:=
 .seq (.region false [
 ao 39 (.bin .lss (.t 38) (.t 37))] [1,2,7,8,9,24,25,26,36,37,38,39]) (.seq (.cond (.t 39) (.skip) (.exit 2)) (.seq (.block 3 (.seq (.region false [
 ao 40 (.idxs 1 (.t 36) (.t 38)),
 ao 41 (.load none (.t 40)),
 ao 11 (.mv (.t 41))] [1,2,7,8,9,11,24,25,26,36,37,38]) (.seq (.seq (.region false [
 ao 42 (.mv (.t 11)),
 ao 43 (.mv (.t 9)),
 ao 44 (.bin .sub (.c (i64 40)) (.t 43)),
 ao 45 (.call 39 [(.t 42),(.c (i64 0)),(.t 44)]),
 ao 46 (.un .not (.t 45))] [1,2,7,8,9,11,24,25,26,36,37,38,46]) (.cond (.t 46) (.seq (.region false [
 ao 4 (.mv (.c (.bool false))),
 ao 5 (.mv (.c (i64 0)))] [4,5]) (.ret)) (.skip))) (.region false [
 ao 47 (.mv (.t 9)),
 ao 48 (.mv (.t 11)),
 ao 49 (.bin .add (.t 47) (.t 48)),
 ao 9 (.mv (.t 49))] [1,2,7,8,9,24,25,26,36,37,38])))) (.region false [
 ao 50 (.bin .add (.t 38) (.c (i64 1))),
 ao 38 (.mv (.t 50))] [1,2,7,8,9,24,25,26,36,37,38])))
def b19l1:AC:= .loop [1,2,7,8,9,24,25,26,36,37,38] [32,208,240,1056,1440] d19l1
@[simp] def d19l0:AC:=
 .seq (.region false [
 ao 27 (.bin .lss (.t 26) (.t 25))] [1,2,24,25,26,27]) (.seq (.cond (.t 27) (.skip) (.exit 0)) (.seq (.block 1 (.seq (.region false [
 ao 28 (.mv (.t 26)),
 ao 29 (.idxs 1 (.t 24) (.t 26)),
 ao 30 (.load none (.t 29)),
 ao 7 (.mv (.t 28)),
 ao 8 (.mv (.t 30))] [1,2,7,8,24,25,26]) (.seq (.seq (.region false [
 ao 31 (.mv (.t 8)),
 ao 32 (.len (.t 31)),
 ao 33 (.faddr 0 (.t 2)),
 ao 34 (.load none (.t 33)),
 ao 35 (.bin .neq (.t 32) (.t 34))] [1,2,7,8,24,25,26,35]) (.cond (.t 35) (.seq (.region false [
 ao 4 (.mv (.c (.bool false))),
 ao 5 (.mv (.c (i64 0)))] [4,5]) (.ret)) (.skip))) (.seq (.region false [
 ao 9 (.mv (.c (i64 0)))] [1,2,7,8,9,24,25,26]) (.seq (.seq (.region false [
 ao 36 (.mv (.t 8)),
 ao 37 (.len (.t 36)),
 ao 38 (.mv (.c (i64 0)))] [1,2,7,8,9,24,25,26,36,37,38]) (.block 2 (b19l1))) (.seq (.region true (spl [
 ao 51 (.mv (.t 7)),
 ap 52 (.bin .gtr (.t 51) (.c (i64 0))) [0],
 ap 53 (.mv (.t 52)) [1,0],
 ag 54 (.mv (.t 1)) 53 true [2,1,0],
 ag 55 (.mv (.t 7)) 53 true [2,1,0],
 ag 56 (.bin .sub (.t 55) (.c (i64 1))) 53 true [4,2,1,0],
 ag 57 (.idxs 1 (.t 54) (.t 56)) 53 true [3,5,4,2,1,0],
 ag 58 (.load none (.t 57)) 53 true [6,3,5,4,2,1,0],
 ag 59 (.mv (.t 8)) 53 true [2,1,0],
 ag 60 (.faddr 2 (.t 2)) 53 true [2,1,0],
 ag 61 (.load none (.t 60)) 53 true [9,2,1,0],
 ag 62 (.mv (.t 7)) 53 true [2,1,0],
 ag 63 (.bin .sub (.t 62) (.c (i64 1))) 53 true [11,2,1,0],
 ag 64 (.idxs 1 (.t 61) (.t 63)) 53 true [10,12,9,11,2,1,0],
 ag 65 (.load none (.t 64)) 53 true [13,10,12,9,11,2,1,0]] [
 ag 66 (.call 40 [(.t 58),(.t 59),(.t 65)]) 53 true [7,8,14,6,3,5,4,13,10,12,9,11,2,1,0],
 ag 67 (.un .not (.t 66)) 53 true [15,7,8,14,6,3,5,4,13,10,12,9,11,2,1,0],
 ap 68 (.pick (.t 53) (.t 67) (.c (.bool false))) [16,15,7,8,14,6,3,5,4,13,10,12,9,11,2,1,0]]) [1,2,24,25,26,68]) (.cond (.t 68) (.seq (.region false [
 ao 4 (.mv (.c (.bool false))),
 ao 5 (.mv (.c (i64 0)))] [4,5]) (.ret)) (.skip)))))))) (.region false [
 ao 69 (.bin .add (.t 26) (.c (i64 1))),
 ao 26 (.mv (.t 69))] [1,2,24,25,26])))
def b19l0:AC:= .loop [1,2,24,25,26] [32,208,240,1440] d19l0
@[simp] def d19l2:AC:=
 .seq (.region false [
 ao 74 (.bin .lss (.t 73) (.t 72))] [1,71,72,73,74]) (.seq (.cond (.t 74) (.skip) (.exit 4)) (.seq (.block 5 (.seq (.region false [
 ao 75 (.idxs 4 (.t 71) (.t 73)),
 ao 76 (.load (some 4) (.t 75)),
 ao 13 (.alloc [(i64 0),(i64 0),(i64 0),(i64 0)]),
 ⟨none, .store 4 (.t 13) (.t 76),none,[],[]⟩] [1,13,71,72,73]) (.seq (.region true (spl [
 ao 77 (.mv (.t 1)),
 ao 78 (.faddr 0 (.t 13)),
 ap 79 (.load none (.t 78)) [1],
 ap 80 (.idxs 1 (.t 77) (.t 79)) [0,2,1],
 ap 81 (.load none (.t 80)) [3,0,2,1],
 ao 82 (.faddr 1 (.t 13)),
 ap 83 (.load none (.t 82)) [5],
 ap 84 (.idxs 1 (.t 81) (.t 83)) [4,6,3,0,2,1,5],
 ap 85 (.load none (.t 84)) [7,4,6,3,0,2,1,5],
 ao 86 (.faddr 2 (.t 13)),
 ap 87 (.load none (.t 86)) [9],
 ao 88 (.faddr 3 (.t 13)),
 ap 89 (.load none (.t 88)) [11]] [
 ap 90 (.call 39 [(.t 85),(.t 87),(.t 89)]) [8,10,12,7,4,6,3,0,2,1,5,9,11],
 ap 91 (.un .not (.t 90)) [13,8,10,12,7,4,6,3,0,2,1,5,9,11]]) [1,71,72,73,91]) (.cond (.t 91) (.seq (.region false [
 ao 4 (.mv (.c (.bool false))),
 ao 5 (.mv (.c (i64 0)))] [4,5]) (.ret)) (.skip))))) (.region false [
 ao 92 (.bin .add (.t 73) (.c (i64 1))),
 ao 73 (.mv (.t 92))] [1,71,72,73])))
def b19l2:AC:= .loop [1,71,72,73] [32,240,720,1056] d19l2
def b19:AC:=
 .seq (.region false [
 ao 2 (.box (.t 0)),
 ao 4 (.mv (.c (.bool false))),
 ao 5 (.mv (.c (i64 0)))] [1,2]) (.seq (.seq (.region false [
 ao 14 (.load (some 4) (.t 2)),
 ao 15 (.call 38 [(.t 14)]),
 ao 6 (.mv (.t 15))] [1,2,6]) (.seq (.region false [
 ao 16 (.mv (.t 6)),
 ao 17 (.bin .neq (.t 16) (.c (i64 0)))] [1,2,6,17]) (.cond (.t 17) (.seq (.region false [
 ao 18 (.mv (.t 6)),
 ao 4 (.mv (.c (.bool false))),
 ao 5 (.mv (.t 18))] [4,5]) (.ret)) (.skip)))) (.seq (.seq (.region false [
 ao 19 (.mv (.t 1)),
 ao 20 (.len (.t 19)),
 ao 21 (.faddr 1 (.t 2)),
 ao 22 (.load none (.t 21)),
 ao 23 (.bin .neq (.t 20) (.t 22))] [1,2,23]) (.cond (.t 23) (.seq (.region false [
 ao 4 (.mv (.c (.bool false))),
 ao 5 (.mv (.c (i64 0)))] [4,5]) (.ret)) (.skip))) (.seq (.seq (.region false [
 ao 24 (.mv (.t 1)),
 ao 25 (.len (.t 24)),
 ao 26 (.mv (.c (i64 0)))] [1,2,24,25,26]) (.block 0 (b19l0))) (.seq (.seq (.region false [
 ao 70 (.faddr 3 (.t 2)),
 ao 71 (.load none (.t 70)),
 ao 72 (.len (.t 71)),
 ao 73 (.mv (.c (i64 0)))] [1,71,72,73]) (.block 4 (b19l2))) (.seq (.region false [
 ao 4 (.mv (.c (.bool true))),
 ao 5 (.mv (.c (i64 0)))] [4,5]) (.ret))))))
def a19:AFn:=⟨2,[.t 4, .t 5],b19,false⟩
def n19:Ann:=⟨[[1,2],[1,2,6],[1,2,6,17],[4,5],[1,2,23],[4,5],[1,2,24,25,26],[1,2,24,25,26,27],[1,2,7,8,24,25,26],[1,2,7,8,24,25,26,35],[4,5],[1,2,7,8,9,24,25,26],[1,2,7,8,9,24,25,26,36,37,38],[1,2,7,8,9,24,25,26,36,37,38,39],[1,2,7,8,9,11,24,25,26,36,37,38],[1,2,7,8,9,11,24,25,26,36,37,38,46],[4,5],[1,2,7,8,9,24,25,26,36,37,38],[1,2,7,8,9,24,25,26,36,37,38],[1,2,24,25,26,68],[4,5],[1,2,24,25,26],[1,71,72,73],[1,71,72,73,74],[1,13,71,72,73],[1,71,72,73,91],[4,5],[1,71,72,73],[4,5]],[⟨[],[1,2,24,25,26],[32,208,240,1440]⟩,⟨[],[1,2,7,8,9,24,25,26,36,37,38],[32,208,240,1056,1440]⟩,⟨[],[1,71,72,73],[32,240,720,1056]⟩],[],[],[],false,[(5,240),(18,240),(16,240),(6,240)]⟩
@[simp] def d20l0:AC:=
 .seq (.seq (.region false [
 ao 14 (.mv (.t 4)),
 ao 15 (.faddr 2 (.t 1)),
 ao 16 (.load none (.t 15)),
 ao 17 (.len (.t 16)),
 ao 18 (.bin .lss (.t 14) (.t 17))] [1,2,3,4,18]) (.cond (.t 18) (.skip) (.exit 0))) (.seq (.block 1 (.region true (spl [
 ao 21 (.faddr 2 (.t 3)),
 ap 22 (.load none (.t 21)) [0],
 ao 23 (.lit [(i64 0)] 0 []),
 ao 24 (.faddr 2 (.t 1)),
 ap 25 (.load none (.t 24)) [3],
 ao 26 (.mv (.t 4)),
 ap 27 (.idxs 1 (.t 25) (.t 26)) [4,5,3],
 ap 28 (.load none (.t 27)) [6,4,5,3],
 ap 29 (.app 1 8 (.t 23) (.t 28)) [2,7,6,4,5,3],
 ap 30 (.lit [(.sl .full 1 [])] 1 [(0,(.t 29))]) [8,2,7,6,4,5,3]] [
 ap 31 (.app 1 24 (.t 22) (.t 30)) [1,9,0,8,2,7,6,4,5,3],
 ap 32 (.faddr 2 (.t 3)) [10,1,9,0,8,2,7,6,4,5,3],
 ⟨none, .store 1 (.t 32) (.t 31),none,[11,10,1,9,0,8,2,7,6,4,5,3],[]⟩]) [1,2,3,4])) (.region false [
 ao 19 (.mv (.t 4)),
 ao 20 (.bin .add (.t 19) (.c (i64 1))),
 ao 4 (.mv (.t 20))] [1,2,3,4]))
def b20l0:AC:= .loop [1,2,3,4] [16,32,48,52,144,192] d20l0
def b20:AC:=
 .seq (.region false [
 ao 1 (.box (.t 0)),
 ao 2 (.alloc [(i64 0),(i64 0),(.sl .full 1 []),(.sl .full 4 [])])] [1,2]) (.seq (.region true (spl [
 ao 5 (.faddr 0 (.t 1)),
 ap 6 (.load none (.t 5)) [0],
 ao 7 (.faddr 1 (.t 1)),
 ap 8 (.load none (.t 7)) [2],
 ao 9 (.lit [(i64 0),(i64 0),(i64 0),(i64 0)] 0 []),
 ao 10 (.faddr 3 (.t 1)),
 ap 11 (.load none (.t 10)) [5],
 ap 12 (.app 4 32 (.t 9) (.t 11)) [4,6,5],
 ap 13 (.build [(i64 0),(i64 0),(.sl .full 1 []),(.sl .full 4 [])] [(0,1,(.t 6)),(1,1,(.t 8)),(3,1,(.t 12))]) [1,3,7,0,2,4,6,5],
 ao 3 (.alloc [(i64 0),(i64 0),(.sl .full 1 []),(.sl .full 4 [])])] [
 ⟨none, .store 4 (.t 3) (.t 13),none,[8,9,1,3,7,0,2,4,6,5],[]⟩]) [1,2,3]) (.seq (.seq (.region false [
 ao 4 (.mv (.c (i64 0)))] [1,2,3,4]) (.block 0 (.seq (.thawc 3 2 52 1) (b20l0)))) (.seq (.region false [
 ao 33 (.load (some 4) (.t 3)),
 ⟨none, .store 4 (.t 2) (.t 33),none,[],[]⟩] [2]) (.ret))))
def a20:AFn:=⟨1,[.cell 2 (some 4)],b20,true⟩
def n20:Ann:=⟨[[1,2],[1,2,3],[1,2,3,4],[1,2,3,4,18],[1,2,3,4],[1,2,3,4],[2]],[⟨[.c 3 2 52 1],[1,2,3,4],[16,32,48,52,144,192]⟩],[],[],[],true,[]⟩
def b21:AC:=
 .seq (.region false [
 ao 2 (.box (.t 0)),
 ao 4 (.alloc [(i64 0),(i64 0)]),
 ao 5 (.mv (.c (i64 0)))] [1,2,4]) (.seq (.region true (spl [
 ao 9 (.load (some 4) (.t 2)),
 ao 10 (.mv (.t 1)),
 ao 11 (.faddr 1 (.t 2)),
 ap 12 (.load none (.t 11)) [2],
 ap 13 (.bin .sub (.t 12) (.c (i64 1))) [3,2],
 ap 14 (.call 39 [(.t 10),(.c (i64 0)),(.t 13)]) [1,4,3,2],
 ap 15 (.call 41 [(.t 9),(.t 14)]) [0,5,1,4,3,2],
 ap 8 (.mv (.t 15)) [6,0,5,1,4,3,2],
 ap 16 (.ext (.t 8) 0) [7,6,0,5,1,4,3,2],
 ap 17 (.ext (.t 8) 1) [7,6,0,5,1,4,3,2],
 ap 6 (.mv (.t 16)) [8,7,6,0,5,1,4,3,2]] [
 ap 7 (.mv (.t 17)) [9,10,8,7,6,0,5,1,4,3,2]]) [1,4,6,7]) (.seq (.seq (.region false [
 ao 18 (.mv (.t 7)),
 ao 19 (.bin .neq (.t 18) (.c (i64 0)))] [1,4,6,7,19]) (.cond (.t 19) (.seq (.region false [
 ao 20 (.build [(i64 0),(i64 0)] []),
 ao 21 (.mv (.t 7)),
 ⟨none, .store 2 (.t 4) (.t 20),none,[],[]⟩,
 ao 5 (.mv (.t 21))] [4,5]) (.ret)) (.skip))) (.seq (.region true (spl [
 ao 22 (.mv (.t 6)),
 ap 23 (.nilck (.t 22)) [0],
 ap 24 (.faddr 4 (.t 23)) [1,0],
 ao 25 (.mv (.t 6)),
 ao 26 (.mv (.t 1)),
 ap 27 (.call 43 [(.t 25),(.t 26),(.c (i64 0))]) [3,4]] [
 ap 28 (.call 42 [(.t 24),(.c (i64 0)),(.t 27)]) [2,5,1,0,3,4],
 ⟨none, .store 2 (.t 4) (.t 28),none,[6,2,5,1,0,3,4],[]⟩,
 ap 5 (.mv (.c (i64 0))) [7,6,2,5,1,0,3,4]]) [4,5]) (.ret))))
def a21:AFn:=⟨2,[.cell 4 (some 2), .t 5],b21,false⟩
def n21:Ann:=⟨[[1,2,4],[1,4,6,7],[1,4,6,7,19],[4,5],[4,5]],[],[],[],[],false,[(25,240),(22,240),(5,240),(21,240),(18,240),(7,240),(6,240),(17,240),(16,240),(8,240)]⟩
def b22:AC:=
 .seq (.region false [
 ao 3 (.box (.t 0)),
 ao 6 (.alloc [(i64 0),(i64 0)]),
 ao 7 (.mv (.c (i64 0)))] [1,2,3,6]) (.seq (.region true (spl [
 ao 11 (.load (some 4) (.t 3)),
 ao 12 (.mv (.t 1)),
 ao 13 (.mv (.t 2)),
 ap 14 (.call 39 [(.t 12),(.c (i64 0)),(.t 13)]) [1,2],
 ap 15 (.mv (.t 14)) [3,1,2],
 ag 16 (.mv (.t 2)) 15 true [4,3,1,2],
 ag 17 (.faddr 1 (.t 3)) 15 true [4,3,1,2],
 ag 18 (.load none (.t 17)) 15 true [6,4,3,1,2],
 ag 19 (.bin .lss (.t 16) (.t 18)) 15 true [5,7,6,4,3,1,2],
 ap 20 (.pick (.t 15) (.t 19) (.c (.bool false))) [8,5,7,6,4,3,1,2],
 ap 21 (.call 41 [(.t 11),(.t 20)]) [0,9,8,5,7,6,4,3,1,2],
 ap 10 (.mv (.t 21)) [10,0,9,8,5,7,6,4,3,1,2],
 ap 22 (.ext (.t 10) 0) [11,10,0,9,8,5,7,6,4,3,1,2],
 ap 23 (.ext (.t 10) 1) [11,10,0,9,8,5,7,6,4,3,1,2],
 ap 8 (.mv (.t 22)) [12,11,10,0,9,8,5,7,6,4,3,1,2]] [
 ap 9 (.mv (.t 23)) [13,14,12,11,10,0,9,8,5,7,6,4,3,1,2]]) [1,2,6,8,9]) (.seq (.seq (.region false [
 ao 24 (.mv (.t 9)),
 ao 25 (.bin .neq (.t 24) (.c (i64 0)))] [1,2,6,8,9,25]) (.cond (.t 25) (.seq (.region false [
 ao 26 (.build [(i64 0),(i64 0)] []),
 ao 27 (.mv (.t 9)),
 ⟨none, .store 2 (.t 6) (.t 26),none,[],[]⟩,
 ao 7 (.mv (.t 27))] [6,7]) (.ret)) (.skip))) (.seq (.region true (spl [
 ao 28 (.mv (.t 8)),
 ap 29 (.nilck (.t 28)) [0],
 ap 30 (.faddr 4 (.t 29)) [1,0],
 ao 31 (.mv (.t 8)),
 ao 32 (.mv (.t 1)),
 ap 33 (.call 43 [(.t 31),(.t 32),(.c (i64 0))]) [3,4],
 ao 34 (.mv (.t 8)),
 ao 35 (.mv (.t 2)),
 ap 36 (.call 43 [(.t 34),(.t 35),(.c (i64 0))]) [6,7,5,3,4]] [
 ap 37 (.call 42 [(.t 30),(.t 33),(.t 36)]) [2,8,1,0,6,7,5,3,4],
 ⟨none, .store 2 (.t 6) (.t 37),none,[9,2,8,1,0,6,7,5,3,4],[]⟩,
 ap 7 (.mv (.c (i64 0))) [10,9,2,8,1,0,6,7,5,3,4]]) [6,7]) (.ret))))
def a22:AFn:=⟨3,[.cell 6 (some 2), .t 7],b22,false⟩
def n22:Ann:=⟨[[1,2,3,6],[1,2,6,8,9],[1,2,6,8,9,25],[6,7],[6,7]],[],[],[],[],false,[(34,336),(31,336),(28,336),(7,336),(27,336),(24,336),(9,336),(8,336),(23,336),(22,336),(10,336),(15,224)]⟩
def b23:AC:=
 .seq (.region false [
 ao 3 (.box (.t 0)),
 ao 6 (.alloc [(i64 0),(i64 0)]),
 ao 7 (.mv (.c (i64 0)))] [1,2,3,6]) (.seq (.region true (spl [
 ao 11 (.load (some 4) (.t 3)),
 ao 12 (.load (some 4) (.t 3)),
 ao 13 (.mv (.t 1)),
 ao 14 (.mv (.t 2)),
 ap 15 (.call 44 [(.t 12),(.t 13),(.t 14)]) [1,2,3],
 ap 16 (.call 41 [(.t 11),(.t 15)]) [0,4,1,2,3],
 ap 10 (.mv (.t 16)) [5,0,4,1,2,3],
 ap 17 (.ext (.t 10) 0) [6,5,0,4,1,2,3],
 ap 18 (.ext (.t 10) 1) [6,5,0,4,1,2,3],
 ap 8 (.mv (.t 17)) [7,6,5,0,4,1,2,3]] [
 ap 9 (.mv (.t 18)) [8,9,7,6,5,0,4,1,2,3]]) [1,2,6,8,9]) (.seq (.seq (.region false [
 ao 19 (.mv (.t 9)),
 ao 20 (.bin .neq (.t 19) (.c (i64 0)))] [1,2,6,8,9,20]) (.cond (.t 20) (.seq (.region false [
 ao 21 (.build [(i64 0),(i64 0)] []),
 ao 22 (.mv (.t 9)),
 ⟨none, .store 2 (.t 6) (.t 21),none,[],[]⟩,
 ao 7 (.mv (.t 22))] [6,7]) (.ret)) (.skip))) (.seq (.region false [
 ao 23 (.mv (.t 8)),
 ao 24 (.mv (.t 1)),
 ao 25 (.mv (.t 2)),
 ao 26 (.call 45 [(.t 23),(.t 24),(.t 25)]),
 ⟨none, .store 2 (.t 6) (.t 26),none,[],[]⟩,
 ao 7 (.mv (.c (i64 0)))] [6,7]) (.ret))))
def a23:AFn:=⟨3,[.cell 6 (some 2), .t 7],b23,false⟩
def n23:Ann:=⟨[[1,2,3,6],[1,2,6,8,9],[1,2,6,8,9,20],[6,7],[6,7]],[],[],[],[],false,[(23,256),(7,256),(22,256),(19,256),(9,256),(8,256),(18,256),(17,256),(10,256)]⟩
def b24:AC:=
 .seq (.region false [
 ao 6 (.mv (.c (.bool false)))] [0,1,2]) (.seq (.region false [
 ao 7 (.mv (.t 0)),
 ao 8 (.mv (.t 1)),
 ao 9 (.mv (.t 2)),
 ao 10 (.call 46 [(.t 7),(.t 8),(.t 9)]),
 ao 6 (.mv (.t 10))] [6]) (.ret))
def a24:AFn:=⟨3,[.t 6],b24,false⟩
def n24:Ann:=⟨[[0,1,2],[6]],[],[],[],[],false,[(6,160)]⟩
def b25:AC:=
 .seq (.region false [
 ao 2 (.box (.t 0)),
 ao 4 (.mv (.c (.bool false)))] [1,2]) (.seq (.region false [
 ao 5 (.mv (.t 1)),
 ao 6 (.faddr 0 (.t 2)),
 ao 7 (.load none (.t 6)),
 ao 8 (.bin .sub (.t 7) (.c (i64 1))),
 ao 9 (.call 24 [(.t 5),(.c (i64 0)),(.t 8)]),
 ao 4 (.mv (.t 9))] [4]) (.ret))
def a25:AFn:=⟨2,[.t 4],b25,false⟩
def n25:Ann:=⟨[[1,2],[4]],[],[],[],[],false,[(4,144)]⟩
def b26:AC:=
 .seq (.region false [
 ao 0 (.alloc [(i64 0),(i64 0),(.sl .full 1 []),(.sl .full 4 [])]),
 ao 1 (.alloc [(i64 0),(i64 0),(.sl .full 1 []),(.sl .full 4 [])])] [0,1]) (.seq (.region false [
 ao 2 (.lit [(i64 0)] 2 [(0,(.c (i64 0))),(1,(.c (i64 1)))]),
 ao 3 (.lit [(i64 0)] 1 [(0,(.c (i64 1)))]),
 ao 4 (.lit [(.sl .full 1 [])] 2 [(0,(.t 2)),(1,(.t 3))]),
 ao 5 (.call 47 [(.c (i64 0)),(.c (i64 0)),(.c (i64 5)),(.c (i64 6))]),
 ao 6 (.call 47 [(.c (i64 0)),(.c (i64 1)),(.c (i64 0)),(.c (i64 0))]),
 ao 7 (.call 47 [(.c (i64 1)),(.c (i64 0)),(.c (i64 3)),(.c (i64 8))]),
 ao 8 (.call 47 [(.c (i64 2)),(.c (i64 1)),(.c (i64 4)),(.c (i64 10))]),
 ao 9 (.lit [(i64 0),(i64 0),(i64 0),(i64 0)] 4 [(0,(.t 5)),(1,(.t 6)),(2,(.t 7)),(3,(.t 8))]),
 ao 10 (.build [(i64 0),(i64 0),(.sl .full 1 []),(.sl .full 4 [])] [(0,1,(.c (i64 2))),(1,1,(.c (i64 3))),(2,1,(.t 4)),(3,1,(.t 9))]),
 ⟨none, .store 4 (.t 0) (.t 10),none,[],[]⟩] [0,1]) (.seq (.region true (spl [
 ao 11 (.load (some 4) (.t 0)),
 ao 12 (.load (some 4) (.t 0)),
 ao 13 (.call 47 [(.c (i64 1)),(.c (i64 1)),(.c (i64 12)),(.c (i64 20))]),
 ap 14 (.call 48 [(.t 12),(.t 13)]) [1,2]] [
 ⟨none, .store 4 (.t 0) (.t 11),none,[3,0,1,2],[]⟩,
 ⟨none, .store 4 (.t 1) (.t 14),none,[4,3,0,1,2],[]⟩]) [0,1]) (.ret)))
def a26:AFn:=⟨0,[.cell 0 (some 4), .cell 1 (some 4)],b26,false⟩
def n26:Ann:=⟨[[0,1],[0,1],[0,1]],[],[],[],[],false,[]⟩
def b27:AC:=
 .seq (.region false [
 ao 0 (.alloc [(i64 0),(i64 0),(i64 0),(.sl .full 3 []),(.sl .full 2 [])]),
 ao 1 (.alloc [(i64 0),(i64 0),(i64 0),(.sl .full 3 []),(.sl .full 2 [])])] [0,1]) (.seq (.region false [
 ao 2 (.build [(i64 0),(i64 0),(.bool false)] [(0,1,(.c (i64 0))),(1,1,(.c (i64 1))),(2,1,(.c (.bool true)))]),
 ao 3 (.build [(i64 0),(i64 0),(.bool false)] [(0,1,(.c (i64 1))),(1,1,(.c (i64 2)))]),
 ao 4 (.lit [(i64 0),(i64 0),(.bool false)] 2 [(0,(.t 2)),(1,(.t 3))]),
 ao 5 (.build [(i64 0),(i64 0)] [(0,1,(.c (i64 0))),(1,1,(.c (i64 10)))]),
 ao 6 (.build [(i64 0),(i64 0)] [(0,1,(.c (i64 1))),(1,1,(.c (i64 7)))]),
 ao 7 (.lit [(i64 0),(i64 0)] 2 [(0,(.t 5)),(1,(.t 6))]),
 ao 8 (.build [(i64 0),(i64 0),(i64 0),(.sl .full 3 []),(.sl .full 2 [])] [(0,1,(.c (i64 3))),(1,1,(.c (i64 2))),(2,1,(.c (i64 1))),(3,1,(.t 4)),(4,1,(.t 7))]),
 ⟨none, .store 5 (.t 0) (.t 8),none,[],[]⟩] [0,1]) (.seq (.region true (spl [
 ao 9 (.load (some 5) (.t 0)),
 ao 10 (.load (some 5) (.t 0)),
 ao 11 (.lit [(i64 0)] 1 [(0,(.c (i64 0)))]),
 ap 12 (.call 12 [(.t 10),(.t 11)]) [1,2]] [
 ⟨none, .store 5 (.t 0) (.t 9),none,[3,0,1,2],[]⟩,
 ⟨none, .store 5 (.t 1) (.t 12),none,[4,3,0,1,2],[]⟩]) [0,1]) (.ret)))
def a27:AFn:=⟨0,[.cell 0 (some 5), .cell 1 (some 5)],b27,false⟩
def n27:Ann:=⟨[[0,1],[0,1],[0,1]],[],[],[],[],false,[]⟩
def b28:AC:=
 .seq (.region false [
 ao 1 (.box (.t 0)),
 ao 2 (.mv (.c (i64 0))),
 ao 3 (.mv (.c (i64 0)))] [1]) (.seq (.region false [
 ao 8 (.load (some 5) (.t 1)),
 ao 9 (.call 32 [(.t 8),(.c (.bool true))]),
 ao 7 (.mv (.t 9)),
 ao 10 (.ext (.t 7) 0),
 ao 11 (.ext (.t 7) 1),
 ao 12 (.ext (.t 7) 2),
 ao 5 (.alloc [(i64 0),(i64 0),(i64 0),(i64 0),(i64 0)]),
 ao 4 (.mv (.t 10)),
 ⟨none, .store 5 (.t 5) (.t 11),none,[],[]⟩,
 ao 6 (.mv (.t 12))] [4,5,6]) (.seq (.seq (.region false [
 ao 13 (.mv (.t 6)),
 ao 14 (.bin .neq (.t 13) (.c (i64 0)))] [4,5,6,14]) (.cond (.t 14) (.seq (.region false [
 ao 15 (.mv (.t 6)),
 ao 2 (.mv (.c (i64 0))),
 ao 3 (.mv (.t 15))] [2,3]) (.ret)) (.skip))) (.seq (.region false [
 ao 16 (.mv (.t 4)),
 ao 17 (.load (some 5) (.t 5)),
 ao 18 (.call 49 [(.t 16),(.t 17)]),
 ao 2 (.mv (.t 18)),
 ao 3 (.mv (.c (i64 0)))] [2,3]) (.ret))))
def a28:AFn:=⟨1,[.t 2, .t 3],b28,false⟩
def n28:Ann:=⟨[[1],[4,5,6],[4,5,6,14],[2,3],[2,3]],[],[],[],[],false,[(2,288),(16,144),(3,144),(15,144),(13,144),(6,144),(4,144),(12,144),(11,144),(10,144),(7,144)]⟩
@[simp] def d29l0:AC:=
 .seq (.seq (.region false [
 ao 8 (.mv (.t 7)),
 ao 9 (.mv (.t 0)),
 ao 10 (.len (.t 9)),
 ao 11 (.bin .lss (.t 8) (.t 10))] [0,1,2,7,11]) (.cond (.t 11) (.skip) (.exit 0))) (.seq (.block 1 (.seq (.region true (spl [
 ao 14 (.mv (.t 0)),
 ao 15 (.mv (.t 7)),
 ap 16 (.idxs 1 (.t 14) (.t 15)) [0,1],
 ap 17 (.load none (.t 16)) [2,0,1],
 ao 18 (.mv (.t 1)),
 ao 19 (.mv (.t 2)),
 ap 20 (.call 46 [(.t 17),(.t 18),(.t 19)]) [3,4,5,2,0,1],
 ap 21 (.un .not (.t 20)) [6,3,4,5,2,0,1],
 ap 22 (.mv (.t 21)) [7,6,3,4,5,2,0,1],
 ag 23 (.mv (.t 7)) 22 false [8,7,6,3,4,5,2,0,1],
 ag 24 (.bin .gtr (.t 23) (.c (i64 0))) 22 false [9,8,7,6,3,4,5,2,0,1],
 ag 25 (.mv (.t 24)) 22 false [10,9,8,7,6,3,4,5,2,0,1],
 ag 26 (.mv (.t 0)) 25 true [11,10,9,8,7,6,3,4,5,2,0,1],
 ag 27 (.mv (.t 7)) 25 true [11,10,9,8,7,6,3,4,5,2,0,1],
 ag 28 (.idxs 1 (.t 26) (.t 27)) 25 true [12,13,11,10,9,8,7,6,3,4,5,2,0,1],
 ag 29 (.load none (.t 28)) 25 true [14,12,13,11,10,9,8,7,6,3,4,5,2,0,1],
 ag 30 (.mv (.t 0)) 25 true [11,10,9,8,7,6,3,4,5,2,0,1],
 ag 31 (.mv (.t 7)) 25 true [11,10,9,8,7,6,3,4,5,2,0,1],
 ag 32 (.bin .sub (.t 31) (.c (i64 1))) 25 true [17,11,10,9,8,7,6,3,4,5,2,0,1],
 ag 33 (.idxs 1 (.t 30) (.t 32)) 25 true [16,18,17,11,10,9,8,7,6,3,4,5,2,0,1],
 ag 34 (.load none (.t 33)) 25 true [19,16,18,17,11,10,9,8,7,6,3,4,5,2,0,1]] [
 ag 35 (.bin .leq (.t 29) (.t 34)) 25 true [15,20,14,12,13,19,16,18,17,11,10,9,8,7,6,3,4,5,2,0,1],
 ag 36 (.pick (.t 25) (.t 35) (.c (.bool false))) 22 false [21,15,20,14,12,13,19,16,18,17,11,10,9,8,7,6,3,4,5,2,0,1],
 ap 37 (.pick (.t 22) (.c (.bool true)) (.t 36)) [22,21,15,20,14,12,13,19,16,18,17,11,10,9,8,7,6,3,4,5,2,0,1]]) [0,1,2,7,37]) (.cond (.t 37) (.seq (.region false [
 ao 6 (.mv (.c (.bool false)))] [6]) (.ret)) (.skip)))) (.region false [
 ao 12 (.mv (.t 7)),
 ao 13 (.bin .add (.t 12) (.c (i64 1))),
 ao 7 (.mv (.t 13))] [0,1,2,7]))
def b29l0:AC:= .loop [0,1,2,7] [] d29l0
def b29:AC:=
 .seq (.region false [
 ao 6 (.mv (.c (.bool false)))] [0,1,2]) (.seq (.seq (.region false [
 ao 7 (.mv (.c (i64 0)))] [0,1,2,7]) (.block 0 (b29l0))) (.seq (.region false [
 ao 6 (.mv (.c (.bool true)))] [6]) (.ret)))
def a29:AFn:=⟨3,[.t 6],b29,false⟩
def n29:Ann:=⟨[[0,1,2],[0,1,2,7],[0,1,2,7,11],[0,1,2,7,37],[6],[0,1,2,7],[6]],[⟨[],[0,1,2,7],[]⟩],[],[],[],false,[]⟩
@[simp] def d30l0:AC:=
 .seq (.seq (.region false [
 ao 6 (.mv (.t 5)),
 ao 7 (.mv (.t 0)),
 ao 8 (.len (.t 7)),
 ao 9 (.bin .lss (.t 6) (.t 8))] [0,1,5,9]) (.cond (.t 9) (.skip) (.exit 0))) (.seq (.block 1 (.seq (.region false [
 ao 12 (.mv (.t 0)),
 ao 13 (.mv (.t 5)),
 ao 14 (.idxs 1 (.t 12) (.t 13)),
 ao 15 (.load none (.t 14)),
 ao 16 (.mv (.t 1)),
 ao 17 (.bin .eql (.t 15) (.t 16))] [0,1,5,17]) (.cond (.t 17) (.seq (.region false [
 ao 4 (.mv (.c (.bool true)))] [4]) (.ret)) (.skip)))) (.region false [
 ao 10 (.mv (.t 5)),
 ao 11 (.bin .add (.t 10) (.c (i64 1))),
 ao 5 (.mv (.t 11))] [0,1,5]))
def b30l0:AC:= .loop [0,1,5] [] d30l0
def b30:AC:=
 .seq (.region false [
 ao 4 (.mv (.c (.bool false)))] [0,1]) (.seq (.seq (.region false [
 ao 5 (.mv (.c (i64 0)))] [0,1,5]) (.block 0 (b30l0))) (.seq (.region false [
 ao 4 (.mv (.c (.bool false)))] [4]) (.ret)))
def a30:AFn:=⟨2,[.t 4],b30,false⟩
def n30:Ann:=⟨[[0,1],[0,1,5],[0,1,5,9],[0,1,5,17],[4],[0,1,5],[4]],[⟨[],[0,1,5],[]⟩],[],[],[],false,[]⟩
@[simp] def d31l1:AC:=
 .seq (.seq (.region false [
 ao 16 (.mv (.t 8)),
 ao 17 (.faddr 3 (.t 2)),
 ao 18 (.load none (.t 17)),
 ao 19 (.len (.t 18)),
 ao 20 (.bin .lss (.t 16) (.t 19))] [1,2,5,6,7,8,20]) (.cond (.t 20) (.skip) (.exit 2))) (.seq (.block 3 (.seq (.region false [
 ao 23 (.faddr 3 (.t 2)),
 ao 24 (.load none (.t 23)),
 ao 25 (.mv (.t 8)),
 ao 26 (.idxs 3 (.t 24) (.t 25)),
 ao 27 (.load (some 3) (.t 26)),
 ao 9 (.alloc [(i64 0),(i64 0),(.bool false)]),
 ⟨none, .store 3 (.t 9) (.t 27),none,[],[]⟩] [1,2,5,6,7,8,9]) (.region false [
 ao 28 (.mv (.t 7)),
 ao 29 (.mv (.t 28)),
 ag 30 (.faddr 2 (.t 9)) 29 false [],
 ag 31 (.load none (.t 30)) 29 false [],
 ag 32 (.mv (.t 31)) 29 false [],
 ag 33 (.faddr 0 (.t 9)) 32 true [],
 ag 34 (.load none (.t 33)) 32 true [],
 ag 35 (.mv (.t 1)) 32 true [],
 ag 36 (.bin .eql (.t 34) (.t 35)) 32 true [],
 ag 37 (.mv (.t 36)) 32 true [],
 ag 38 (.faddr 1 (.t 9)) 37 true [],
 ag 39 (.load none (.t 38)) 37 true [],
 ag 40 (.mv (.t 6)) 37 true [],
 ag 41 (.bin .eql (.t 39) (.t 40)) 37 true [],
 ag 42 (.pick (.t 37) (.t 41) (.c (.bool false))) 32 true [],
 ag 43 (.mv (.t 42)) 32 true [],
 ag 44 (.faddr 1 (.t 9)) 43 false [],
 ag 45 (.load none (.t 44)) 43 false [],
 ag 46 (.mv (.t 1)) 43 false [],
 ag 47 (.bin .eql (.t 45) (.t 46)) 43 false [],
 ag 48 (.mv (.t 47)) 43 false [],
 ag 49 (.faddr 0 (.t 9)) 48 true [],
 ag 50 (.load none (.t 49)) 48 true [],
 ag 51 (.mv (.t 6)) 48 true [],
 ag 52 (.bin .eql (.t 50) (.t 51)) 48 true [],
 ag 53 (.pick (.t 48) (.t 52) (.c (.bool false))) 43 false [],
 ag 54 (.pick (.t 43) (.c (.bool true)) (.t 53)) 32 true [],
 ag 55 (.pick (.t 32) (.t 54) (.c (.bool false))) 29 false [],
 ao 56 (.pick (.t 29) (.c (.bool true)) (.t 55)),
 ao 7 (.mv (.t 56))] [1,2,5,6,7,8]))) (.region false [
 ao 21 (.mv (.t 8)),
 ao 22 (.bin .add (.t 21) (.c (i64 1))),
 ao 8 (.mv (.t 22))] [1,2,5,6,7,8]))
def b31l1:AC:= .loop [1,2,5,6,7,8] [32,81,960,976,1056] d31l1
@[simp] def d31l0:AC:=
 .seq (.seq (.region false [
 ao 10 (.mv (.t 6)),
 ao 11 (.faddr 0 (.t 2)),
 ao 12 (.load none (.t 11)),
 ao 13 (.bin .lss (.t 10) (.t 12))] [1,2,5,6,13]) (.cond (.t 13) (.skip) (.exit 0))) (.seq (.block 1 (.seq (.region false [
 ao 7 (.mv (.c (.bool false)))] [1,2,5,6,7]) (.seq (.seq (.region false [
 ao 8 (.mv (.c (i64 0)))] [1,2,5,6,7,8]) (.block 2 (b31l1))) (.seq (.region false [
 ao 57 (.mv (.t 7))] [1,2,5,6,57]) (.cond (.t 57) (.region false [
 ao 58 (.mv (.t 5)),
 ao 59 (.mv (.t 6)),
 ao 60 (.lit [(i64 0)] 1 [(0,(.t 59))]),
 ao 61 (.app 1 8 (.t 58) (.t 60)),
 ao 5 (.mv (.t 61))] [1,2,5,6]) (.skip)))))) (.region false [
 ao 14 (.mv (.t 6)),
 ao 15 (.bin .add (.t 14) (.c (i64 1))),
 ao 6 (.mv (.t 15))] [1,2,5,6]))
def b31l0:AC:= .loop [1,2,5,6] [32,81,1056] d31l0
def b31:AC:=
 .seq (.region false [
 ao 2 (.box (.t 0)),
 ao 4 (.mv (.c (.sl .full 1 [])))] [1,2]) (.seq (.region false [
 ao 5 (.mv (.c (.sl .full 1 [])))] [1,2,5]) (.seq (.seq (.region false [
 ao 6 (.mv (.c (i64 0)))] [1,2,5,6]) (.block 0 (.seq (.thaw 5 81 1) (b31l0)))) (.seq (.seq (.region false [
 ao 62 (.mv (.t 5)),
 ao 63 (.len (.t 62)),
 ao 64 (.bin .eql (.t 63) (.c (i64 0)))] [1,5,64]) (.cond (.t 64) (.seq (.region false [
 ao 65 (.mv (.t 1)),
 ao 66 (.lit [(i64 0)] 1 [(0,(.t 65))]),
 ao 4 (.mv (.t 66))] [4]) (.ret)) (.skip))) (.seq (.region false [
 ao 67 (.mv (.t 5)),
 ao 4 (.mv (.t 67))] [4]) (.ret)))))
def a31:AFn:=⟨2,[.t 4],b31,false⟩
def n31:Ann:=⟨[[1,2],[1,2,5],[1,2,5,6],[1,2,5,6,13],[1,2,5,6,7],[1,2,5,6,7,8],[1,2,5,6,7,8,20],[1,2,5,6,7,8,9],[1,2,5,6,7,8],[1,2,5,6,7,8],[1,2,5,6,57],[1,2,5,6],[1,2,5,6],[1,5,64],[4],[4]],[⟨[.t 5 81 1],[1,2,5,6],[32,81,1056]⟩,⟨[],[1,2,5,6,7,8],[32,81,960,976,1056]⟩],[],[],[],false,[]⟩
@[simp] def d32l0:AC:=
 .seq (.region false [
 ao 33 (.bin .lss (.t 32) (.t 31))] [2,5,8,31,32,33]) (.seq (.cond (.t 33) (.skip) (.exit 0)) (.seq (.block 1 (.seq (.region false [
 ao 34 (.mv (.t 32)),
 ao 9 (.mv (.t 34))] [2,5,8,9,31,32]) (.seq (.region true (spl [
 ao 35 (.mv (.t 9)),
 ap 36 (.call 51 [(.t 35)]) [0],
 ap 37 (.len (.t 36)) [1,0],
 ao 38 (.faddr 2 (.t 2)),
 ap 39 (.load none (.t 38)) [3]] [
 ap 40 (.bin .leq (.t 37) (.t 39)) [2,4,1,0,3]]) [2,5,8,9,31,32,40]) (.cond (.t 40) (.region false [
 ao 41 (.mv (.t 8)),
 ao 42 (.mv (.t 8)),
 ao 43 (.nilck (.t 42)),
 ao 44 (.faddr 5 (.t 43)),
 ao 45 (.load none (.t 44)),
 ao 46 (.mv (.t 9)),
 ao 47 (.lit [(i64 0)] 1 [(0,(.t 46))]),
 ao 48 (.app 1 8 (.t 45) (.t 47)),
 ao 49 (.nilck (.t 41)),
 ao 50 (.faddr 5 (.t 49)),
 ⟨none, .store 1 (.t 50) (.t 48),none,[],[]⟩] [2,5,8,31,32]) (.skip))))) (.region false [
 ao 51 (.bin .add (.t 32) (.c (i64 1))),
 ao 32 (.mv (.t 51))] [2,5,8,31,32])))
def b32l0:AC:= .loop [2,5,8,31,32] [32,80,133,400,432] d32l0
@[simp] def d32l1:AC:=
 .seq (.region false [
 ao 64 (.bin .lss (.t 63) (.t 62))] [2,5,8,10,61,62,63,64]) (.seq (.cond (.t 64) (.skip) (.exit 2)) (.seq (.block 3 (.seq (.region false [
 ao 65 (.mv (.t 63)),
 ao 66 (.idxs 3 (.t 61) (.t 63)),
 ao 67 (.load (some 3) (.t 66)),
 ao 12 (.alloc [(i64 0),(i64 0),(.bool false)]),
 ao 11 (.mv (.t 65)),
 ⟨none, .store 3 (.t 12) (.t 67),none,[],[]⟩] [2,5,8,10,11,12,61,62,63]) (.seq (.region false [
 ao 68 (.faddr 2 (.t 12)),
 ao 69 (.load none (.t 68))] [2,5,8,10,11,61,62,63,69]) (.cond (.t 69) (.region true (spl [
 ao 70 (.faddr 1 (.t 10)),
 ap 71 (.load none (.t 70)) [0],
 ao 72 (.mv (.t 11)),
 ap 73 (.bin .shl (.c (i64 1)) (.t 72)) [2]] [
 ap 74 (.bin .or (.t 71) (.t 73)) [1,3,0,2],
 ap 75 (.faddr 1 (.t 10)) [4,1,3,0,2],
 ⟨none, .store 1 (.t 75) (.t 74),none,[5,4,1,3,0,2],[]⟩]) [2,5,8,10,61,62,63]) (.skip))))) (.region false [
 ao 76 (.bin .add (.t 63) (.c (i64 1))),
 ao 63 (.mv (.t 76))] [2,5,8,10,61,62,63])))
def b32l1:AC:= .loop [2,5,8,10,61,62,63] [32,80,160,400,432] d32l1
@[simp] def d32l2:AC:=
 .seq (.region false [
 ao 81 (.bin .lss (.t 80) (.t 79))] [5,8,10,78,79,80,81]) (.seq (.cond (.t 81) (.skip) (.exit 4)) (.seq (.block 5 (.seq (.region false [
 ao 82 (.mv (.t 80)),
 ao 83 (.idxs 2 (.t 78) (.t 80)),
 ao 84 (.load (some 2) (.t 83)),
 ao 14 (.alloc [(i64 0),(i64 0)]),
 ao 13 (.mv (.t 82)),
 ⟨none, .store 2 (.t 14) (.t 84),none,[],[]⟩] [5,8,10,13,14,78,79,80]) (.region false [
 ao 85 (.mv (.t 13)),
 ao 86 (.faddr 0 (.t 14)),
 ao 87 (.load none (.t 86)),
 ao 88 (.faddr 2 (.t 10)),
 ao 89 (.idxa 3 1 (.t 88) (.t 85)),
 ⟨none, .store 1 (.t 89) (.t 87),none,[],[]⟩] [5,8,10,78,79,80]))) (.region false [
 ao 90 (.bin .add (.t 80) (.c (i64 1))),
 ao 80 (.mv (.t 90))] [5,8,10,78,79,80])))
def b32l2:AC:= .loop [5,8,10,78,79,80] [32,80,160,400,432] d32l2
def b32:AC:=
 .seq (.region false [
 ao 2 (.box (.t 0)),
 ao 4 (.mv (.c .nilp)),
 ao 5 (.alloc [(i64 0),(i64 0),(i64 0),(i64 0),(i64 0)]),
 ao 6 (.mv (.c (i64 0)))] [1,2,5]) (.seq (.seq (.region false [
 ao 15 (.load (some 5) (.t 2)),
 ao 16 (.call 50 [(.t 15)]),
 ao 7 (.mv (.t 16))] [1,2,5,7]) (.seq (.region false [
 ao 17 (.mv (.t 7)),
 ao 18 (.bin .neq (.t 17) (.c (i64 0)))] [1,2,5,7,18]) (.cond (.t 18) (.seq (.region false [
 ao 19 (.build [(i64 0),(i64 0),(i64 0),(i64 0),(i64 0)] []),
 ao 20 (.mv (.t 7)),
 ao 4 (.mv (.c .nilp)),
 ⟨none, .store 5 (.t 5) (.t 19),none,[],[]⟩,
 ao 6 (.mv (.t 20))] [4,5,6]) (.ret)) (.skip)))) (.seq (.seq (.region false [
 ao 21 (.mv (.t 1)),
 ao 22 (.un .not (.t 21))] [2,5,22]) (.cond (.t 22) (.seq (.region false [
 ao 23 (.build [(i64 0),(i64 0),(i64 0),(i64 0),(i64 0)] []),
 ao 4 (.mv (.c .nilp)),
 ⟨none, .store 5 (.t 5) (.t 23),none,[],[]⟩,
 ao 6 (.mv (.c (i64 1)))] [4,5,6]) (.ret)) (.skip))) (.seq (.region false [
 ao 24 (.load (some 5) (.t 2)),
 ao 25 (.mkmap (some 5)),
 ao 26 (.build [(i64 0),(i64 0),(i64 0),(.sl .full 3 []),(.sl .full 2 []),(.sl .full 1 []),(.mp .nilp)] [(0,5,(.t 24)),(6,1,(.t 25))]),
 ao 27 (.box (.t 26)),
 ao 8 (.mv (.t 27))] [2,5,8]) (.seq (.seq (.region false [
 ao 28 (.faddr 3 (.t 2)),
 ao 29 (.load none (.t 28)),
 ao 30 (.len (.t 29)),
 ao 31 (.bin .shl (.c (i64 1)) (.t 30)),
 ao 32 (.mv (.c (i64 0)))] [2,5,8,31,32]) (.block 0 (.seq (.thawc 8 5 133 101) (b32l0)))) (.seq (.region false [
 ao 52 (.mv (.t 8)),
 ao 53 (.nilck (.t 52)),
 ao 54 (.faddr 5 (.t 53)),
 ao 55 (.load none (.t 54)),
 ao 56 (.call 52 [(.t 55),(.c (.fn 53 [] []))])] [2,5,8]) (.seq (.seq (.freeze [133]) (.region false [
 ao 57 (.faddr 1 (.t 2)),
 ao 58 (.load none (.t 57)),
 ao 59 (.build [(i64 0),(i64 0),(i64 0),(i64 0),(i64 0)] [(0,1,(.t 58))]),
 ao 10 (.alloc [(i64 0),(i64 0),(i64 0),(i64 0),(i64 0)]),
 ⟨none, .store 5 (.t 10) (.t 59),none,[],[]⟩] [2,5,8,10])) (.seq (.seq (.region false [
 ao 60 (.faddr 3 (.t 2)),
 ao 61 (.load none (.t 60)),
 ao 62 (.len (.t 61)),
 ao 63 (.mv (.c (i64 0)))] [2,5,8,10,61,62,63]) (.block 2 (b32l1))) (.seq (.seq (.region false [
 ao 77 (.faddr 4 (.t 2)),
 ao 78 (.load none (.t 77)),
 ao 79 (.len (.t 78)),
 ao 80 (.mv (.c (i64 0)))] [5,8,10,78,79,80]) (.block 4 (b32l2))) (.seq (.region true (spl [
 ao 91 (.mv (.t 8)),
 ao 92 (.load (some 5) (.t 10)),
 ap 4 (.mv (.t 91)) [0]] [
 ⟨none, .store 5 (.t 5) (.t 92),none,[1,2,0],[]⟩,
 ap 6 (.mv (.c (i64 0))) [3,1,2,0]]) [4,5,6]) (.ret))))))))))
def a32:AFn:=⟨2,[.t 4, .cell 5 (some 5), .t 6],b32,false⟩
def n32:Ann:=⟨[[1,2,5],[1,2,5,7],[1,2,5,7,18],[4,5,6],[2,5,22],[4,5,6],[2,5,8],[2,5,8,31,32],[2,5,8,31,32,33],[2,5,8,9,31,32],[2,5,8,9,31,32,40],[2,5,8,31,32],[2,5,8,31,32],[2,5,8],[2,5,8,10],[2,5,8,10,61,62,63],[2,5,8,10,61,62,63,64],[2,5,8,10,11,12,61,62,63],[2,5,8,10,11,61,62,63,69],[2,5,8,10,61,62,63],[2,5,8,10,61,62,63],[5,8,10,78,79,80],[5,8,10,78,79,80,81],[5,8,10,13,14,78,79,80],[5,8,10,78,79,80],[5,8,10,78,79,80],[4,5,6]],[⟨[.c 8 5 133 101],[2,5,8,31,32],[32,80,133,400,432]⟩,⟨[],[2,5,8,10,61,62,63],[32,80,160,400,432]⟩,⟨[],[5,8,10,78,79,80],[32,80,160,400,432]⟩],[],[[],[],[],[],[],[],[],[],[],[],[],[],[],[],[133],[],[],[],[],[],[],[],[],[],[],[],[]],[],false,[(4,432),(91,432),(52,432),(42,432),(41,432),(8,432),(6,256),(20,256),(17,256),(7,256)]⟩
@[simp] def d33l0:AC:=
 .seq (.region false [
 ao 11 (.bin .lss (.t 10) (.t 9))] [0,1,4,8,9,10,11]) (.seq (.cond (.t 11) (.skip) (.exit 0)) (.seq (.block 1 (.seq (.region false [
 ao 12 (.mv (.t 10)),
 ao 13 (.idxs 1 (.t 8) (.t 10)),
 ao 14 (.load none (.t 13)),
 ao 6 (.mv (.t 12)),
 ao 7 (.mv (.t 14))] [0,1,4,6,7,8,9,10]) (.seq (.seq (.region false [
 ao 15 (.mv (.t 7)),
 ao 16 (.mv (.t 0)),
 ao 17 (.nilck (.t 16)),
 ao 18 (.faddr 0 (.t 17)),
 ao 19 (.faddr 3 (.t 18)),
 ao 20 (.load none (.t 19)),
 ao 21 (.len (.t 20)),
 ao 22 (.bin .sub (.t 21) (.c (i64 1))),
 ao 23 (.call 56 [(.t 15),(.c (i64 0)),(.t 22)]),
 ao 24 (.un .not (.t 23)),
 ao 25 (.mv (.t 24)),
 ag 26 (.mv (.t 6)) 25 false [],
 ag 27 (.bin .gtr (.t 26) (.c (i64 0))) 25 false [],
 ag 28 (.mv (.t 27)) 25 false [],
 ag 29 (.mv (.t 7)) 28 true [],
 ag 30 (.mv (.t 1)) 28 true [],
 ag 31 (.mv (.t 6)) 28 true [],
 ag 32 (.bin .sub (.t 31) (.c (i64 1))) 28 true [],
 ag 33 (.idxs 1 (.t 30) (.t 32)) 28 true [],
 ag 34 (.load none (.t 33)) 28 true [],
 ag 35 (.bin .leq (.t 29) (.t 34)) 28 true [],
 ag 36 (.pick (.t 28) (.t 35) (.c (.bool false))) 25 false [],
 ao 37 (.pick (.t 25) (.c (.bool true)) (.t 36))] [0,1,4,7,8,9,10,37]) (.cond (.t 37) (.seq (.region false [
 ao 4 (.mv (.c (i64 0))),
 ao 5 (.mv (.c (.bool false)))] [4,5]) (.ret)) (.skip))) (.region false [
 ao 38 (.mv (.t 4)),
 ao 39 (.mv (.t 7)),
 ao 40 (.bin .shl (.c (i64 1)) (.t 39)),
 ao 41 (.bin .or (.t 38) (.t 40)),
 ao 4 (.mv (.t 41))] [0,1,4,8,9,10])))) (.region false [
 ao 42 (.bin .add (.t 10) (.c (i64 1))),
 ao 10 (.mv (.t 42))] [0,1,4,8,9,10])))
def b33l0:AC:= .loop [0,1,4,8,9,10] [] d33l0
def b33:AC:=
 .seq (.region false [
 ao 4 (.mv (.c (i64 0))),
 ao 5 (.mv (.c (.bool false)))] [0,1,4]) (.seq (.seq (.region false [
 ao 8 (.mv (.t 1)),
 ao 9 (.len (.t 8)),
 ao 10 (.mv (.c (i64 0)))] [0,1,4,8,9,10]) (.block 0 (b33l0))) (.seq (.region true (spl [
 ao 43 (.mv (.t 4)),
 ao 44 (.mv (.t 1)),
 ap 45 (.len (.t 44)) [1],
 ao 46 (.mv (.t 0)),
 ap 47 (.nilck (.t 46)) [3],
 ap 48 (.faddr 0 (.t 47)) [4,3],
 ap 49 (.faddr 2 (.t 48)) [5,4,3],
 ap 50 (.load none (.t 49)) [6,5,4,3],
 ap 51 (.bin .leq (.t 45) (.t 50)) [2,7,1,6,5,4,3],
 ap 4 (.mv (.t 43)) [0]] [
 ap 5 (.mv (.t 51)) [8,9,2,7,1,6,5,4,3,0]]) [4,5]) (.ret)))
def a33:AFn:=⟨2,[.t 4, .t 5],b33,false⟩
def n33:Ann:=⟨[[0,1,4],[0,1,4,8,9,10],[0,1,4,8,9,10,11],[0,1,4,6,7,8,9,10],[0,1,4,7,8,9,10,37],[4,5],[0,1,4,8,9,10],[0,1,4,8,9,10],[4,5]],[⟨[],[0,1,4,8,9,10],[]⟩],[],[],[],false,[]⟩
def b34:AC:=
 .seq (.region false [
 ao 4 (.mv (.c (.bool false)))] [0,1]) (.seq (.region false [
 ao 5 (.mv (.t 0)),
 ao 6 (.mv (.t 1)),
 ao 7 (.call 57 [(.t 5),(.t 6)]),
 ao 8 (.bin .geq (.t 7) (.c (i64 0))),
 ao 4 (.mv (.t 8))] [4]) (.ret))
def a34:AFn:=⟨2,[.t 4],b34,false⟩
def n34:Ann:=⟨[[0,1],[4]],[],[],[],[],false,[]⟩
@[simp] def d35l0:AC:=
 .seq (.region false [
 ao 17 (.bin .lss (.t 16) (.t 15))] [1,2,7,14,15,16,17]) (.seq (.cond (.t 17) (.skip) (.exit 0)) (.seq (.block 1 (.seq (.region false [
 ao 18 (.mv (.t 16)),
 ao 19 (.idxs 3 (.t 14) (.t 16)),
 ao 20 (.load (some 3) (.t 19)),
 ao 9 (.alloc [(i64 0),(i64 0),(.bool false)]),
 ao 8 (.mv (.t 18)),
 ⟨none, .store 3 (.t 9) (.t 20),none,[],[]⟩] [1,2,7,8,9,14,15,16]) (.block 2 (.seq (.region false [
 ao 22 (.mv (.t 1)),
 ao 23 (.mv (.t 8)),
 ao 24 (.bin .shr (.t 22) (.t 23)),
 ao 25 (.bin .and (.t 24) (.c (i64 1))),
 ao 26 (.bin .eql (.t 25) (.c (i64 0))),
 ao 21 (.mv (.t 26))] [1,2,7,9,14,15,16,21]) (.cond (.t 21) (.skip) (.seq (.region false [
 ao 28 (.faddr 0 (.t 9)),
 ao 29 (.load none (.t 28)),
 ao 30 (.mv (.t 2)),
 ao 31 (.bin .eql (.t 29) (.t 30)),
 ao 27 (.mv (.t 31))] [1,2,7,9,14,15,16,27]) (.cond (.t 27) (.region false [
 ao 32 (.mv (.t 7)),
 ao 33 (.faddr 1 (.t 9)),
 ao 34 (.load none (.t 33)),
 ao 35 (.lit [(i64 0)] 1 [(0,(.t 34))]),
 ao 36 (.app 1 8 (.t 32) (.t 35)),
 ao 7 (.mv (.t 36))] [1,2,7,14,15,16]) (.seq (.region false [
 ao 38 (.faddr 1 (.t 9)),
 ao 39 (.load none (.t 38)),
 ao 40 (.mv (.t 2)),
 ao 41 (.bin .eql (.t 39) (.t 40)),
 ao 37 (.mv (.t 41))] [1,2,7,9,14,15,16,37]) (.cond (.t 37) (.region false [
 ao 42 (.mv (.t 7)),
 ao 43 (.faddr 0 (.t 9)),
 ao 44 (.load none (.t 43)),
 ao 45 (.lit [(i64 0)] 1 [(0,(.t 44))]),
 ao 46 (.app 1 8 (.t 42) (.t 45)),
 ao 7 (.mv (.t 46))] [1,2,7,14,15,16]) (.skip)))))))))) (.region false [
 ao 47 (.bin .add (.t 16) (.c (i64 1))),
 ao 16 (.mv (.t 47))] [1,2,7,14,15,16])))
def b35l0:AC:= .loop [1,2,7,14,15,16] [113,832,864,896] d35l0
def b35:AC:=
 .seq (.region false [
 ao 6 (.mv (.c (.sl .full 1 [])))] [0,1,2]) (.seq (.region false [
 ao 7 (.mv (.c (.sl .full 1 [])))] [0,1,2,7]) (.seq (.seq (.region false [
 ao 10 (.mv (.t 0)),
 ao 11 (.nilck (.t 10)),
 ao 12 (.faddr 0 (.t 11)),
 ao 13 (.faddr 3 (.t 12)),
 ao 14 (.load none (.t 13)),
 ao 15 (.len (.t 14)),
 ao 16 (.mv (.c (i64 0)))] [1,2,7,14,15,16]) (.block 0 (.seq (.thaw 7 113 101) (b35l0)))) (.seq (.seq (.region false [
 ao 48 (.mv (.t 7)),
 ao 49 (.len (.t 48)),
 ao 50 (.bin .eql (.t 49) (.c (i64 0)))] [2,7,50]) (.cond (.t 50) (.seq (.region false [
 ao 51 (.mv (.t 2)),
 ao 52 (.lit [(i64 0)] 1 [(0,(.t 51))]),
 ao 6 (.mv (.t 52))] [6]) (.ret)) (.skip))) (.seq (.region false [
 ao 53 (.mv (.t 7)),
 ao 54 (.call 58 [(.t 53)])] [7]) (.seq (.region false [
 ao 55 (.mv (.t 7)),
 ao 56 (.call 59 [(.t 55)]),
 ao 6 (.mv (.t 56))] [6]) (.ret))))))
def a35:AFn:=⟨3,[.t 6],b35,false⟩
def n35:Ann:=⟨[[0,1,2],[0,1,2,7],[1,2,7,14,15,16],[1,2,7,14,15,16,17],[1,2,7,8,9,14,15,16],[1,2,7,9,14,15,16,21],[1,2,7,9,14,15,16,27],[1,2,7,14,15,16],[1,2,7,9,14,15,16,37],[1,2,7,14,15,16],[1,2,7,14,15,16],[2,7,50],[6],[7],[6]],[⟨[.t 7 113 101],[1,2,7,14,15,16],[113,832,864,896]⟩],[],[],[],false,[(6,896)]⟩
def b36:AC:=
 .seq (.region false [
 ao 2 (.mv (.c (.sl .full 3 [])))] [0]) (.seq (.region false [
 ao 3 (.mv (.t 0)),
 ao 4 (.isnil false (.t 3))] [0,4]) (.cond (.t 4) (.only (.seq (.region false [
 ao 2 (.mv (.c (.sl .full 3 [])))] [2]) (.ret))) (.seq (.region false [
 ao 5 (.lit [(i64 0),(i64 0),(.bool false)] 0 []),
 ao 6 (.mv (.t 0)),
 ao 7 (.appm 3 24 (.t 5) (.t 6)),
 ao 2 (.mv (.t 7))] [2]) (.ret))))
def a36:AFn:=⟨1,[.t 2],b36,true⟩
def n36:Ann:=⟨[[0],[0,4],[2],[2]],[],[],[],[7],true,[]⟩
def b36e:AC:=
 .seq (.region false [
 ao 2 (.mv (.c (.sl .full 3 [])))] [0]) (.seq (.region false [
 ao 3 (.mv (.t 0)),
 ao 4 (.isnil false (.t 3))] [0,4]) (.cond (.t 4) (.only (.seq (.region false [
 ao 2 (.mv (.c (.sl .full 3 [])))] [2]) (.ret))) (.seq (.region false [
 ao 5 (.lit [(i64 0),(i64 0),(.bool false)] 0 []),
 ao 6 (.mv (.t 0)),
 ao 7 (.app 3 24 (.t 5) (.t 6)),
 ao 2 (.mv (.t 7))] [2]) (.ret))))
def a36e:AFn:=⟨1,[.t 2],b36e,true⟩
def n36e:Ann:=⟨[[0],[0,4],[2],[2]],[],[],[],[],true,[]⟩
def b37:AC:=
 .seq (.region false [
 ao 2 (.mv (.c (.sl .full 2 [])))] [0]) (.seq (.region false [
 ao 3 (.mv (.t 0)),
 ao 4 (.isnil false (.t 3))] [0,4]) (.cond (.t 4) (.only (.seq (.region false [
 ao 2 (.mv (.c (.sl .full 2 [])))] [2]) (.ret))) (.seq (.region false [
 ao 5 (.lit [(i64 0),(i64 0)] 0 []),
 ao 6 (.mv (.t 0)),
 ao 7 (.appm 2 16 (.t 5) (.t 6)),
 ao 2 (.mv (.t 7))] [2]) (.ret))))
def a37:AFn:=⟨1,[.t 2],b37,true⟩
def n37:Ann:=⟨[[0],[0,4],[2],[2]],[],[],[],[7],true,[]⟩
def b37e:AC:=
 .seq (.region false [
 ao 2 (.mv (.c (.sl .full 2 [])))] [0]) (.seq (.region false [
 ao 3 (.mv (.t 0)),
 ao 4 (.isnil false (.t 3))] [0,4]) (.cond (.t 4) (.only (.seq (.region false [
 ao 2 (.mv (.c (.sl .full 2 [])))] [2]) (.ret))) (.seq (.region false [
 ao 5 (.lit [(i64 0),(i64 0)] 0 []),
 ao 6 (.mv (.t 0)),
 ao 7 (.app 2 16 (.t 5) (.t 6)),
 ao 2 (.mv (.t 7))] [2]) (.ret))))
def a37e:AFn:=⟨1,[.t 2],b37e,true⟩
def n37e:Ann:=⟨[[0],[0,4],[2],[2]],[],[],[],[],true,[]⟩
@[simp] def d38l1:AC:=
 .seq (.region false [
 ao 42 (.bin .lss (.t 41) (.t 40))] [1,4,33,34,35,39,40,41,42]) (.seq (.cond (.t 42) (.skip) (.exit 2)) (.seq (.block 3 (.seq (.region false [
 ao 43 (.mv (.t 41)),
 ao 44 (.idxs 1 (.t 39) (.t 41)),
 ao 45 (.load none (.t 44)),
 ao 5 (.mv (.t 43)),
 ao 6 (.mv (.t 45))] [1,4,5,6,33,34,35,39,40,41]) (.seq (.region false [
 ao 46 (.mv (.t 6)),
 ao 47 (.faddr 0 (.t 1)),
 ao 48 (.load none (.t 47)),
 ao 49 (.bin .sub (.t 48) (.c (i64 1))),
 ao 50 (.call 39 [(.t 46),(.c (i64 0)),(.t 49)]),
 ao 51 (.un .not (.t 50)),
 ao 52 (.mv (.t 51)),
 ag 53 (.mv (.t 5)) 52 false [],
 ag 54 (.bin .gtr (.t 53) (.c (i64 0))) 52 false [],
 ag 55 (.mv (.t 54)) 52 false [],
 ag 56 (.mv (.t 6)) 55 true [],
 ag 57 (.mv (.t 4)) 55 true [],
 ag 58 (.mv (.t 5)) 55 true [],
 ag 59 (.bin .sub (.t 58) (.c (i64 1))) 55 true [],
 ag 60 (.idxs 1 (.t 57) (.t 59)) 55 true [],
 ag 61 (.load none (.t 60)) 55 true [],
 ag 62 (.bin .leq (.t 56) (.t 61)) 55 true [],
 ag 63 (.pick (.t 55) (.t 62) (.c (.bool false))) 52 false [],
 ao 64 (.pick (.t 52) (.c (.bool true)) (.t 63))] [1,4,33,34,35,39,40,41,64]) (.cond (.t 64) (.seq (.region false [
 ao 2 (.mv (.c (i64 10)))] [2]) (.ret)) (.skip))))) (.region false [
 ao 65 (.bin .add (.t 41) (.c (i64 1))),
 ao 41 (.mv (.t 65))] [1,4,33,34,35,39,40,41])))
def b38l1:AC:= .loop [1,4,33,34,35,39,40,41] [16,144,224,1120] d38l1
@[simp] def d38l0:AC:=
 .seq (.region false [
 ao 36 (.bin .lss (.t 35) (.t 34))] [1,33,34,35,36]) (.seq (.cond (.t 36) (.skip) (.exit 0)) (.seq (.block 1 (.seq (.region false [
 ao 37 (.idxs 1 (.t 33) (.t 35)),
 ao 38 (.load none (.t 37)),
 ao 4 (.mv (.t 38))] [1,4,33,34,35]) (.seq (.region false [
 ao 39 (.mv (.t 4)),
 ao 40 (.len (.t 39)),
 ao 41 (.mv (.c (i64 0)))] [1,4,33,34,35,39,40,41]) (.block 2 (b38l1))))) (.region false [
 ao 66 (.bin .add (.t 35) (.c (i64 1))),
 ao 35 (.mv (.t 66))] [1,33,34,35])))
def b38l0:AC:= .loop [1,33,34,35] [16,144,224,1120] d38l0
def b38:AC:=
 .seq (.region false [
 ao 1 (.box (.t 0)),
 ao 2 (.mv (.c (i64 0)))] [1]) (.seq (.seq (.region false [
 ao 7 (.faddr 0 (.t 1)),
 ao 8 (.load none (.t 7)),
 ao 9 (.call 39 [(.t 8),(.c (i64 1)),(.c (i64 4))]),
 ao 10 (.un .not (.t 9)),
 ao 11 (.mv (.t 10)),
 ag 12 (.faddr 1 (.t 1)) 11 false [],
 ag 13 (.load none (.t 12)) 11 false [],
 ag 14 (.call 39 [(.t 13),(.c (i64 1)),(.c (i64 5))]) 11 false [],
 ag 15 (.un .not (.t 14)) 11 false [],
 ao 16 (.pick (.t 11) (.c (.bool true)) (.t 15)),
 ao 17 (.mv (.t 16)),
 ag 18 (.faddr 2 (.t 1)) 17 false [],
 ag 19 (.load none (.t 18)) 17 false [],
 ag 20 (.len (.t 19)) 17 false [],
 ag 21 (.faddr 1 (.t 1)) 17 false [],
 ag 22 (.load none (.t 21)) 17 false [],
 ag 23 (.bin .sub (.t 22) (.c (i64 1))) 17 false [],
 ag 24 (.bin .neq (.t 20) (.t 23)) 17 false [],
 ao 25 (.pick (.t 17) (.c (.bool true)) (.t 24)),
 ao 26 (.mv (.t 25)),
 ag 27 (.faddr 3 (.t 1)) 26 false [],
 ag 28 (.load none (.t 27)) 26 false [],
 ag 29 (.len (.t 28)) 26 false [],
 ag 30 (.bin .gtr (.t 29) (.c (i64 8))) 26 false [],
 ao 31 (.pick (.t 26) (.c (.bool true)) (.t 30))] [1,31]) (.cond (.t 31) (.seq (.region false [
 ao 2 (.mv (.c (i64 10)))] [2]) (.ret)) (.skip))) (.seq (.seq (.region false [
 ao 32 (.faddr 2 (.t 1)),
 ao 33 (.load none (.t 32)),
 ao 34 (.len (.t 33)),
 ao 35 (.mv (.c (i64 0)))] [1,33,34,35]) (.block 0 (b38l0))) (.seq (.seq (.region false [
 ao 67 (.faddr 3 (.t 1)),
 ao 68 (.load none (.t 67)),
 ao 69 (.mkfn 61 [] [(.t 1)]),
 ao 70 (.call 60 [(.t 68),(.t 69)])] [70]) (.cond (.t 70) (.seq (.region false [
 ao 2 (.mv (.c (i64 10)))] [2]) (.ret)) (.skip))) (.seq (.region false [
 ao 2 (.mv (.c (i64 0)))] [2]) (.ret)))))
def a38:AFn:=⟨1,[.t 2],b38,false⟩
def n38:Ann:=⟨[[1],[1,31],[2],[1,33,34,35],[1,33,34,35,36],[1,4,33,34,35],[1,4,33,34,35,39,40,41],[1,4,33,34,35,39,40,41,42],[1,4,5,6,33,34,35,39,40,41],[1,4,33,34,35,39,40,41,64],[2],[1,4,33,34,35,39,40,41],[1,33,34,35],[70],[2],[2]],[⟨[],[1,33,34,35],[16,144,224,1120]⟩,⟨[],[1,4,33,34,35,39,40,41],[16,144,224,1120]⟩],[],[],[],false,[]⟩
def b39:AC:=
 .seq (.region false [
 ao 6 (.mv (.c (.bool false)))] [0,1,2]) (.seq (.region false [
 ao 7 (.mv (.t 0)),
 ao 8 (.mv (.t 1)),
 ao 9 (.bin .geq (.t 7) (.t 8)),
 ao 10 (.mv (.t 9)),
 ag 11 (.mv (.t 0)) 10 true [],
 ag 12 (.mv (.t 2)) 10 true [],
 ag 13 (.bin .leq (.t 11) (.t 12)) 10 true [],
 ao 14 (.pick (.t 10) (.t 13) (.c (.bool false))),
 ao 6 (.mv (.t 14))] [6]) (.ret))
def a39:AFn:=⟨3,[.t 6],b39,false⟩
def n39:Ann:=⟨[[0,1,2],[6]],[],[],[],[],false,[]⟩
def b40l0:AC:=
 .seq (.region false [
 ao 8 (.mv (.t 12))] [3,5,6,7,8,13]) (.region false [
 ao 9 (.mv (.t 13))] [3,5,6,7,8,9])
def b40l1:AC:=
 .block 1 (.seq (.region true (spl [
 ao 14 (.load none (.t 7)),
 ao 15 (.mv (.t 9)),
 ao 16 (.load none (.t 3)),
 ao 17 (.mv (.t 8)),
 ap 18 (.idxs 1 (.t 16) (.t 17)) [2,3],
 ap 19 (.load none (.t 18)) [4,2,3],
 ap 20 (.bin .sub (.t 15) (.t 19)) [1,5,4,2,3]] [
 ap 21 (.bin .add (.t 14) (.t 20)) [0,6,1,5,4,2,3],
 ⟨none, .store 1 (.t 7) (.t 21),none,[7,0,6,1,5,4,2,3],[]⟩]) [5,6,7,8]) (.seq (.region false [
 ao 22 (.load none (.t 7)),
 ao 23 (.bin .lss (.t 22) (.c (i64 0))),
 ao 24 (.mv (.t 23)),
 ag 25 (.load none (.t 7)) 24 false [],
 ag 26 (.bin .gtr (.t 25) (.c (i64 0))) 24 false [],
 ag 27 (.mv (.t 26)) 24 false [],
 ag 28 (.load none (.t 5)) 27 true [],
 ag 29 (.mv (.t 8)) 27 true [],
 ag 30 (.call 34 [(.t 28),(.t 29)]) 27 true [],
 ag 31 (.un .not (.t 30)) 27 true [],
 ag 32 (.pick (.t 27) (.t 31) (.c (.bool false))) 24 false [],
 ao 33 (.pick (.t 24) (.c (.bool true)) (.t 32))] [6,33]) (.cond (.t 33) (.seq (.region false [
 ⟨none, .store 1 (.t 6) (.c (.bool false)),none,[],[]⟩] [6]) (.ret)) (.skip))))
def b40:AC:=
 .seq (.region false [
 ao 3 (.box (.t 0)),
 ao 5 (.box (.t 2)),
 ao 6 (.alloc [(.bool false)])] [1,3,5,6]) (.seq (.region false [
 ao 7 (.alloc [(i64 0)]),
 ⟨none, .store 1 (.t 7) (.c (i64 0)),none,[],[]⟩] [1,3,5,6,7]) (.seq (.seq (.region false [
 ao 10 (.mv (.t 1)),
 ao 11 (.call 63 [(.t 10)])] [3,5,6,7,11]) (.block 0 (.rng 640 [12,13] b40l0 b40l1 (.t 11)))) (.seq (.region false [
 ⟨none, .store 1 (.t 6) (.c (.bool true)),none,[],[]⟩] [6]) (.ret))))
def a40:AFn:=⟨3,[.cell 6 none],b40,false⟩
def n40:Ann:=⟨[[1,3,5,6],[1,3,5,6,7],[3,5,6,7,11],[3,5,6,7,8,13],[3,5,6,7,8,9],[5,6,7,8],[6,33],[6],[6]],[],[640],[],[],false,[]⟩
def b41:AC:=
 .seq (.region false [
 ao 2 (.box (.t 0)),
 ao 4 (.mv (.c .nilp)),
 ao 5 (.mv (.c (i64 0)))] [1,2]) (.seq (.seq (.region false [
 ao 8 (.load (some 4) (.t 2)),
 ao 9 (.mv (.t 1)),
 ao 10 (.call 64 [(.t 8),(.t 9)]),
 ao 6 (.mv (.t 10))] [2,6]) (.seq (.region false [
 ao 11 (.mv (.t 6)),
 ao 12 (.bin .neq (.t 11) (.c (i64 0)))] [2,6,12]) (.cond (.t 12) (.seq (.region false [
 ao 13 (.mv (.t 6)),
 ao 4 (.mv (.c .nilp)),
 ao 5 (.mv (.t 13))] [4,5]) (.ret)) (.skip)))) (.seq (.region false [
 ao 14 (.load (some 4) (.t 2)),
 ao 15 (.call 65 [(.t 14),(.c (i64 (-1)))]),
 ao 7 (.mv (.t 15))] [7]) (.seq (.seq (.region false [
 ao 16 (.mv (.t 7)),
 ao 17 (.nilck (.t 16)),
 ao 18 (.faddr 4 (.t 17)),
 ao 19 (.call 66 [(.t 18)])] [7,19]) (.cond (.t 19) (.seq (.region false [
 ao 4 (.mv (.c .nilp)),
 ao 5 (.mv (.c (i64 3)))] [4,5]) (.ret)) (.skip))) (.seq (.region false [
 ao 20 (.mv (.t 7)),
 ao 4 (.mv (.t 20)),
 ao 5 (.mv (.c (i64 0)))] [4,5]) (.ret)))))
def a41:AFn:=⟨2,[.t 4, .t 5],b41,false⟩
def n41:Ann:=⟨[[1,2],[2,6],[2,6,12],[4,5],[7],[7,19],[4,5],[4,5]],[],[],[],[],false,[(4,240),(20,240),(16,240),(7,240),(5,160),(13,160),(11,160),(6,160)]⟩
def b42:AC:=
 .seq (.region false [
 ao 6 (.alloc [(i64 0),(i64 0)])] [0,1,2,6]) (.seq (.region true (spl [
 ao 7 (.mv (.t 0)),
 ao 8 (.mv (.t 2)),
 ao 9 (.mv (.t 1)),
 ap 10 (.nilck (.t 7)) [0],
 ap 11 (.idxa 21 21 (.t 10) (.t 8)) [3,1,0],
 ap 12 (.idxa 21 1 (.t 11) (.t 9)) [4,2,3,1,0],
 ap 13 (.load none (.t 12)) [5,4,2,3,1,0],
 ap 14 (.un .neg (.t 13)) [6,5,4,2,3,1,0],
 ao 15 (.mv (.t 0)),
 ao 16 (.mv (.t 1)),
 ao 17 (.mv (.t 2)),
 ap 18 (.nilck (.t 15)) [8],
 ap 19 (.idxa 21 21 (.t 18) (.t 16)) [11,9,8],
 ap 20 (.idxa 21 1 (.t 19) (.t 17)) [12,10,11,9,8],
 ap 21 (.load none (.t 20)) [13,12,10,11,9,8]] [
 ap 22 (.build [(i64 0),(i64 0)] [(0,1,(.t 14)),(1,1,(.t 21))]) [7,14,6,5,4,2,3,1,0,13,12,10,11,9,8],
 ⟨none, .store 2 (.t 6) (.t 22),none,[15,7,14,6,5,4,2,3,1,0,13,12,10,11,9,8],[]⟩]) [6]) (.ret))
def a42:AFn:=⟨3,[.cell 6 (some 2)],b42,false⟩
def n42:Ann:=⟨[[0,1,2,6],[6]],[],[],[],[],false,[]⟩
def b43:AC:=
 .seq (.region false [
 ao 6 (.mv (.c (i64 0)))] [0,1,2]) (.seq (.seq (.region false [
 ao 7 (.mv (.t 2)),
 ao 8 (.mv (.t 0)),
 ao 9 (.nilck (.t 8)),
 ao 10 (.faddr 0 (.t 9)),
 ao 11 (.faddr 0 (.t 10)),
 ao 12 (.load none (.t 11)),
 ao 13 (.bin .eql (.t 7) (.t 12))] [0,1,2,13]) (.cond (.t 13) (.seq (.region false [
 ao 6 (.mv (.c (i64 0)))] [6]) (.ret)) (.skip))) (.seq (.region false [
 ao 14 (.mv (.t 1)),
 ao 15 (.mv (.t 0)),
 ao 16 (.nilck (.t 15)),
 ao 17 (.faddr 0 (.t 16)),
 ao 18 (.faddr 0 (.t 17)),
 ao 19 (.load none (.t 18)),
 ao 20 (.bin .mul (.t 14) (.t 19)),
 ao 21 (.bin .add (.c (i64 1)) (.t 20)),
 ao 22 (.mv (.t 2)),
 ao 23 (.bin .add (.t 21) (.t 22)),
 ao 6 (.mv (.t 23))] [6]) (.ret)))
def a43:AFn:=⟨3,[.t 6],b43,false⟩
def n43:Ann:=⟨[[0,1,2],[0,1,2,13],[6],[6]],[],[],[],[],false,[]⟩
def b44:AC:=
 .seq (.region false [
 ao 3 (.box (.t 0)),
 ao 6 (.mv (.c (.bool false)))] [1,2,3]) (.seq (.region false [
 ao 7 (.mv (.t 1)),
 ao 8 (.faddr 1 (.t 3)),
 ao 9 (.load none (.t 8)),
 ao 10 (.bin .sub (.t 9) (.c (i64 1))),
 ao 11 (.call 39 [(.t 7),(.c (i64 0)),(.t 10)]),
 ao 12 (.mv (.t 11)),
 ag 13 (.mv (.t 2)) 12 true [],
 ag 14 (.faddr 0 (.t 3)) 12 true [],
 ag 15 (.load none (.t 14)) 12 true [],
 ag 16 (.bin .sub (.t 15) (.c (i64 1))) 12 true [],
 ag 17 (.call 39 [(.t 13),(.c (i64 0)),(.t 16)]) 12 true [],
 ao 18 (.pick (.t 12) (.t 17) (.c (.bool false))),
 ao 6 (.mv (.t 18))] [6]) (.ret))
def a44:AFn:=⟨3,[.t 6],b44,false⟩
def n44:Ann:=⟨[[1,2,3],[6]],[],[],[],[],false,[(12,176)]⟩
def b45:AC:=
 .seq (.region false [
 ao 6 (.alloc [(i64 0),(i64 0)])] [0,1,2,6]) (.seq (.region true (spl [
 ao 7 (.mv (.t 0)),
 ap 8 (.nilck (.t 7)) [0],
 ap 9 (.faddr 4 (.t 8)) [1,0],
 ao 10 (.mv (.t 0)),
 ao 11 (.mv (.t 1)),
 ao 12 (.mv (.t 2)),
 ap 13 (.bin .add (.t 12) (.c (i64 1))) [5],
 ap 14 (.call 43 [(.t 10),(.t 11),(.t 13)]) [3,4,6,5],
 ao 15 (.mv (.t 0)),
 ao 16 (.mv (.t 1)),
 ao 17 (.mv (.t 2)),
 ap 18 (.call 43 [(.t 15),(.t 16),(.t 17)]) [8,9,10,7,3,4,6,5]] [
 ap 19 (.call 42 [(.t 9),(.t 14),(.t 18)]) [2,11,1,0,8,9,10,7,3,4,6,5],
 ⟨none, .store 2 (.t 6) (.t 19),none,[12,2,11,1,0,8,9,10,7,3,4,6,5],[]⟩]) [6]) (.ret))
def a45:AFn:=⟨3,[.cell 6 (some 2)],b45,false⟩
def n45:Ann:=⟨[[0,1,2,6],[6]],[],[],[],[],false,[]⟩
def b46:AC:=
 .seq (.region false [
 ao 6 (.mv (.c (.bool false)))] [0,1,2]) (.seq (.region false [
 ao 7 (.mv (.t 1)),
 ao 8 (.mv (.t 0)),
 ao 9 (.bin .leq (.t 7) (.t 8)),
 ao 10 (.mv (.t 9)),
 ag 11 (.mv (.t 0)) 10 true [],
 ag 12 (.mv (.t 2)) 10 true [],
 ag 13 (.bin .leq (.t 11) (.t 12)) 10 true [],
 ao 14 (.pick (.t 10) (.t 13) (.c (.bool false))),
 ao 6 (.mv (.t 14))] [6]) (.ret))
def a46:AFn:=⟨3,[.t 6],b46,false⟩
def n46:Ann:=⟨[[0,1,2],[6]],[],[],[],[],false,[]⟩
def b47:AC:=
 .seq (.region false [
 ao 8 (.alloc [(i64 0),(i64 0),(i64 0),(i64 0)])] [0,1,2,3,8]) (.seq (.region false [
 ao 9 (.mv (.t 0)),
 ao 10 (.mv (.t 1)),
 ao 11 (.mv (.t 2)),
 ao 12 (.mv (.t 3)),
 ao 13 (.build [(i64 0),(i64 0),(i64 0),(i64 0)] [(0,1,(.t 9)),(1,1,(.t 10)),(2,1,(.t 11)),(3,1,(.t 12))]),
 ⟨none, .store 4 (.t 8) (.t 13),none,[],[]⟩] [8]) (.ret))
def a47:AFn:=⟨4,[.cell 8 (some 4)],b47,false⟩
def n47:Ann:=⟨[[0,1,2,3,8],[8]],[],[],[],[],false,[]⟩
def b48:AC:=
 .seq (.region false [
 ao 2 (.box (.t 0)),
 ao 3 (.box (.t 1)),
 ao 4 (.alloc [(i64 0),(i64 0),(.sl .full 1 []),(.sl .full 4 [])])] [2,3,4]) (.seq (.region false [
 ao 6 (.load (some 4) (.t 2)),
 ao 7 (.call 20 [(.t 6)]),
 ao 5 (.alloc [(i64 0),(i64 0),(.sl .full 1 []),(.sl .full 4 [])]),
 ⟨none, .store 4 (.t 5) (.t 7),none,[],[]⟩] [3,4,5]) (.seq (.seq (.freeze [112,1112,2112,3112,4112,5112,6112,7112,8112]) (.region false [
 ao 8 (.faddr 3 (.t 5)),
 ao 9 (.load none (.t 8)),
 ao 10 (.load (some 4) (.t 3)),
 ao 11 (.lit [(i64 0),(i64 0),(i64 0),(i64 0)] 1 [(0,(.t 10))]),
 ao 12 (.app 4 32 (.t 9) (.t 11)),
 ao 13 (.faddr 3 (.t 5)),
 ⟨none, .store 1 (.t 13) (.t 12),none,[],[]⟩] [4,5])) (.seq (.region false [
 ao 14 (.load (some 4) (.t 5)),
 ⟨none, .store 4 (.t 4) (.t 14),none,[],[]⟩] [4]) (.ret))))
def a48:AFn:=⟨2,[.cell 4 (some 4)],b48,false⟩
def n48:Ann:=⟨[[2,3,4],[3,4,5],[4,5],[4]],[],[],[[],[],[112,1112,2112,3112,4112,5112,6112,7112,8112],[]],[],false,[]⟩
@[simp] def d49l0:AC:=
 .seq (.region false [
 ao 34 (.bin .lss (.t 33) (.t 32))] [0,3,7,31,32,33,34]) (.seq (.cond (.t 34) (.skip) (.exit 0)) (.seq (.block 1 (.seq (.region false [
 ao 35 (.idxs 1 (.t 31) (.t 33)),
 ao 36 (.load none (.t 35)),
 ao 9 (.mv (.t 36))] [0,3,7,9,31,32,33]) (.region false [
 ao 37 (.mv (.t 7)),
 ao 38 (.mv (.t 0)),
 ao 39 (.load (some 5) (.t 3)),
 ao 40 (.mv (.t 9)),
 ao 41 (.call 68 [(.t 38),(.t 39),(.t 40)]),
 ao 42 (.mm true (.t 37) (.t 41)),
 ao 7 (.mv (.t 42))] [0,3,7,31,32,33]))) (.region false [
 ao 43 (.bin .add (.t 33) (.c (i64 1))),
 ao 33 (.mv (.t 43))] [0,3,7,31,32,33])))
def b49l0:AC:= .loop [0,3,7,31,32,33] [48,256] d49l0
def b49:AC:=
 .seq (.region false [
 ao 3 (.box (.t 1)),
 ao 4 (.mv (.c (i64 0)))] [0,3]) (.seq (.seq (.region false [
 ao 10 (.faddr 0 (.t 3)),
 ao 11 (.load none (.t 10)),
 ao 12 (.bin .eql (.t 11) (.c (i64 0)))] [0,3,12]) (.cond (.t 12) (.seq (.region false [
 ao 13 (.mv (.t 0)),
 ao 14 (.faddr 2 (.t 3)),
 ao 15 (.load (some 3) (.t 14)),
 ao 16 (.call 67 [(.t 13),(.t 15)]),
 ao 4 (.mv (.t 16))] [4]) (.ret)) (.skip))) (.seq (.seq (.region true (spl [
 ao 18 (.mv (.t 0)),
 ap 19 (.nilck (.t 18)) [0],
 ap 20 (.faddr 6 (.t 19)) [1,0],
 ap 21 (.load none (.t 20)) [2,1,0],
 ao 22 (.load (some 5) (.t 3)),
 ap 23 (.mget (some 5) true (.t 21) (.t 22)) [3,4,2,1,0],
 ap 17 (.mv (.t 23)) [5,3,4,2,1,0],
 ap 24 (.ext (.t 17) 0) [6,5,3,4,2,1,0],
 ap 25 (.ext (.t 17) 1) [6,5,3,4,2,1,0],
 ap 5 (.mv (.t 24)) [7,6,5,3,4,2,1,0]] [
 ap 6 (.mv (.t 25)) [8,9,7,6,5,3,4,2,1,0]]) [0,3,5,6]) (.seq (.region false [
 ao 26 (.mv (.t 6))] [0,3,5,26]) (.cond (.t 26) (.seq (.region false [
 ao 27 (.mv (.t 5)),
 ao 4 (.mv (.t 27))] [4]) (.ret)) (.skip)))) (.seq (.region false [
 ao 7 (.mv (.c (i64 0)))] [0,3,7]) (.seq (.seq (.region false [
 ao 28 (.mv (.t 0)),
 ao 29 (.nilck (.t 28)),
 ao 30 (.faddr 5 (.t 29)),
 ao 31 (.load none (.t 30)),
 ao 32 (.len (.t 31)),
 ao 33 (.mv (.c (i64 0)))] [0,3,7,31,32,33]) (.block 0 (b49l0))) (.seq (.region true (spl [
 ao 44 (.mv (.t 0)),
 ap 45 (.nilck (.t 44)) [0],
 ap 46 (.faddr 6 (.t 45)) [1,0],
 ap 47 (.load none (.t 46)) [2,1,0],
 ao 48 (.load (some 5) (.t 3)),
 ao 49 (.mv (.t 7))] [
 ⟨none, .mput (some 5) (.t 47) (.t 48) (.t 49),none,[3,4,5,2,1,0],[]⟩]) [7]) (.seq (.region false [
 ao 50 (.mv (.t 7)),
 ao 4 (.mv (.t 50))] [4]) (.ret)))))))
def a49:AFn:=⟨2,[.t 4],b49,false⟩
def n49:Ann:=⟨[[0,3],[0,3,12],[4],[0,3,5,6],[0,3,5,26],[4],[0,3,7],[0,3,7,31,32,33],[0,3,7,31,32,33,34],[0,3,7,9,31,32,33],[0,3,7,31,32,33],[0,3,7,31,32,33],[7],[4]],[⟨[],[0,3,7,31,32,33],[48,256]⟩],[],[],[],false,[(4,256)]⟩
def b50:AC:=
 .seq (.region false [
 ao 1 (.box (.t 0)),
 ao 2 (.mv (.c (i64 0)))] [1]) (.seq (.region false [
 ao 6 (.faddr 0 (.t 1)),
 ao 7 (.load none (.t 6)),
 ao 8 (.bin .sub (.t 7) (.c (i64 1))),
 ao 3 (.alloc [(i64 0)]),
 ⟨none, .store 1 (.t 3) (.t 8),none,[],[]⟩] [1,3]) (.seq (.region false [
 ao 9 (.mkfn 69 [] [(.t 3)]),
 ao 4 (.mv (.t 9))] [1,3,4]) (.seq (.region false [
 ao 10 (.mkfn 70 [] [(.t 3)]),
 ao 5 (.mv (.t 10))] [1,4,5]) (.seq (.seq (.region false [
 ao 11 (.faddr 0 (.t 1)),
 ao 12 (.load none (.t 11)),
 ao 13 (.call 56 [(.t 12),(.c (i64 1)),(.c (i64 4))]),
 ao 14 (.un .not (.t 13)),
 ao 15 (.mv (.t 14)),
 ag 16 (.faddr 1 (.t 1)) 15 false [],
 ag 17 (.load none (.t 16)) 15 false [],
 ag 18 (.call 56 [(.t 17),(.c (i64 0)),(.c (i64 4))]) 15 false [],
 ag 19 (.un .not (.t 18)) 15 false [],
 ao 20 (.pick (.t 15) (.c (.bool true)) (.t 19)),
 ao 21 (.mv (.t 20)),
 ag 22 (.faddr 2 (.t 1)) 21 false [],
 ag 23 (.load none (.t 22)) 21 false [],
 ag 24 (.call 56 [(.t 23),(.c (i64 0)),(.c (i64 3))]) 21 false [],
 ag 25 (.un .not (.t 24)) 21 false [],
 ao 26 (.pick (.t 21) (.c (.bool true)) (.t 25)),
 ao 27 (.mv (.t 26)),
 ag 28 (.faddr 3 (.t 1)) 27 false [],
 ag 29 (.load none (.t 28)) 27 false [],
 ag 30 (.len (.t 29)) 27 false [],
 ag 31 (.bin .gtr (.t 30) (.c (i64 5))) 27 false [],
 ao 32 (.pick (.t 27) (.c (.bool true)) (.t 31)),
 ao 33 (.mv (.t 32)),
 ag 34 (.faddr 3 (.t 1)) 33 false [],
 ag 35 (.load none (.t 34)) 33 false [],
 ag 36 (.mv (.t 4)) 33 false [],
 ag 37 (.call 71 [(.t 35),(.t 36)]) 33 false [],
 ao 38 (.pick (.t 33) (.c (.bool true)) (.t 37)),
 ao 39 (.mv (.t 38)),
 ag 40 (.faddr 4 (.t 1)) 39 false [],
 ag 41 (.load none (.t 40)) 39 false [],
 ag 42 (.len (.t 41)) 39 false [],
 ag 43 (.bin .gtr (.t 42) (.c (i64 3))) 39 false [],
 ao 44 (.pick (.t 39) (.c (.bool true)) (.t 43)),
 ao 45 (.mv (.t 44)),
 ag 46 (.faddr 4 (.t 1)) 45 false [],
 ag 47 (.load none (.t 46)) 45 false [],
 ag 48 (.mv (.t 5)) 45 false [],
 ag 49 (.call 72 [(.t 47),(.t 48)]) 45 false [],
 ao 50 (.pick (.t 45) (.c (.bool true)) (.t 49))] [50]) (.cond (.t 50) (.seq (.region false [
 ao 2 (.mv (.c (i64 30)))] [2]) (.ret)) (.skip))) (.seq (.region false [
 ao 2 (.mv (.c (i64 0)))] [2]) (.ret))))))
def a50:AFn:=⟨1,[.t 2],b50,false⟩
def n50:Ann:=⟨[[1],[1,3],[1,3,4],[1,4,5],[50],[2],[2]],[],[],[],[],false,[]⟩
@[simp] def d51l0:AC:=
 .seq (.seq (.region false [
 ao 5 (.mv (.t 0)),
 ao 6 (.mv (.t 4)),
 ao 7 (.bin .shr (.t 5) (.t 6)),
 ao 8 (.bin .gtr (.t 7) (.c (i64 0)))] [0,3,4,8]) (.cond (.t 8) (.skip) (.exit 0))) (.seq (.block 1 (.seq (.region false [
 ao 11 (.mv (.t 0)),
 ao 12 (.mv (.t 4)),
 ao 13 (.bin .shr (.t 11) (.t 12)),
 ao 14 (.bin .and (.t 13) (.c (i64 1))),
 ao 15 (.bin .eql (.t 14) (.c (i64 1)))] [0,3,4,15]) (.cond (.t 15) (.region false [
 ao 16 (.mv (.t 3)),
 ao 17 (.mv (.t 4)),
 ao 18 (.lit [(i64 0)] 1 [(0,(.t 17))]),
 ao 19 (.app 1 8 (.t 16) (.t 18)),
 ao 3 (.mv (.t 19))] [0,3,4]) (.skip)))) (.region false [
 ao 9 (.mv (.t 4)),
 ao 10 (.bin .add (.t 9) (.c (i64 1))),
 ao 4 (.mv (.t 10))] [0,3,4]))
def b51l0:AC:= .loop [0,3,4] [49] d51l0
def b51:AC:=
 .seq (.region false [
 ao 2 (.mv (.c (.sl .full 1 [])))] [0]) (.seq (.region false [
 ao 3 (.mv (.c (.sl .full 1 [])))] [0,3]) (.seq (.seq (.region false [
 ao 4 (.mv (.c (i64 0)))] [0,3,4]) (.block 0 (.seq (.thaw 3 49 1) (b51l0)))) (.seq (.region false [
 ao 20 (.mv (.t 3)),
 ao 2 (.mv (.t 20))] [2]) (.ret))))
def a51:AFn:=⟨1,[.t 2],b51,false⟩
def n51:Ann:=⟨[[0],[0,3],[0,3,4],[0,3,4,8],[0,3,4,15],[0,3,4],[0,3,4],[2]],[⟨[.t 3 49 1],[0,3,4],[49]⟩],[],[],[],false,[]⟩
def b53:AC:=
 .seq (.region false [
 ao 4 (.mv (.c (i64 0)))] [0,1]) (.seq (.region false [
 ao 7 (.mv (.t 0)),
 ao 8 (.call 51 [(.t 7)]),
 ao 9 (.mv (.t 1)),
 ao 10 (.call 51 [(.t 9)]),
 ao 5 (.mv (.t 8)),
 ao 6 (.mv (.t 10))] [5,6]) (.seq (.region false [
 ao 11 (.mv (.t 5)),
 ao 12 (.len (.t 11)),
 ao 13 (.mv (.t 6)),
 ao 14 (.len (.t 13)),
 ao 15 (.bin .sub (.t 12) (.t 14)),
 ao 16 (.mv (.t 5)),
 ao 17 (.mv (.t 6)),
 ao 18 (.call 55 [(.t 16),(.t 17)]),
 ao 19 (.lit [(i64 0)] 2 [(0,(.t 15)),(1,(.t 18))]),
 ao 20 (.call 54 [(.t 19)]),
 ao 4 (.mv (.t 20))] [4]) (.ret)))
def a53:AFn:=⟨2,[.t 4],b53,false⟩
def n53:Ann:=⟨[[0,1],[5,6],[4]],[],[],[],[],false,[(4,320),(17,160),(16,128),(13,160),(11,128),(6,160),(5,128)]⟩
@[simp] def d54l0:AC:=
 .seq (.region false [
 ao 9 (.bin .lss (.t 8) (.t 7))] [3,6,7,8,9]) (.seq (.cond (.t 9) (.skip) (.exit 0)) (.seq (.block 1 (.seq (.region false [
 ao 10 (.idxs 1 (.t 6) (.t 8)),
 ao 11 (.load none (.t 10)),
 ao 5 (.mv (.t 11))] [3,5,6,7,8]) (.seq (.region false [
 ao 12 (.mv (.t 5)),
 ao 13 (.mv (.t 3)),
 ao 14 (.bin .neq (.t 12) (.t 13))] [3,5,6,7,8,14]) (.cond (.t 14) (.seq (.region false [
 ao 15 (.mv (.t 5)),
 ao 2 (.mv (.t 15))] [2]) (.ret)) (.skip))))) (.region false [
 ao 16 (.bin .add (.t 8) (.c (i64 1))),
 ao 8 (.mv (.t 16))] [3,6,7,8])))
def b54l0:AC:= .loop [3,6,7,8] [] d54l0
def b54:AC:=
 .seq (.region false [
 ao 2 (.mv (.c (i64 0)))] [0]) (.seq (.region false [
 ao 3 (.mv (.c (i64 0)))] [0,3]) (.seq (.seq (.region false [
 ao 6 (.mv (.t 0)),
 ao 7 (.len (.t 6)),
 ao 8 (.mv (.c (i64 0)))] [3,6,7,8]) (.block 0 (b54l0))) (.seq (.region false [
 ao 17 (.mv (.t 3)),
 ao 2 (.mv (.t 17))] [2]) (.ret))))
def a54:AFn:=⟨1,[.t 2],b54,false⟩
def n54:Ann:=⟨[[0],[0,3],[3,6,7,8],[3,6,7,8,9],[3,5,6,7,8],[3,5,6,7,8,14],[2],[3,6,7,8],[2]],[⟨[],[3,6,7,8],[]⟩],[],[],[],false,[]⟩
@[simp] def d55l0:AC:=
 .seq (.region false [
 ao 12 (.bin .lss (.t 11) (.t 10))] [0,1,9,10,11,12]) (.seq (.cond (.t 12) (.skip) (.exit 0)) (.seq (.block 1 (.seq (.region false [
 ao 13 (.mv (.t 11)),
 ao 14 (.idxs 1 (.t 9) (.t 11)),
 ao 15 (.load none (.t 14)),
 ao 5 (.mv (.t 13)),
 ao 6 (.mv (.t 15))] [0,1,5,6,9,10,11]) (.seq (.seq (.region false [
 ao 16 (.mv (.t 5)),
 ao 17 (.mv (.t 1)),
 ao 18 (.len (.t 17)),
 ao 19 (.bin .geq (.t 16) (.t 18))] [0,1,5,6,9,10,11,19]) (.cond (.t 19) (.seq (.region false [
 ao 4 (.mv (.c (i64 1)))] [4]) (.ret)) (.skip))) (.seq (.region false [
 ao 20 (.mv (.t 1)),
 ao 21 (.mv (.t 5)),
 ao 22 (.idxs 1 (.t 20) (.t 21)),
 ao 23 (.load none (.t 22)),
 ao 7 (.mv (.t 23))] [0,1,6,7,9,10,11]) (.seq (.region false [
 ao 24 (.mv (.t 6)),
 ao 25 (.mv (.t 7)),
 ao 26 (.call 75 [(.t 24),(.t 25)]),
 ao 8 (.mv (.t 26))] [0,1,8,9,10,11]) (.seq (.region false [
 ao 27 (.mv (.t 8)),
 ao 28 (.bin .neq (.t 27) (.c (i64 0)))] [0,1,8,9,10,11,28]) (.cond (.t 28) (.seq (.region false [
 ao 29 (.mv (.t 8)),
 ao 4 (.mv (.t 29))] [4]) (.ret)) (.skip)))))))) (.region false [
 ao 30 (.bin .add (.t 11) (.c (i64 1))),
 ao 11 (.mv (.t 30))] [0,1,9,10,11])))
def b55l0:AC:= .loop [0,1,9,10,11] [] d55l0
def b55:AC:=
 .seq (.region false [
 ao 4 (.mv (.c (i64 0)))] [0,1]) (.seq (.seq (.region false [
 ao 9 (.mv (.t 0)),
 ao 10 (.len (.t 9)),
 ao 11 (.mv (.c (i64 0)))] [0,1,9,10,11]) (.block 0 (b55l0))) (.seq (.seq (.region false [
 ao 31 (.mv (.t 0)),
 ao 32 (.len (.t 31)),
 ao 33 (.mv (.t 1)),
 ao 34 (.len (.t 33)),
 ao 35 (.bin .lss (.t 32) (.t 34))] [35]) (.cond (.t 35) (.seq (.region false [
 ao 4 (.mv (.c (i64 (-1))))] [4]) (.ret)) (.skip))) (.seq (.region false [
 ao 4 (.mv (.c (i64 0)))] [4]) (.ret))))
def a55:AFn:=⟨2,[.t 4],b55,false⟩
def n55:Ann:=⟨[[0,1],[0,1,9,10,11],[0,1,9,10,11,12],[0,1,5,6,9,10,11],[0,1,5,6,9,10,11,19],[4],[0,1,6,7,9,10,11],[0,1,8,9,10,11],[0,1,8,9,10,11,28],[4],[0,1,9,10,11],[35],[4],[4]],[⟨[],[0,1,9,10,11],[]⟩],[],[],[],false,[(4,416),(29,416),(27,416),(8,416)]⟩
def b56:AC:=
 .seq (.region false [
 ao 6 (.mv (.c (.bool false)))] [0,1,2]) (.seq (.region false [
 ao 7 (.mv (.t 0)),
 ao 8 (.mv (.t 1)),
 ao 9 (.bin .geq (.t 7) (.t 8)),
 ao 10 (.mv (.t 9)),
 ag 11 (.mv (.t 0)) 10 true [],
 ag 12 (.mv (.t 2)) 10 true [],
 ag 13 (.bin .leq (.t 11) (.t 12)) 10 true [],
 ao 14 (.pick (.t 10) (.t 13) (.c (.bool false))),
 ao 6 (.mv (.t 14))] [6]) (.ret))
def a56:AFn:=⟨3,[.t 6],b56,false⟩
def n56:Ann:=⟨[[0,1,2],[6]],[],[],[],[],false,[]⟩
@[simp] def d57l0:AC:=
 .seq (.region false [
 ao 9 (.bin .lss (.t 8) (.t 7))] [0,1,7,8,9]) (.seq (.cond (.t 9) (.skip) (.exit 0)) (.seq (.block 1 (.seq (.region false [
 ao 10 (.mv (.t 8)),
 ao 5 (.mv (.t 10))] [0,1,5,7,8]) (.seq (.region false [
 ao 11 (.mv (.t 1)),
 ao 12 (.mv (.t 0)),
 ao 13 (.mv (.t 5)),
 ao 14 (.idxs 1 (.t 12) (.t 13)),
 ao 15 (.load none (.t 14)),
 ao 16 (.bin .eql (.t 11) (.t 15))] [0,1,5,7,8,16]) (.cond (.t 16) (.seq (.region false [
 ao 17 (.mv (.t 5)),
 ao 4 (.mv (.t 17))] [4]) (.ret)) (.skip))))) (.region false [
 ao 18 (.bin .add (.t 8) (.c (i64 1))),
 ao 8 (.mv (.t 18))] [0,1,7,8])))
def b57l0:AC:= .loop [0,1,7,8] [] d57l0
def b57:AC:=
 .seq (.region false [
 ao 4 (.mv (.c (i64 0)))] [0,1]) (.seq (.seq (.region false [
 ao 6 (.mv (.t 0)),
 ao 7 (.len (.t 6)),
 ao 8 (.mv (.c (i64 0)))] [0,1,7,8]) (.block 0 (b57l0))) (.seq (.region false [
 ao 4 (.mv (.c (i64 (-1))))] [4]) (.ret)))
def a57:AFn:=⟨2,[.t 4],b57,false⟩
def n57:Ann:=⟨[[0,1],[0,1,7,8],[0,1,7,8,9],[0,1,5,7,8],[0,1,5,7,8,16],[4],[0,1,7,8],[4]],[⟨[],[0,1,7,8],[]⟩],[],[],[],false,[]⟩
@[simp] def d59l1:AC:=
 .seq (.seq (.region false [
 ao 29 (.mv (.t 5)),
 ao 30 (.mv (.t 4)),
 ao 31 (.len (.t 30)),
 ao 32 (.bin .lss (.t 29) (.t 31))] [0,3,4,5,32]) (.cond (.t 32) (.skip) (.exit 2))) (.seq (.block 3 (.seq (.region true (spl [
 ao 35 (.mv (.t 4)),
 ao 36 (.mv (.t 5)),
 ap 37 (.idxs 1 (.t 35) (.t 36)) [0,1],
 ap 38 (.load none (.t 37)) [2,0,1],
 ao 39 (.mv (.t 4)),
 ao 40 (.mv (.t 5)),
 ap 41 (.bin .sub (.t 40) (.c (i64 1))) [5],
 ap 42 (.idxs 1 (.t 39) (.t 41)) [4,6,5],
 ap 43 (.load none (.t 42)) [7,4,6,5]] [
 ap 44 (.bin .neq (.t 38) (.t 43)) [3,8,2,0,1,7,4,6,5]]) [0,3,4,5,44]) (.cond (.t 44) (.seq (.region false [
 ao 45 (.mv (.t 0)),
 ao 46 (.mv (.t 3)),
 ao 47 (.mv (.t 4)),
 ao 48 (.mv (.t 5)),
 ao 49 (.idxs 1 (.t 47) (.t 48)),
 ao 50 (.load none (.t 49)),
 ao 51 (.idxs 1 (.t 45) (.t 46)),
 ⟨none, .store 1 (.t 51) (.t 50),none,[],[]⟩] [0,3,4,5]) (.region false [
 ao 52 (.mv (.t 3)),
 ao 53 (.bin .add (.t 52) (.c (i64 1))),
 ao 3 (.mv (.t 53))] [0,3,4,5])) (.skip)))) (.region false [
 ao 33 (.mv (.t 5)),
 ao 34 (.bin .add (.t 33) (.c (i64 1))),
 ao 5 (.mv (.t 34))] [0,3,4,5]))
def b59l1:AC:= .loop [0,3,4,5] [] d59l1
@[simp] def d59l0:AC:=
 .seq (.seq (.region false [
 ao 10 (.mv (.t 3)),
 ao 11 (.mv (.t 0)),
 ao 12 (.len (.t 11)),
 ao 13 (.bin .lss (.t 10) (.t 12))] [0,3,13]) (.cond (.t 13) (.skip) (.exit 0))) (.seq (.block 1 (.seq (.region true (spl [
 ao 16 (.mv (.t 0)),
 ao 17 (.mv (.t 3)),
 ap 18 (.idxs 1 (.t 16) (.t 17)) [0,1],
 ap 19 (.load none (.t 18)) [2,0,1],
 ao 20 (.mv (.t 0)),
 ao 21 (.mv (.t 3)),
 ap 22 (.bin .sub (.t 21) (.c (i64 1))) [5],
 ap 23 (.idxs 1 (.t 20) (.t 22)) [4,6,5],
 ap 24 (.load none (.t 23)) [7,4,6,5]] [
 ap 25 (.bin .eql (.t 19) (.t 24)) [3,8,2,0,1,7,4,6,5]]) [0,3,25]) (.cond (.t 25) (.seq (.region false [
 ao 26 (.mv (.t 0)),
 ao 27 (.mv (.t 3)),
 ao 28 (.slice 1 (.t 26) (some (.t 27)) none none),
 ao 4 (.mv (.t 28))] [0,3,4]) (.seq (.seq (.region false [
 ao 5 (.mv (.c (i64 1)))] [0,3,4,5]) (.block 2 (b59l1))) (.seq (.region false [
 ao 54 (.mv (.t 0)),
 ao 55 (.mv (.t 3)),
 ao 56 (.slice 1 (.t 54) (some (.t 55)) none none),
 ⟨none, .clear [(i64 0)] (.t 56),none,[],[]⟩] [0,3]) (.seq (.region false [
 ao 57 (.mv (.t 0)),
 ao 58 (.mv (.t 3)),
 ao 59 (.slice 1 (.t 57) none (some (.t 58)) none),
 ao 2 (.mv (.t 59))] [2]) (.ret))))) (.skip)))) (.region false [
 ao 14 (.mv (.t 3)),
 ao 15 (.bin .add (.t 14) (.c (i64 1))),
 ao 3 (.mv (.t 15))] [0,3]))
def b59l0:AC:= .loop [0,3] [] d59l0
def b59:AC:=
 .seq (.region false [
 ao 2 (.mv (.c (.sl .full 1 [])))] [0]) (.seq (.seq (.region false [
 ao 6 (.mv (.t 0)),
 ao 7 (.len (.t 6)),
 ao 8 (.bin .lss (.t 7) (.c (i64 2)))] [0,8]) (.cond (.t 8) (.seq (.region false [
 ao 9 (.mv (.t 0)),
 ao 2 (.mv (.t 9))] [2]) (.ret)) (.skip))) (.seq (.seq (.region false [
 ao 3 (.mv (.c (i64 1)))] [0,3]) (.block 0 (b59l0))) (.seq (.region false [
 ao 60 (.mv (.t 0)),
 ao 2 (.mv (.t 60))] [2]) (.ret))))
def a59:AFn:=⟨1,[.t 2],b59,false⟩
def n59:Ann:=⟨[[0],[0,8],[2],[0,3],[0,3,13],[0,3,25],[0,3,4],[0,3,4,5],[0,3,4,5,32],[0,3,4,5,44],[0,3,4,5],[0,3,4,5],[0,3,4,5],[0,3],[2],[0,3],[2]],[⟨[],[0,3],[]⟩,⟨[],[0,3,4,5],[]⟩],[],[],[],false,[]⟩
def b60:AC:=
 .seq (.region false [
 ao 4 (.mv (.c (.bool false)))] [0,1]) (.seq (.region false [
 ao 5 (.mv (.t 0)),
 ao 6 (.mv (.t 1)),
 ao 7 (.call 77 [(.t 5),(.t 6)]),
 ao 8 (.bin .geq (.t 7) (.c (i64 0))),
 ao 4 (.mv (.t 8))] [4]) (.ret))
def a60:AFn:=⟨2,[.t 4],b60,false⟩
def n60:Ann:=⟨[[0,1],[4]],[],[],[],[],false,[]⟩
def b61:AC:=
 .seq (.region false [
 ao 2 (.box (.t 0)),
 ao 3 (.mv (.c (.bool false)))] [1,2]) (.seq (.region false [
 ao 4 (.load (some 4) (.t 1)),
 ao 5 (.load (some 4) (.t 2)),
 ao 6 (.call 62 [(.t 4),(.t 5)]),
 ao 7 (.un .not (.t 6)),
 ao 3 (.mv (.t 7))] [3]) (.ret))
def a61:AFn:=⟨2,[.t 3],b61,false⟩
def n61:Ann:=⟨[[1,2],[3]],[],[],[],[],false,[]⟩
def b62:AC:=
 .seq (.region false [
 ao 2 (.box (.t 0)),
 ao 3 (.box (.t 1)),
 ao 4 (.mv (.c (.bool false)))] [2,3]) (.seq (.region false [
 ao 5 (.load (some 4) (.t 2)),
 ao 6 (.faddr 0 (.t 3)),
 ao 7 (.load none (.t 6)),
 ao 8 (.faddr 1 (.t 3)),
 ao 9 (.load none (.t 8)),
 ao 10 (.call 44 [(.t 5),(.t 7),(.t 9)]),
 ao 11 (.mv (.t 10)),
 ag 12 (.faddr 2 (.t 3)) 11 true [],
 ag 13 (.load none (.t 12)) 11 true [],
 ag 14 (.faddr 3 (.t 3)) 11 true [],
 ag 15 (.load none (.t 14)) 11 true [],
 ag 16 (.call 39 [(.t 13),(.c (i64 0)),(.t 15)]) 11 true [],
 ao 17 (.pick (.t 11) (.t 16) (.c (.bool false))),
 ao 18 (.mv (.t 17)),
 ag 19 (.faddr 3 (.t 3)) 18 true [],
 ag 20 (.load none (.t 19)) 18 true [],
 ag 21 (.bin .leq (.t 20) (.c (i64 40))) 18 true [],
 ao 22 (.pick (.t 18) (.t 21) (.c (.bool false))),
 ao 4 (.mv (.t 22))] [4]) (.ret))
def a62:AFn:=⟨2,[.t 4],b62,false⟩
def n62:Ann:=⟨[[2,3],[4]],[],[],[],[],false,[(11,160)]⟩
def b63:AC:=
 .seq (.region false [
 ao 1 (.box (.t 0)),
 ao 2 (.mv (.c .nilf))] [1]) (.seq (.region false [
 ao 3 (.mkfn 78 [] [(.t 1)]),
 ao 2 (.mv (.t 3))] [2]) (.ret))
def a63:AFn:=⟨1,[.t 2],b63,false⟩
def n63:Ann:=⟨[[1],[2]],[],[],[],[],false,[]⟩
def b64:AC:=
 .seq (.region false [
 ao 2 (.box (.t 0)),
 ao 4 (.mv (.c (i64 0)))] [1,2]) (.seq (.seq (.region false [
 ao 6 (.load (some 4) (.t 2)),
 ao 7 (.call 38 [(.t 6)]),
 ao 5 (.mv (.t 7))] [1,5]) (.seq (.region false [
 ao 8 (.mv (.t 5)),
 ao 9 (.bin .neq (.t 8) (.c (i64 0)))] [1,5,9]) (.cond (.t 9) (.seq (.region false [
 ao 10 (.mv (.t 5)),
 ao 4 (.mv (.t 10))] [4]) (.ret)) (.skip)))) (.seq (.seq (.region false [
 ao 11 (.mv (.t 1)),
 ao 12 (.un .not (.t 11))] [12]) (.cond (.t 12) (.seq (.region false [
 ao 4 (.mv (.c (i64 1)))] [4]) (.ret)) (.skip))) (.seq (.region false [
 ao 4 (.mv (.c (i64 0)))] [4]) (.ret))))
def a64:AFn:=⟨2,[.t 4],b64,false⟩
def n64:Ann:=⟨[[1,2],[1,5],[1,5,9],[4],[12],[4],[4]],[],[],[],[],false,[(4,112),(10,112),(8,112),(5,112)]⟩
@[simp] def d65l1:AC:=
 .seq (.region false [
 ao 21 (.bin .lss (.t 20) (.c (i64 21)))] [1,2,5,6,17,20,21]) (.seq (.cond (.t 21) (.skip) (.exit 2)) (.seq (.block 3 (.seq (.region false [
 ao 22 (.mv (.t 20)),
 ao 7 (.mv (.t 22))] [1,2,5,6,7,17,20]) (.seq (.region false [
 ao 23 (.mv (.t 6)),
 ao 24 (.mv (.t 7)),
 ao 25 (.bin .neq (.t 23) (.t 24))] [1,2,5,6,7,17,20,25]) (.cond (.t 25) (.region false [
 ao 26 (.mv (.t 5)),
 ao 27 (.mv (.t 6)),
 ao 28 (.mv (.t 7)),
 ao 29 (.nilck (.t 26)),
 ao 30 (.faddr 4 (.t 29)),
 ao 31 (.idxa 21 21 (.t 30) (.t 27)),
 ao 32 (.idxa 21 1 (.t 31) (.t 28)),
 ⟨none, .store 1 (.t 32) (.c (i64 1048576)),none,[],[]⟩] [1,2,5,6,17,20]) (.skip))))) (.region false [
 ao 33 (.bin .add (.t 20) (.c (i64 1))),
 ao 20 (.mv (.t 33))] [1,2,5,6,17,20])))
def b65l1:AC:= .loop [1,2,5,6,17,20] [32,208,256,720,736,928,1008,1024,1136,1200,1296,1424,1536,1792] d65l1
@[simp] def d65l0:AC:=
 .seq (.region false [
 ao 18 (.bin .lss (.t 17) (.c (i64 21)))] [1,2,5,17,18]) (.seq (.cond (.t 18) (.skip) (.exit 0)) (.seq (.block 1 (.seq (.region false [
 ao 19 (.mv (.t 17)),
 ao 6 (.mv (.t 19))] [1,2,5,6,17]) (.seq (.region false [
 ao 20 (.mv (.c (i64 0)))] [1,2,5,6,17,20]) (.block 2 (b65l1))))) (.region false [
 ao 34 (.bin .add (.t 17) (.c (i64 1))),
 ao 17 (.mv (.t 34))] [1,2,5,17])))
def b65l0:AC:= .loop [1,2,5,17] [32,208,256,720,736,928,1008,1024,1136,1200,1296,1424,1536,1792] d65l0
@[simp] def d65l3:AC:=
 .seq (.region false [
 ao 50 (.bin .lss (.t 49) (.t 48))] [1,2,5,8,36,37,48,49,50]) (.seq (.cond (.t 50) (.skip) (.exit 6)) (.seq (.block 7 (.seq (.region false [
 ao 51 (.mv (.t 49)),
 ao 9 (.mv (.t 51))] [1,2,5,8,9,36,37,48,49]) (.seq (.region true (spl [
 ao 52 (.mv (.t 5)),
 ap 53 (.nilck (.t 52)) [0],
 ap 54 (.faddr 4 (.t 53)) [1,0],
 ao 55 (.mv (.t 5)),
 ao 56 (.mv (.t 8)),
 ao 57 (.mv (.t 9)),
 ap 58 (.call 43 [(.t 55),(.t 56),(.t 57)]) [3,4,5],
 ao 59 (.mv (.t 5)),
 ao 60 (.mv (.t 8)),
 ao 61 (.mv (.t 9)),
 ap 62 (.bin .add (.t 61) (.c (i64 1))) [9],
 ap 63 (.call 43 [(.t 59),(.t 60),(.t 62)]) [7,8,10,6,9,3,4,5]] [
 ap 64 (.call 79 [(.t 54),(.t 58),(.t 63),(.c (i64 0))]) [2,11,1,0,7,8,10,6,9,3,4,5]]) [1,2,5,8,9,36,37,48,49]) (.seq (.seq (.region false [
 ao 65 (.mv (.t 8)),
 ao 66 (.bin .eql (.t 65) (.c (i64 0)))] [1,2,5,8,9,36,37,48,49,66]) (.cond (.t 66) (.exit 7) (.skip))) (.seq (.region false [
 ao 67 (.mv (.t 5)),
 ao 68 (.mv (.t 8)),
 ao 69 (.bin .sub (.t 68) (.c (i64 1))),
 ao 70 (.mv (.t 9)),
 ao 71 (.call 43 [(.t 67),(.t 69),(.t 70)]),
 ao 72 (.mv (.t 5)),
 ao 73 (.mv (.t 8)),
 ao 74 (.mv (.t 9)),
 ao 75 (.call 43 [(.t 72),(.t 73),(.t 74)]),
 ao 10 (.mv (.t 71)),
 ao 11 (.mv (.t 75))] [1,2,5,8,9,10,11,36,37,48,49]) (.seq (.region false [
 ao 76 (.mv (.t 5)),
 ao 77 (.nilck (.t 76)),
 ao 78 (.faddr 4 (.t 77)),
 ao 79 (.mv (.t 11)),
 ao 80 (.mv (.t 10)),
 ao 81 (.call 79 [(.t 78),(.t 79),(.t 80),(.c (i64 0))])] [1,2,5,8,9,10,11,36,37,48,49]) (.seq (.region false [
 ao 82 (.faddr 2 (.t 2)),
 ao 83 (.load none (.t 82)),
 ao 84 (.mv (.t 8)),
 ao 85 (.bin .sub (.t 84) (.c (i64 1))),
 ao 86 (.idxs 1 (.t 83) (.t 85)),
 ao 87 (.load none (.t 86)),
 ao 88 (.mv (.t 9)),
 ao 89 (.call 34 [(.t 87),(.t 88)]),
 ao 90 (.un .not (.t 89))] [1,2,5,8,10,11,36,37,48,49,90]) (.cond (.t 90) (.region false [
 ao 91 (.mv (.t 5)),
 ao 92 (.nilck (.t 91)),
 ao 93 (.faddr 4 (.t 92)),
 ao 94 (.mv (.t 10)),
 ao 95 (.mv (.t 11)),
 ao 96 (.call 79 [(.t 93),(.t 94),(.t 95),(.c (i64 0))])] [1,2,5,8,36,37,48,49]) (.skip))))))))) (.region false [
 ao 97 (.bin .add (.t 49) (.c (i64 1))),
 ao 49 (.mv (.t 97))] [1,2,5,8,36,37,48,49])))
def b65l3:AC:= .loop [1,2,5,8,36,37,48,49] [32,208,256,720,736,1792] d65l3
@[simp] def d65l2:AC:=
 .seq (.region false [
 ao 38 (.bin .lss (.t 37) (.t 36))] [1,2,5,36,37,38]) (.seq (.cond (.t 38) (.skip) (.exit 4)) (.seq (.block 5 (.seq (.region false [
 ao 39 (.mv (.t 37)),
 ao 8 (.mv (.t 39))] [1,2,5,8,36,37]) (.seq (.region true (spl [
 ao 40 (.mv (.t 5)),
 ap 41 (.nilck (.t 40)) [0],
 ap 42 (.faddr 4 (.t 41)) [1,0],
 ao 43 (.mv (.t 5)),
 ao 44 (.mv (.t 8)),
 ap 45 (.call 43 [(.t 43),(.t 44),(.c (i64 0))]) [3,4]] [
 ap 46 (.call 79 [(.t 42),(.c (i64 0)),(.t 45),(.c (i64 40))]) [2,5,1,0,3,4]]) [1,2,5,8,36,37]) (.seq (.region false [
 ao 47 (.faddr 0 (.t 2)),
 ao 48 (.load none (.t 47)),
 ao 49 (.mv (.c (i64 0)))] [1,2,5,8,36,37,48,49]) (.block 6 (b65l3)))))) (.region false [
 ao 98 (.bin .add (.t 37) (.c (i64 1))),
 ao 37 (.mv (.t 98))] [1,2,5,36,37])))
def b65l2:AC:= .loop [1,2,5,36,37] [32,208,256,1792] d65l2
@[simp] def d65l4:AC:=
 .seq (.region false [
 ao 103 (.bin .lss (.t 102) (.t 101))] [1,5,100,101,102,103]) (.seq (.cond (.t 103) (.skip) (.exit 8)) (.seq (.block 9 (.seq (.region false [
 ao 104 (.mv (.t 102)),
 ao 105 (.idxs 4 (.t 100) (.t 102)),
 ao 106 (.load (some 4) (.t 105)),
 ao 13 (.alloc [(i64 0),(i64 0),(i64 0),(i64 0)]),
 ao 12 (.mv (.t 104)),
 ⟨none, .store 4 (.t 13) (.t 106),none,[],[]⟩] [1,5,12,13,100,101,102]) (.seq (.region false [
 ao 107 (.mv (.t 12)),
 ao 108 (.mv (.t 1)),
 ao 109 (.bin .neq (.t 107) (.t 108))] [1,5,13,100,101,102,109]) (.cond (.t 109) (.region false [
 ao 110 (.mv (.t 5)),
 ao 111 (.load (some 4) (.t 13)),
 ao 112 (.call 80 [(.t 110),(.t 111)])] [1,5,100,101,102]) (.skip))))) (.region false [
 ao 113 (.bin .add (.t 102) (.c (i64 1))),
 ao 102 (.mv (.t 113))] [1,5,100,101,102])))
def b65l4:AC:= .loop [1,5,100,101,102] [32,256,720,736,928,1008,1024,1136,1200,1296,1424,1536] d65l4
def b65:AC:=
 .seq (.region false [
 ao 2 (.box (.t 0)),
 ao 4 (.mv (.c .nilp))] [1,2]) (.seq (.region false [
 ao 14 (.load (some 4) (.t 2)),
 ao 15 (.build ([(i64 0),(i64 0),(.sl .full 1 []),(.sl .full 4 [])] ++zeroV 441) [(0,4,(.t 14))]),
 ao 16 (.box (.t 15)),
 ao 5 (.mv (.t 16))] [1,2,5]) (.seq (.seq (.region false [
 ao 17 (.mv (.c (i64 0)))] [1,2,5,17]) (.block 0 (b65l0))) (.seq (.seq (.region false [
 ao 35 (.faddr 1 (.t 2)),
 ao 36 (.load none (.t 35)),
 ao 37 (.mv (.c (i64 0)))] [1,2,5,36,37]) (.block 4 (b65l2))) (.seq (.seq (.region false [
 ao 99 (.faddr 3 (.t 2)),
 ao 100 (.load none (.t 99)),
 ao 101 (.len (.t 100)),
 ao 102 (.mv (.c (i64 0)))] [1,5,100,101,102]) (.block 8 (b65l4))) (.seq (.region false [
 ao 114 (.mv (.t 5)),
 ao 4 (.mv (.t 114))] [4]) (.ret))))))
def a65:AFn:=⟨2,[.t 4],b65,false⟩
def n65:Ann:=⟨[[1,2],[1,2,5],[1,2,5,17],[1,2,5,17,18],[1,2,5,6,17],[1,2,5,6,17,20],[1,2,5,6,17,20,21],[1,2,5,6,7,17,20],[1,2,5,6,7,17,20,25],[1,2,5,6,17,20],[1,2,5,6,17,20],[1,2,5,17],[1,2,5,36,37],[1,2,5,36,37,38],[1,2,5,8,36,37],[1,2,5,8,36,37],[1,2,5,8,36,37,48,49],[1,2,5,8,36,37,48,49,50],[1,2,5,8,9,36,37,48,49],[1,2,5,8,9,36,37,48,49],[1,2,5,8,9,36,37,48,49,66],[1,2,5,8,9,10,11,36,37,48,49],[1,2,5,8,9,10,11,36,37,48,49],[1,2,5,8,10,11,36,37,48,49,90],[1,2,5,8,36,37,48,49],[1,2,5,8,36,37,48,49],[1,2,5,36,37],[1,5,100,101,102],[1,5,100,101,102,103],[1,5,12,13,100,101,102],[1,5,13,100,101,102,109],[1,5,100,101,102],[1,5,100,101,102],[4]],[⟨[],[1,2,5,17],[32,208,256,720,736,928,1008,1024,1136,1200,1296,1424,1536,1792]⟩,⟨[],[1,2,5,6,17,20],[32,208,256,720,736,928,1008,1024,1136,1200,1296,1424,1536,1792]⟩,⟨[],[1,2,5,36,37],[32,208,256,1792]⟩,⟨[],[1,2,5,8,36,37,48,49],[32,208,256,720,736,1792]⟩,⟨[],[1,5,100,101,102],[32,256,720,736,928,1008,1024,1136,1200,1296,1424,1536]⟩],[],[],[],false,[(4,256),(114,256),(110,256),(95,1200),(94,1136),(91,256),(80,1136),(79,1200),(76,256),(11,1200),(10,1136),(72,256),(67,256),(59,256),(55,256),(52,256),(43,256),(40,256),(26,256),(5,256)]⟩
@[simp] def d66l0:AC:=
 .seq (.region false [
 ao 5 (.bin .lss (.t 4) (.c (i64 21)))] [0,4,5]) (.seq (.cond (.t 5) (.skip) (.exit 0)) (.seq (.block 1 (.seq (.region false [
 ao 6 (.mv (.t 4)),
 ao 3 (.mv (.t 6))] [0,3,4]) (.seq (.region false [
 ao 7 (.mv (.t 0)),
 ao 8 (.mv (.t 3)),
 ao 9 (.mv (.t 3)),
 ao 10 (.nilck (.t 7)),
 ao 11 (.idxa 21 21 (.t 10) (.t 8)),
 ao 12 (.idxa 21 1 (.t 11) (.t 9)),
 ao 13 (.load none (.t 12)),
 ao 14 (.bin .lss (.t 13) (.c (i64 0)))] [0,4,14]) (.cond (.t 14) (.seq (.region false [
 ao 2 (.mv (.c (.bool true)))] [2]) (.ret)) (.skip))))) (.region false [
 ao 15 (.bin .add (.t 4) (.c (i64 1))),
 ao 4 (.mv (.t 15))] [0,4])))
def b66l0:AC:= .loop [0,4] [] d66l0
def b66:AC:=
 .seq (.region false [
 ao 2 (.mv (.c (.bool false)))] [0]) (.seq (.seq (.region false [
 ao 4 (.mv (.c (i64 0)))] [0,4]) (.block 0 (b66l0))) (.seq (.region false [
 ao 2 (.mv (.c (.bool false)))] [2]) (.ret)))
def a66:AFn:=⟨1,[.t 2],b66,false⟩
def n66:Ann:=⟨[[0],[0,4],[0,4,5],[0,3,4],[0,4,14],[2],[0,4],[2]],[⟨[],[0,4],[]⟩],[],[],[],false,[]⟩
@[simp] def d67l0:AC:=
 .seq (.region false [
 ao 15 (.bin .lss (.t 14) (.t 13))] [0,3,5,12,13,14,15]) (.seq (.cond (.t 15) (.skip) (.exit 0)) (.seq (.block 1 (.seq (.region false [
 ao 16 (.mv (.t 14)),
 ao 17 (.idxs 2 (.t 12) (.t 14)),
 ao 18 (.load (some 2) (.t 17)),
 ao 7 (.alloc [(i64 0),(i64 0)]),
 ao 6 (.mv (.t 16)),
 ⟨none, .store 2 (.t 7) (.t 18),none,[],[]⟩] [0,3,5,6,7,12,13,14]) (.seq (.region true (spl [
 ao 19 (.mv (.t 6)),
 ap 20 (.idxa 3 1 (.t 3) (.t 19)) [0],
 ap 21 (.load none (.t 20)) [1,0],
 ao 22 (.mv (.t 0)),
 ap 23 (.nilck (.t 22)) [3],
 ap 24 (.faddr 0 (.t 23)) [4,3],
 ap 25 (.faddr 0 (.t 24)) [5,4,3],
 ap 26 (.load none (.t 25)) [6,5,4,3],
 ap 27 (.bin .sub (.t 26) (.c (i64 1))) [7,6,5,4,3]] [
 ap 28 (.bin .eql (.t 21) (.t 27)) [2,8,1,0,7,6,5,4,3]]) [0,3,5,7,12,13,14,28]) (.cond (.t 28) (.region false [
 ao 29 (.mv (.t 5)),
 ao 30 (.faddr 1 (.t 7)),
 ao 31 (.load none (.t 30)),
 ao 32 (.bin .add (.t 29) (.t 31)),
 ao 5 (.mv (.t 32))] [0,3,5,12,13,14]) (.skip))))) (.region false [
 ao 33 (.bin .add (.t 14) (.c (i64 1))),
 ao 14 (.mv (.t 33))] [0,3,5,12,13,14])))
def b67l0:AC:= .loop [0,3,5,12,13,14] [48] d67l0
def b67:AC:=
 .seq (.region false [
 ao 3 (.box (.t 1)),
 ao 4 (.mv (.c (i64 0)))] [0,3]) (.seq (.region false [
 ao 5 (.mv (.c (i64 0)))] [0,3,5]) (.seq (.seq (.region false [
 ao 8 (.mv (.t 0)),
 ao 9 (.nilck (.t 8)),
 ao 10 (.faddr 0 (.t 9)),
 ao 11 (.faddr 4 (.t 10)),
 ao 12 (.load none (.t 11)),
 ao 13 (.len (.t 12)),
 ao 14 (.mv (.c (i64 0)))] [0,3,5,12,13,14]) (.block 0 (b67l0))) (.seq (.region false [
 ao 34 (.mv (.t 5)),
 ao 4 (.mv (.t 34))] [4]) (.ret))))
def a67:AFn:=⟨2,[.t 4],b67,false⟩
def n67:Ann:=⟨[[0,3],[0,3,5],[0,3,5,12,13,14],[0,3,5,12,13,14,15],[0,3,5,6,7,12,13,14],[0,3,5,7,12,13,14,28],[0,3,5,12,13,14],[0,3,5,12,13,14],[4]],[⟨[],[0,3,5,12,13,14],[48]⟩],[],[],[],false,[]⟩
def b68l0:AC:=
 .region false [
 ao 8 (.alloc [(i64 0),(i64 0),(i64 0),(i64 0),(i64 0)]),
 ⟨none, .store 5 (.t 8) (.t 14),none,[],[]⟩] [3,7,8]
def b68l1:AC:=
 .block 1 (.seq (.region false [
 ao 15 (.load none (.t 3)),
 ao 16 (.load (some 5) (.t 8)),
 ao 17 (.call 49 [(.t 15),(.t 16)]),
 ao 9 (.mv (.t 17))] [7,9]) (.seq (.region false [
 ao 18 (.load none (.t 7)),
 ao 19 (.bin .lss (.t 18) (.c (i64 0))),
 ao 20 (.mv (.t 19)),
 ag 21 (.mv (.t 9)) 20 false [],
 ag 22 (.load none (.t 7)) 20 false [],
 ag 23 (.bin .lss (.t 21) (.t 22)) 20 false [],
 ao 24 (.pick (.t 20) (.c (.bool true)) (.t 23))] [7,9,24]) (.cond (.t 24) (.region false [
 ao 25 (.mv (.t 9)),
 ⟨none, .store 1 (.t 7) (.t 25),none,[],[]⟩] [7]) (.skip))))
def b68:AC:=
 .seq (.region false [
 ao 3 (.box (.t 0)),
 ao 4 (.box (.t 1)),
 ao 6 (.mv (.c (i64 0)))] [2,3,4]) (.seq (.region false [
 ao 7 (.alloc [(i64 0)]),
 ⟨none, .store 1 (.t 7) (.c (i64 (-1))),none,[],[]⟩] [2,3,4,7]) (.seq (.seq (.region false [
 ao 10 (.load none (.t 3)),
 ao 11 (.load (some 5) (.t 4)),
 ao 12 (.mv (.t 2)),
 ao 13 (.call 81 [(.t 10),(.t 11),(.t 12)])] [3,7,13]) (.block 0 (.rng 1088 [14] b68l0 b68l1 (.t 13)))) (.seq (.region false [
 ao 26 (.load none (.t 7)),
 ao 6 (.mv (.t 26))] [6]) (.ret))))
def a68:AFn:=⟨3,[.t 6],b68,false⟩
def n68:Ann:=⟨[[2,3,4],[2,3,4,7],[3,7,13],[3,7,8],[7,9],[7,9,24],[7],[6]],[],[1088],[],[],false,[(25,272),(21,272),(9,272)]⟩
def b69:AC:=
 .seq (.region false [
 ao 2 (.box (.t 0)),
 ao 3 (.mv (.c (.bool false)))] [1,2]) (.seq (.region false [
 ao 4 (.faddr 0 (.t 2)),
 ao 5 (.load none (.t 4)),
 ao 6 (.load none (.t 1)),
 ao 7 (.call 56 [(.t 5),(.c (i64 0)),(.t 6)]),
 ao 8 (.un .not (.t 7)),
 ao 9 (.mv (.t 8)),
 ag 10 (.faddr 1 (.t 2)) 9 false [],
 ag 11 (.load none (.t 10)) 9 false [],
 ag 12 (.load none (.t 1)) 9 false [],
 ag 13 (.call 56 [(.t 11),(.c (i64 0)),(.t 12)]) 9 false [],
 ag 14 (.un .not (.t 13)) 9 false [],
 ao 15 (.pick (.t 9) (.c (.bool true)) (.t 14)),
 ao 16 (.mv (.t 15)),
 ag 17 (.faddr 0 (.t 2)) 16 false [],
 ag 18 (.load none (.t 17)) 16 false [],
 ag 19 (.faddr 1 (.t 2)) 16 false [],
 ag 20 (.load none (.t 19)) 16 false [],
 ag 21 (.bin .eql (.t 18) (.t 20)) 16 false [],
 ao 22 (.pick (.t 16) (.c (.bool true)) (.t 21)),
 ao 3 (.mv (.t 22))] [3]) (.ret))
def a69:AFn:=⟨2,[.t 3],b69,false⟩
def n69:Ann:=⟨[[1,2],[3]],[],[],[],[],false,[]⟩
def b70:AC:=
 .seq (.region false [
 ao 2 (.box (.t 0)),
 ao 3 (.mv (.c (.bool false)))] [1,2]) (.seq (.region false [
 ao 4 (.faddr 0 (.t 2)),
 ao 5 (.load none (.t 4)),
 ao 6 (.load none (.t 1)),
 ao 7 (.call 56 [(.t 5),(.c (i64 0)),(.t 6)]),
 ao 8 (.un .not (.t 7)),
 ao 9 (.mv (.t 8)),
 ag 10 (.faddr 1 (.t 2)) 9 false [],
 ag 11 (.load none (.t 10)) 9 false [],
 ag 12 (.call 56 [(.t 11),(.c (i64 0)),(.c (i64 99))]) 9 false [],
 ag 13 (.un .not (.t 12)) 9 false [],
 ao 14 (.pick (.t 9) (.c (.bool true)) (.t 13)),
 ao 3 (.mv (.t 14))] [3]) (.ret))
def a70:AFn:=⟨2,[.t 3],b70,false⟩
def n70:Ann:=⟨[[1,2],[3]],[],[],[],[],false,[]⟩
def b71:AC:=
 .seq (.region false [
 ao 4 (.mv (.c (.bool false)))] [0,1]) (.seq (.region false [
 ao 5 (.mv (.t 0)),
 ao 6 (.mv (.t 1)),
 ao 7 (.call 82 [(.t 5),(.t 6)]),
 ao 8 (.bin .geq (.t 7) (.c (i64 0))),
 ao 4 (.mv (.t 8))] [4]) (.ret))
def a71:AFn:=⟨2,[.t 4],b71,false⟩
def n71:Ann:=⟨[[0,1],[4]],[],[],[],[],false,[]⟩
def b72:AC:=
 .seq (.region false [
 ao 4 (.mv (.c (.bool false)))] [0,1]) (.seq (.region false [
 ao 5 (.mv (.t 0)),
 ao 6 (.mv (.t 1)),
 ao 7 (.call 83 [(.t 5),(.t 6)]),
 ao 8 (.bin .geq (.t 7) (.c (i64 0))),
 ao 4 (.mv (.t 8))] [4]) (.ret))
def a72:AFn:=⟨2,[.t 4],b72,false⟩
def n72:Ann:=⟨[[0,1],[4]],[],[],[],[],false,[]⟩
def b75:AC:=
 .seq (.region false [
 ao 4 (.mv (.c (i64 0)))] [0,1]) (.seq (.region false [
 ao 7 (.mv (.t 0)),
 ao 8 (.call 94 [(.t 7)]),
 ao 5 (.mv (.t 8))] [0,1,5]) (.seq (.region false [
 ao 9 (.mv (.t 1)),
 ao 10 (.call 94 [(.t 9)]),
 ao 6 (.mv (.t 10))] [0,1,5,6]) (.seq (.seq (.region false [
 ao 11 (.mv (.t 5))] [0,1,6,11]) (.cond (.t 11) (.seq (.seq (.region false [
 ao 12 (.mv (.t 6))] [12]) (.cond (.t 12) (.seq (.region false [
 ao 4 (.mv (.c (i64 0)))] [4]) (.ret)) (.skip))) (.seq (.region false [
 ao 4 (.mv (.c (i64 (-1))))] [4]) (.ret))) (.skip))) (.seq (.seq (.region false [
 ao 13 (.mv (.t 6))] [0,1,13]) (.cond (.t 13) (.seq (.region false [
 ao 4 (.mv (.c (i64 1)))] [4]) (.ret)) (.skip))) (.seq (.seq (.region false [
 ao 14 (.mv (.t 0)),
 ao 15 (.mv (.t 1)),
 ao 16 (.bin .lss (.t 14) (.t 15))] [0,1,16]) (.cond (.t 16) (.seq (.region false [
 ao 4 (.mv (.c (i64 (-1))))] [4]) (.ret)) (.skip))) (.seq (.seq (.region false [
 ao 17 (.mv (.t 0)),
 ao 18 (.mv (.t 1)),
 ao 19 (.bin .gtr (.t 17) (.t 18))] [19]) (.cond (.t 19) (.seq (.region false [
 ao 4 (.mv (.c (i64 1)))] [4]) (.ret)) (.skip))) (.seq (.region false [
 ao 4 (.mv (.c (i64 0)))] [4]) (.ret))))))))
def a75:AFn:=⟨2,[.t 4],b75,false⟩
def n75:Ann:=⟨[[0,1],[0,1,5],[0,1,5,6],[0,1,6,11],[12],[4],[4],[0,1,13],[4],[0,1,16],[4],[19],[4],[4]],[],[],[],[],false,[(13,160),(12,160),(11,128),(6,160),(5,128)]⟩
@[simp] def d77l0:AC:=
 .seq (.region false [
 ao 9 (.bin .lss (.t 8) (.t 7))] [0,1,7,8,9]) (.seq (.cond (.t 9) (.skip) (.exit 0)) (.seq (.block 1 (.seq (.region false [
 ao 10 (.mv (.t 8)),
 ao 5 (.mv (.t 10))] [0,1,5,7,8]) (.seq (.region false [
 ao 11 (.mv (.t 1)),
 ao 12 (.mv (.t 0)),
 ao 13 (.mv (.t 5)),
 ao 14 (.idxs 4 (.t 12) (.t 13)),
 ao 15 (.load (some 4) (.t 14)),
 ao 16 (.callv (.t 11) [(.t 15)])] [0,1,5,7,8,16]) (.cond (.t 16) (.seq (.region false [
 ao 17 (.mv (.t 5)),
 ao 4 (.mv (.t 17))] [4]) (.ret)) (.skip))))) (.region false [
 ao 18 (.bin .add (.t 8) (.c (i64 1))),
 ao 8 (.mv (.t 18))] [0,1,7,8])))
def b77l0:AC:= .loop [0,1,7,8] [] d77l0
def b77:AC:=
 .seq (.region false [
 ao 4 (.mv (.c (i64 0)))] [0,1]) (.seq (.seq (.region false [
 ao 6 (.mv (.t 0)),
 ao 7 (.len (.t 6)),
 ao 8 (.mv (.c (i64 0)))] [0,1,7,8]) (.block 0 (b77l0))) (.seq (.region false [
 ao 4 (.mv (.c (i64 (-1))))] [4]) (.ret)))
def a77:AFn:=⟨2,[.t 4],b77,false⟩
def n77:Ann:=⟨[[0,1],[0,1,7,8],[0,1,7,8,9],[0,1,5,7,8],[0,1,5,7,8,16],[4],[0,1,7,8],[4]],[⟨[],[0,1,7,8],[]⟩],[],[],[],false,[]⟩
@[simp] def d78l0:AC:=
 .seq (.seq (.region false [
 ao 7 (.mv (.t 3)),
 ao 8 (.bin .geq (.t 7) (.c (i64 0)))] [0,1,3,8]) (.cond (.t 8) (.skip) (.exit 0))) (.seq (.block 1 (.seq (.region false [
 ao 11 (.mv (.t 0)),
 ao 12 (.mv (.t 3)),
 ao 13 (.load none (.t 1)),
 ao 14 (.mv (.t 3)),
 ao 15 (.idxs 1 (.t 13) (.t 14)),
 ao 16 (.load none (.t 15)),
 ao 17 (.callv (.t 11) [(.t 12),(.t 16)]),
 ao 18 (.un .not (.t 17))] [0,1,3,18]) (.cond (.t 18) (.ret) (.skip)))) (.region false [
 ao 9 (.mv (.t 3)),
 ao 10 (.bin .sub (.t 9) (.c (i64 1))),
 ao 3 (.mv (.t 10))] [0,1,3]))
def b78l0:AC:= .loop [0,1,3] [] d78l0
def b78:AC:=
 .seq (.region false [
 ao 4 (.load none (.t 1)),
 ao 5 (.len (.t 4)),
 ao 6 (.bin .sub (.t 5) (.c (i64 1))),
 ao 3 (.mv (.t 6))] [0,1,3]) (.block 0 (b78l0))
def a78:AFn:=⟨2,[],b78,false⟩
def n78:Ann:=⟨[[0,1,3],[0,1,3,8],[0,1,3,18],[0,1,3]],[⟨[],[0,1,3],[]⟩],[],[],[],false,[]⟩
@[simp] def d79l1:AC:=
 .seq (.region false [
 ao 23 (.bin .lss (.t 22) (.c (i64 21)))] [0,1,2,3,8,19,22,23]) (.seq (.cond (.t 23) (.skip) (.exit 2)) (.seq (.block 3 (.seq (.region false [
 ao 24 (.mv (.t 22)),
 ao 9 (.mv (.t 24))] [0,1,2,3,8,9,19,22]) (.region true (spl [
 ao 25 (.mv (.t 0)),
 ao 26 (.mv (.t 8)),
 ao 27 (.mv (.t 9)),
 ao 28 (.mv (.t 0)),
 ao 29 (.mv (.t 8)),
 ao 30 (.mv (.t 9)),
 ap 31 (.nilck (.t 28)) [3],
 ap 32 (.idxa 21 21 (.t 31) (.t 29)) [6,4,3],
 ap 33 (.idxa 21 1 (.t 32) (.t 30)) [7,5,6,4,3],
 ap 34 (.load none (.t 33)) [8,7,5,6,4,3],
 ao 35 (.mv (.t 0)),
 ao 36 (.mv (.t 8)),
 ao 37 (.mv (.t 1)),
 ap 38 (.nilck (.t 35)) [10],
 ap 39 (.idxa 21 21 (.t 38) (.t 36)) [13,11,10],
 ap 40 (.idxa 21 1 (.t 39) (.t 37)) [14,12,13,11,10],
 ap 41 (.load none (.t 40)) [15,14,12,13,11,10],
 ao 42 (.mv (.t 3)),
 ap 43 (.bin .add (.t 41) (.t 42)) [16,17,15,14,12,13,11,10],
 ao 44 (.mv (.t 0)),
 ao 45 (.mv (.t 2)),
 ao 46 (.mv (.t 9)),
 ap 47 (.nilck (.t 44)) [19],
 ap 48 (.idxa 21 21 (.t 47) (.t 45)) [22,20,19],
 ap 49 (.idxa 21 1 (.t 48) (.t 46)) [23,21,22,20,19],
 ap 50 (.load none (.t 49)) [24,23,21,22,20,19],
 ap 51 (.bin .add (.t 43) (.t 50)) [18,25,16,17,15,14,12,13,11,10,24,23,21,22,20,19],
 ap 52 (.mm false (.t 34) (.t 51)) [9,26,8,7,5,6,4,3,18,25,16,17,15,14,12,13,11,10,24,23,21,22,20,19],
 ap 53 (.nilck (.t 25)) [0],
 ap 54 (.idxa 21 21 (.t 53) (.t 26)) [28,1,0]] [
 ap 55 (.idxa 21 1 (.t 54) (.t 27)) [29,2,27,28,1,0,9,26,8,7,5,6,4,3,18,25,16,17,15,14,12,13,11,10,24,23,21,22,20,19],
 ⟨none, .store 1 (.t 55) (.t 52),none,[30,29,2,27,28,1,0,9,26,8,7,5,6,4,3,18,25,16,17,15,14,12,13,11,10,24,23,21,22,20,19],[]⟩]) [0,1,2,3,8,19,22]))) (.region false [
 ao 56 (.bin .add (.t 22) (.c (i64 1))),
 ao 22 (.mv (.t 56))] [0,1,2,3,8,19,22])))
def b79l1:AC:= .loop [0,1,2,3,8,19,22] [] d79l1
@[simp] def d79l0:AC:=
 .seq (.region false [
 ao 20 (.bin .lss (.t 19) (.c (i64 21)))] [0,1,2,3,19,20]) (.seq (.cond (.t 20) (.skip) (.exit 0)) (.seq (.block 1 (.seq (.region false [
 ao 21 (.mv (.t 19)),
 ao 8 (.mv (.t 21))] [0,1,2,3,8,19]) (.seq (.region false [
 ao 22 (.mv (.c (i64 0)))] [0,1,2,3,8,19,22]) (.block 2 (b79l1))))) (.region false [
 ao 57 (.bin .add (.t 19) (.c (i64 1))),
 ao 19 (.mv (.t 57))] [0,1,2,3,19])))
def b79l0:AC:= .loop [0,1,2,3,19] [] d79l0
def b79:AC:=
 .seq (.seq (.region false [
 ao 10 (.mv (.t 3)),
 ao 11 (.mv (.t 0)),
 ao 12 (.mv (.t 1)),
 ao 13 (.mv (.t 2)),
 ao 14 (.nilck (.t 11)),
 ao 15 (.idxa 21 21 (.t 14) (.t 12)),
 ao 16 (.idxa 21 1 (.t 15) (.t 13)),
 ao 17 (.load none (.t 16)),
 ao 18 (.bin .geq (.t 10) (.t 17))] [0,1,2,3,18]) (.cond (.t 18) (.ret) (.skip))) (.seq (.region false [
 ao 19 (.mv (.c (i64 0)))] [0,1,2,3,19]) (.block 0 (b79l0)))
def a79:AFn:=⟨4,[],b79,false⟩
def n79:Ann:=⟨[[0,1,2,3,18],[0,1,2,3,19],[0,1,2,3,19,20],[0,1,2,3,8,19],[0,1,2,3,8,19,22],[0,1,2,3,8,19,22,23],[0,1,2,3,8,9,19,22],[0,1,2,3,8,19,22],[0,1,2,3,8,19,22],[0,1,2,3,19]],[⟨[],[0,1,2,3,19],[]⟩,⟨[],[0,1,2,3,8,19,22],[]⟩],[],[],[],false,[]⟩
def b80:AC:=
 .seq (.region false [
 ao 3 (.box (.t 1))] [0,3]) (.region true (spl [
 ao 4 (.mv (.t 0)),
 ap 5 (.nilck (.t 4)) [0],
 ap 6 (.faddr 4 (.t 5)) [1,0],
 ao 7 (.mv (.t 0)),
 ao 8 (.faddr 0 (.t 3)),
 ap 9 (.load none (.t 8)) [4],
 ao 10 (.faddr 1 (.t 3)),
 ap 11 (.load none (.t 10)) [6],
 ap 12 (.bin .add (.t 11) (.c (i64 1))) [7,6],
 ap 13 (.call 43 [(.t 7),(.t 9),(.t 12)]) [3,5,8,4,7,6],
 ao 14 (.mv (.t 0)),
 ao 15 (.faddr 0 (.t 3)),
 ap 16 (.load none (.t 15)) [11],
 ao 17 (.faddr 1 (.t 3)),
 ap 18 (.load none (.t 17)) [13],
 ap 19 (.call 43 [(.t 14),(.t 16),(.t 18)]) [10,12,14,9,11,13,3,5,8,4,7,6],
 ao 20 (.faddr 2 (.t 3)),
 ap 21 (.load none (.t 20)) [16],
 ao 22 (.faddr 3 (.t 3)),
 ap 23 (.load none (.t 22)) [18],
 ap 24 (.build [(i64 0),(i64 0)] [(0,1,(.t 21)),(1,1,(.t 23))]) [17,19,16,18]] [
 ap 25 (.call 104 [(.t 6),(.t 13),(.t 19),(.t 24)]) [2,20,15,1,0,17,19,16,18,10,12,14,9,11,13,3,5,8,4,7,6]]) [])
def a80:AFn:=⟨2,[],b80,false⟩
def n80:Ann:=⟨[[0,3],[]],[],[],[],[],false,[]⟩
def b81:AC:=
 .seq (.region false [
 ao 3 (.box (.t 0)),
 ao 4 (.box (.t 1)),
 ao 6 (.mv (.c .nilf))] [2,3,4]) (.seq (.region false [
 ao 8 (.faddr 0 (.t 4)),
 ao 9 (.load none (.t 8)),
 ao 10 (.bin .sub (.t 9) (.c (i64 1))),
 ao 11 (.faddr 1 (.t 4)),
 ao 12 (.load none (.t 11)),
 ao 13 (.mv (.t 2)),
 ao 14 (.bin .xor (.t 12) (.t 13)),
 ao 15 (.faddr 2 (.t 4)),
 ao 16 (.load (some 3) (.t 15)),
 ao 17 (.build [(i64 0),(i64 0),(i64 0),(i64 0),(i64 0)] [(0,1,(.t 10)),(1,1,(.t 14)),(2,3,(.t 16))]),
 ao 7 (.alloc [(i64 0),(i64 0),(i64 0),(i64 0),(i64 0)]),
 ⟨none, .store 5 (.t 7) (.t 17),none,[],[]⟩] [3,4,7]) (.seq (.region false [
 ao 18 (.mkfn 105 [] [(.t 3),(.t 7),(.t 4)]),
 ao 6 (.mv (.t 18))] [6]) (.ret)))
def a81:AFn:=⟨3,[.t 6],b81,false⟩
def n81:Ann:=⟨[[2,3,4],[3,4,7],[6]],[],[],[],[],false,[]⟩
@[simp] def d82l0:AC:=
 .seq (.region false [
 ao 9 (.bin .lss (.t 8) (.t 7))] [0,1,7,8,9]) (.seq (.cond (.t 9) (.skip) (.exit 0)) (.seq (.block 1 (.seq (.region false [
 ao 10 (.mv (.t 8)),
 ao 5 (.mv (.t 10))] [0,1,5,7,8]) (.seq (.region false [
 ao 11 (.mv (.t 1)),
 ao 12 (.mv (.t 0)),
 ao 13 (.mv (.t 5)),
 ao 14 (.idxs 3 (.t 12) (.t 13)),
 ao 15 (.load (some 3) (.t 14)),
 ao 16 (.callv (.t 11) [(.t 15)])] [0,1,5,7,8,16]) (.cond (.t 16) (.seq (.region false [
 ao 17 (.mv (.t 5)),
 ao 4 (.mv (.t 17))] [4]) (.ret)) (.skip))))) (.region false [
 ao 18 (.bin .add (.t 8) (.c (i64 1))),
 ao 8 (.mv (.t 18))] [0,1,7,8])))
def b82l0:AC:= .loop [0,1,7,8] [] d82l0
def b82:AC:=
 .seq (.region false [
 ao 4 (.mv (.c (i64 0)))] [0,1]) (.seq (.seq (.region false [
 ao 6 (.mv (.t 0)),
 ao 7 (.len (.t 6)),
 ao 8 (.mv (.c (i64 0)))] [0,1,7,8]) (.block 0 (b82l0))) (.seq (.region false [
 ao 4 (.mv (.c (i64 (-1))))] [4]) (.ret)))
def a82:AFn:=⟨2,[.t 4],b82,false⟩
def n82:Ann:=⟨[[0,1],[0,1,7,8],[0,1,7,8,9],[0,1,5,7,8],[0,1,5,7,8,16],[4],[0,1,7,8],[4]],[⟨[],[0,1,7,8],[]⟩],[],[],[],false,[]⟩
@[simp] def d83l0:AC:=
 .seq (.region false [
 ao 9 (.bin .lss (.t 8) (.t 7))] [0,1,7,8,9]) (.seq (.cond (.t 9) (.skip) (.exit 0)) (.seq (.block 1 (.seq (.region false [
 ao 10 (.mv (.t 8)),
 ao 5 (.mv (.t 10))] [0,1,5,7,8]) (.seq (.region false [
 ao 11 (.mv (.t 1)),
 ao 12 (.mv (.t 0)),
 ao 13 (.mv (.t 5)),
 ao 14 (.idxs 2 (.t 12) (.t 13)),
 ao 15 (.load (some 2) (.t 14)),
 ao 16 (.callv (.t 11) [(.t 15)])] [0,1,5,7,8,16]) (.cond (.t 16) (.seq (.region false [
 ao 17 (.mv (.t 5)),
 ao 4 (.mv (.t 17))] [4]) (.ret)) (.skip))))) (.region false [
 ao 18 (.bin .add (.t 8) (.c (i64 1))),
 ao 8 (.mv (.t 18))] [0,1,7,8])))
def b83l0:AC:= .loop [0,1,7,8] [] d83l0
def b83:AC:=
 .seq (.region false [
 ao 4 (.mv (.c (i64 0)))] [0,1]) (.seq (.seq (.region false [
 ao 6 (.mv (.t 0)),
 ao 7 (.len (.t 6)),
 ao 8 (.mv (.c (i64 0)))] [0,1,7,8]) (.block 0 (b83l0))) (.seq (.region false [
 ao 4 (.mv (.c (i64 (-1))))] [4]) (.ret)))
def a83:AFn:=⟨2,[.t 4],b83,false⟩
def n83:Ann:=⟨[[0,1],[0,1,7,8],[0,1,7,8,9],[0,1,5,7,8],[0,1,5,7,8,16],[4],[0,1,7,8],[4]],[⟨[],[0,1,7,8],[]⟩],[],[],[],false,[]⟩
def b94:AC:=
 .seq (.region false [
 ao 2 (.mv (.c (.bool false)))] [0]) (.seq (.region false [
 ao 3 (.mv (.t 0)),
 ao 4 (.mv (.t 0)),
 ao 5 (.bin .neq (.t 3) (.t 4)),
 ao 2 (.mv (.t 5))] [2]) (.ret))
def a94:AFn:=⟨1,[.t 2],b94,false⟩
def n94:Ann:=⟨[[0],[2]],[],[],[],[],false,[]⟩
def b104:AC:=
 .seq (.region false [
 ao 7 (.box (.t 3))] [0,1,2,7]) (.seq (.region false [
 ao 8 (.mv (.t 0)),
 ao 9 (.mv (.t 1)),
 ao 10 (.mv (.t 2)),
 ao 11 (.faddr 1 (.t 7)),
 ao 12 (.load none (.t 11)),
 ao 13 (.call 79 [(.t 8),(.t 9),(.t 10),(.t 12)])] [0,1,2,7]) (.region false [
 ao 14 (.mv (.t 0)),
 ao 15 (.mv (.t 2)),
 ao 16 (.mv (.t 1)),
 ao 17 (.faddr 0 (.t 7)),
 ao 18 (.load none (.t 17)),
 ao 19 (.un .neg (.t 18)),
 ao 20 (.call 79 [(.t 14),(.t 15),(.t 16),(.t 19)])] []))
def a104:AFn:=⟨4,[],b104,false⟩
def n104:Ann:=⟨[[0,1,2,7],[0,1,2,7],[]],[],[],[],[],false,[]⟩
def b105:AC:=
 .seq (.region false [
 ao 4 (.box (.t 0))] [1,2,3,4]) (.seq (.region false [
 ao 5 (.alloc [.nilf])] [1,2,3,4,5]) (.seq (.region false [
 ao 6 (.mkfn 106 [] [(.t 1),(.t 4),(.t 2),(.t 3),(.t 5)]),
 ⟨none, .store 1 (.t 5) (.t 6),none,[],[]⟩] [5]) (.region false [
 ao 7 (.load none (.t 5)),
 ao 8 (.callv (.t 7) [(.c (i64 0))])] [])))
def a105:AFn:=⟨4,[],b105,false⟩
def n105:Ann:=⟨[[1,2,3,4],[1,2,3,4,5],[5],[]],[],[],[],[],false,[]⟩
@[simp] def d106l0:AC:=
 .seq (.region false [
 ao 29 (.bin .lss (.t 28) (.t 27))] [0,3,5,26,27,28,29]) (.seq (.cond (.t 29) (.skip) (.exit 0)) (.seq (.block 1 (.seq (.region false [
 ao 30 (.mv (.t 0)),
 ao 31 (.idxs 1 (.t 26) (.t 28)),
 ao 32 (.load none (.t 31)),
 ao 33 (.faddr 2 (.t 3)),
 ao 34 (.idxa 3 1 (.t 33) (.t 30)),
 ⟨none, .store 1 (.t 34) (.t 32),none,[],[]⟩] [0,3,5,26,27,28]) (.seq (.region false [
 ao 35 (.load none (.t 5)),
 ao 36 (.mv (.t 0)),
 ao 37 (.bin .add (.t 36) (.c (i64 1))),
 ao 38 (.callv (.t 35) [(.t 37)]),
 ao 39 (.un .not (.t 38))] [0,3,5,26,27,28,39]) (.cond (.t 39) (.seq (.region false [
 ao 7 (.mv (.c (.bool false)))] [7]) (.ret)) (.skip))))) (.region false [
 ao 40 (.bin .add (.t 28) (.c (i64 1))),
 ao 28 (.mv (.t 40))] [0,3,5,26,27,28])))
def b106l0:AC:= .loop [0,3,5,26,27,28] [288,416] d106l0
def b106:AC:=
 .seq (.region false [
 ao 7 (.mv (.c (.bool false)))] [0,1,2,3,4,5]) (.seq (.seq (.region false [
 ao 8 (.mv (.t 0)),
 ao 9 (.load none (.t 1)),
 ao 10 (.nilck (.t 9)),
 ao 11 (.faddr 0 (.t 10)),
 ao 12 (.faddr 4 (.t 11)),
 ao 13 (.load none (.t 12)),
 ao 14 (.len (.t 13)),
 ao 15 (.bin .eql (.t 8) (.t 14))] [0,1,2,3,4,5,15]) (.cond (.t 15) (.seq (.region false [
 ao 16 (.load none (.t 2)),
 ao 17 (.load (some 5) (.t 3)),
 ao 18 (.callv (.t 16) [(.t 17)]),
 ao 7 (.mv (.t 18))] [7]) (.ret)) (.skip))) (.seq (.seq (.region true (spl [
 ao 19 (.load none (.t 1)),
 ao 20 (.faddr 1 (.t 3)),
 ap 21 (.load none (.t 20)) [1],
 ao 22 (.mv (.t 0)),
 ao 23 (.faddr 2 (.t 4)),
 ap 24 (.idxa 3 1 (.t 23) (.t 22)) [4,3],
 ap 25 (.load none (.t 24)) [5,4,3],
 ap 26 (.call 35 [(.t 19),(.t 21),(.t 25)]) [0,2,6,1,5,4,3],
 ap 27 (.len (.t 26)) [7,0,2,6,1,5,4,3],
 ao 28 (.mv (.c (i64 0)))] [
]) [0,3,5,26,27,28]) (.block 0 (b106l0))) (.seq (.region false [
 ao 7 (.mv (.c (.bool true)))] [7]) (.ret))))
def a106:AFn:=⟨6,[.t 7],b106,false⟩
def n106:Ann:=⟨[[0,1,2,3,4,5],[0,1,2,3,4,5,15],[7],[0,3,5,26,27,28],[0,3,5,26,27,28,29],[0,3,5,26,27,28],[0,3,5,26,27,28,39],[7],[0,3,5,26,27,28],[7]],[⟨[],[0,3,5,26,27,28],[288,416]⟩],[],[],[],false,[]⟩
end Go.Proofs.YtnglkclmplfnpaaGreat
