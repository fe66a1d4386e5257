/-
  MADE BY PROGRAM (mkt.py, out of what Gen.lean prints): the functions' code for the evaluator.
-/
import Derived.Test.YtoedpegjoccnlaaGreatAb7
set_option linter.unusedSimpArgs false
set_option linter.unusedVariables false
namespace Go.Proofs.YtoedpegjoccnlaaGreat
open Go.Ab
def zeroV(n:Nat):List V:=List.replicate n (i64 0)
@[simp] def d3l0:AC:=
 .seq (.seq (.region false [
 ao 149 (.mv (.t 13)),
 ao 150 (.faddr 0 (.t 3)),
 ao 151 (.faddr 1 (.t 150)),
 ao 152 (.load none (.t 151)),
 ao 153 (.bin .lss (.t 149) (.t 152))] [3,4,5,10,11,12,13,153]) (.cond (.t 153) (.skip) (.exit 0))) (.seq (.block 1 (.seq (.region false [
 ao 156 (.mv (.t 13)),
 ao 157 (.faddr 4 (.t 5)),
 ao 158 (.load none (.t 157)),
 ao 159 (.bin .eql (.t 156) (.t 158)),
 ao 160 (.mv (.t 159)),
 ag 161 (.faddr 6 (.t 3)) 160 false [],
 ag 162 (.load none (.t 161)) 160 false [],
 ag 163 (.mv (.t 13)) 160 false [],
 ag 164 (.call 18 [(.t 162),(.t 163)]) 160 false [],
 ao 165 (.pick (.t 160) (.c (.bool true)) (.t 164))] [3,4,5,10,11,12,13,165]) (.cond (.t 165) (.region false [
 ao 166 (.faddr 6 (.t 12)),
 ao 167 (.load none (.t 166)),
 ao 168 (.mv (.t 13)),
 ao 169 (.lit [(i64 0)] 1 [(0,(.t 168))]),
 ao 170 (.app 1 8 (.t 167) (.t 169)),
 ao 171 (.faddr 6 (.t 12)),
 ⟨none, .store 1 (.t 171) (.t 170),none,[],[]⟩] [3,4,5,10,11,12,13]) (.skip)))) (.region false [
 ao 154 (.mv (.t 13)),
 ao 155 (.bin .add (.t 154) (.c (i64 1))),
 ao 13 (.mv (.t 155))] [3,4,5,10,11,12,13]))
def b3l0:AC:= .loop [3,4,5,10,11,12,13] [48,64,80,112,160,176,192,200,224,256,288,336,416,480,672,1024,1152,1216,1264,1312,1888,2000,2080,2160,2288,2320,2352,2784,2928,3008,3104,3152] d3l0
def b3:AC:=
 .seq (.region false [
 ao 3 (.box (.t 0)),
 ao 4 (.box (.t 1)),
 ao 5 (.box (.t 2)),
 ao 6 (.mv (.c (.bool false)))] [3,4,5]) (.seq (.seq (.region true (spl [
 ao 17 (.load (some 7) (.t 3)),
 ap 18 (.call 5 [(.t 17)]) [0],
 ap 19 (.mv (.t 18)) [1,0],
 ag 20 (.load (some 7) (.t 3)) 19 false [2,1,0],
 ag 21 (.call 6 [(.t 20)]) 19 false [3,2,1,0],
 ag 22 (.bin .neq (.t 21) (.c (i64 0))) 19 false [4,3,2,1,0],
 ap 23 (.pick (.t 19) (.c (.bool true)) (.t 22)) [5,4,3,2,1,0],
 ap 24 (.mv (.t 23)) [6,5,4,3,2,1,0],
 ag 25 (.load (some 4) (.t 4)) 24 false [7,6,5,4,3,2,1,0],
 ag 26 (.call 7 [(.t 25)]) 24 false [8,7,6,5,4,3,2,1,0],
 ap 27 (.pick (.t 24) (.c (.bool true)) (.t 26)) [9,8,7,6,5,4,3,2,1,0],
 ap 28 (.mv (.t 27)) [10,9,8,7,6,5,4,3,2,1,0],
 ag 29 (.load (some 4) (.t 4)) 28 false [11,10,9,8,7,6,5,4,3,2,1,0],
 ag 30 (.call 8 [(.t 29)]) 28 false [12,11,10,9,8,7,6,5,4,3,2,1,0],
 ag 31 (.bin .neq (.t 30) (.c (i64 0))) 28 false [13,12,11,10,9,8,7,6,5,4,3,2,1,0],
 ap 32 (.pick (.t 28) (.c (.bool true)) (.t 31)) [14,13,12,11,10,9,8,7,6,5,4,3,2,1,0],
 ap 33 (.mv (.t 32)) [15,14,13,12,11,10,9,8,7,6,5,4,3,2,1,0],
 ag 34 (.faddr 3 (.t 5)) 33 false [16,15,14,13,12,11,10,9,8,7,6,5,4,3,2,1,0],
 ag 35 (.load none (.t 34)) 33 false [17,16,15,14,13,12,11,10,9,8,7,6,5,4,3,2,1,0],
 ag 36 (.len (.t 35)) 33 false [18,17,16,15,14,13,12,11,10,9,8,7,6,5,4,3,2,1,0],
 ag 37 (.bin .gtr (.t 36) (.c (i64 40))) 33 false [19,18,17,16,15,14,13,12,11,10,9,8,7,6,5,4,3,2,1,0],
 ap 38 (.pick (.t 33) (.c (.bool true)) (.t 37)) [20,19,18,17,16,15,14,13,12,11,10,9,8,7,6,5,4,3,2,1,0],
 ap 39 (.mv (.t 38)) [21,20,19,18,17,16,15,14,13,12,11,10,9,8,7,6,5,4,3,2,1,0],
 ag 40 (.faddr 2 (.t 5)) 39 false [22,21,20,19,18,17,16,15,14,13,12,11,10,9,8,7,6,5,4,3,2,1,0],
 ag 41 (.load none (.t 40)) 39 false [23,22,21,20,19,18,17,16,15,14,13,12,11,10,9,8,7,6,5,4,3,2,1,0],
 ag 42 (.call 9 [(.t 41),(.c (i64 0)),(.c (i64 50))]) 39 false [24,23,22,21,20,19,18,17,16,15,14,13,12,11,10,9,8,7,6,5,4,3,2,1,0],
 ag 43 (.un .not (.t 42)) 39 false [25,24,23,22,21,20,19,18,17,16,15,14,13,12,11,10,9,8,7,6,5,4,3,2,1,0],
 ap 44 (.pick (.t 39) (.c (.bool true)) (.t 43)) [26,25,24,23,22,21,20,19,18,17,16,15,14,13,12,11,10,9,8,7,6,5,4,3,2,1,0],
 ap 45 (.mv (.t 44)) [27,26,25,24,23,22,21,20,19,18,17,16,15,14,13,12,11,10,9,8,7,6,5,4,3,2,1,0],
 ag 46 (.faddr 0 (.t 5)) 45 false [28,27,26,25,24,23,22,21,20,19,18,17,16,15,14,13,12,11,10,9,8,7,6,5,4,3,2,1,0],
 ag 47 (.faddr 0 (.t 46)) 45 false [29,28,27,26,25,24,23,22,21,20,19,18,17,16,15,14,13,12,11,10,9,8,7,6,5,4,3,2,1,0],
 ag 48 (.load none (.t 47)) 45 false [30,29,28,27,26,25,24,23,22,21,20,19,18,17,16,15,14,13,12,11,10,9,8,7,6,5,4,3,2,1,0],
 ag 49 (.len (.t 48)) 45 false [31,30,29,28,27,26,25,24,23,22,21,20,19,18,17,16,15,14,13,12,11,10,9,8,7,6,5,4,3,2,1,0],
 ag 50 (.bin .gtr (.t 49) (.c (i64 40))) 45 false [32,31,30,29,28,27,26,25,24,23,22,21,20,19,18,17,16,15,14,13,12,11,10,9,8,7,6,5,4,3,2,1,0],
 ap 51 (.pick (.t 45) (.c (.bool true)) (.t 50)) [33,32,31,30,29,28,27,26,25,24,23,22,21,20,19,18,17,16,15,14,13,12,11,10,9,8,7,6,5,4,3,2,1,0],
 ap 52 (.mv (.t 51)) [34,33,32,31,30,29,28,27,26,25,24,23,22,21,20,19,18,17,16,15,14,13,12,11,10,9,8,7,6,5,4,3,2,1,0],
 ag 53 (.faddr 0 (.t 5)) 52 false [35,34,33,32,31,30,29,28,27,26,25,24,23,22,21,20,19,18,17,16,15,14,13,12,11,10,9,8,7,6,5,4,3,2,1,0],
 ag 54 (.faddr 1 (.t 53)) 52 false [36,35,34,33,32,31,30,29,28,27,26,25,24,23,22,21,20,19,18,17,16,15,14,13,12,11,10,9,8,7,6,5,4,3,2,1,0],
 ag 55 (.load none (.t 54)) 52 false [37,36,35,34,33,32,31,30,29,28,27,26,25,24,23,22,21,20,19,18,17,16,15,14,13,12,11,10,9,8,7,6,5,4,3,2,1,0],
 ag 56 (.len (.t 55)) 52 false [38,37,36,35,34,33,32,31,30,29,28,27,26,25,24,23,22,21,20,19,18,17,16,15,14,13,12,11,10,9,8,7,6,5,4,3,2,1,0],
 ag 57 (.bin .gtr (.t 56) (.c (i64 40))) 52 false [39,38,37,36,35,34,33,32,31,30,29,28,27,26,25,24,23,22,21,20,19,18,17,16,15,14,13,12,11,10,9,8,7,6,5,4,3,2,1,0],
 ap 58 (.pick (.t 52) (.c (.bool true)) (.t 57)) [40,39,38,37,36,35,34,33,32,31,30,29,28,27,26,25,24,23,22,21,20,19,18,17,16,15,14,13,12,11,10,9,8,7,6,5,4,3,2,1,0],
 ap 59 (.mv (.t 58)) [41,40,39,38,37,36,35,34,33,32,31,30,29,28,27,26,25,24,23,22,21,20,19,18,17,16,15,14,13,12,11,10,9,8,7,6,5,4,3,2,1,0],
 ag 60 (.load (some 7) (.t 3)) 59 false [42,41,40,39,38,37,36,35,34,33,32,31,30,29,28,27,26,25,24,23,22,21,20,19,18,17,16,15,14,13,12,11,10,9,8,7,6,5,4,3,2,1,0],
 ag 61 (.faddr 0 (.t 5)) 59 false [42,41,40,39,38,37,36,35,34,33,32,31,30,29,28,27,26,25,24,23,22,21,20,19,18,17,16,15,14,13,12,11,10,9,8,7,6,5,4,3,2,1,0],
 ag 62 (.faddr 0 (.t 61)) 59 false [44,42,41,40,39,38,37,36,35,34,33,32,31,30,29,28,27,26,25,24,23,22,21,20,19,18,17,16,15,14,13,12,11,10,9,8,7,6,5,4,3,2,1,0],
 ag 63 (.load none (.t 62)) 59 false [45,44,42,41,40,39,38,37,36,35,34,33,32,31,30,29,28,27,26,25,24,23,22,21,20,19,18,17,16,15,14,13,12,11,10,9,8,7,6,5,4,3,2,1,0],
 ag 64 (.call 10 [(.t 60),(.t 63)]) 59 false [43,46,45,44,42,41,40,39,38,37,36,35,34,33,32,31,30,29,28,27,26,25,24,23,22,21,20,19,18,17,16,15,14,13,12,11,10,9,8,7,6,5,4,3,2,1,0],
 ag 65 (.un .not (.t 64)) 59 false [47,43,46,45,44,42,41,40,39,38,37,36,35,34,33,32,31,30,29,28,27,26,25,24,23,22,21,20,19,18,17,16,15,14,13,12,11,10,9,8,7,6,5,4,3,2,1,0],
 ap 66 (.pick (.t 59) (.c (.bool true)) (.t 65)) [48,47,43,46,45,44,42,41,40,39,38,37,36,35,34,33,32,31,30,29,28,27,26,25,24,23,22,21,20,19,18,17,16,15,14,13,12,11,10,9,8,7,6,5,4,3,2,1,0],
 ap 67 (.mv (.t 66)) [49,48,47,43,46,45,44,42,41,40,39,38,37,36,35,34,33,32,31,30,29,28,27,26,25,24,23,22,21,20,19,18,17,16,15,14,13,12,11,10,9,8,7,6,5,4,3,2,1,0],
 ag 68 (.load (some 7) (.t 3)) 67 false [50,49,48,47,43,46,45,44,42,41,40,39,38,37,36,35,34,33,32,31,30,29,28,27,26,25,24,23,22,21,20,19,18,17,16,15,14,13,12,11,10,9,8,7,6,5,4,3,2,1,0],
 ag 69 (.faddr 0 (.t 5)) 67 false [50,49,48,47,43,46,45,44,42,41,40,39,38,37,36,35,34,33,32,31,30,29,28,27,26,25,24,23,22,21,20,19,18,17,16,15,14,13,12,11,10,9,8,7,6,5,4,3,2,1,0],
 ag 70 (.faddr 0 (.t 69)) 67 false [52,50,49,48,47,43,46,45,44,42,41,40,39,38,37,36,35,34,33,32,31,30,29,28,27,26,25,24,23,22,21,20,19,18,17,16,15,14,13,12,11,10,9,8,7,6,5,4,3,2,1,0],
 ag 71 (.load none (.t 70)) 67 false [53,52,50,49,48,47,43,46,45,44,42,41,40,39,38,37,36,35,34,33,32,31,30,29,28,27,26,25,24,23,22,21,20,19,18,17,16,15,14,13,12,11,10,9,8,7,6,5,4,3,2,1,0],
 ag 72 (.call 12 [(.t 68),(.t 71)]) 67 false [51,54,53,52,50,49,48,47,43,46,45,44,42,41,40,39,38,37,36,35,34,33,32,31,30,29,28,27,26,25,24,23,22,21,20,19,18,17,16,15,14,13,12,11,10,9,8,7,6,5,4,3,2,1,0],
 ag 73 (.faddr 0 (.t 5)) 67 false [50,49,48,47,43,46,45,44,42,41,40,39,38,37,36,35,34,33,32,31,30,29,28,27,26,25,24,23,22,21,20,19,18,17,16,15,14,13,12,11,10,9,8,7,6,5,4,3,2,1,0],
 ag 74 (.faddr 1 (.t 73)) 67 false [56,50,49,48,47,43,46,45,44,42,41,40,39,38,37,36,35,34,33,32,31,30,29,28,27,26,25,24,23,22,21,20,19,18,17,16,15,14,13,12,11,10,9,8,7,6,5,4,3,2,1,0],
 ag 75 (.load none (.t 74)) 67 false [57,56,50,49,48,47,43,46,45,44,42,41,40,39,38,37,36,35,34,33,32,31,30,29,28,27,26,25,24,23,22,21,20,19,18,17,16,15,14,13,12,11,10,9,8,7,6,5,4,3,2,1,0]] [
 ag 76 (.call 11 [(.t 72),(.t 75)]) 67 false [58,55,57,56,51,54,53,52,50,49,48,47,43,46,45,44,42,41,40,39,38,37,36,35,34,33,32,31,30,29,28,27,26,25,24,23,22,21,20,19,18,17,16,15,14,13,12,11,10,9,8,7,6,5,4,3,2,1,0],
 ag 77 (.un .not (.t 76)) 67 false [59,58,55,57,56,51,54,53,52,50,49,48,47,43,46,45,44,42,41,40,39,38,37,36,35,34,33,32,31,30,29,28,27,26,25,24,23,22,21,20,19,18,17,16,15,14,13,12,11,10,9,8,7,6,5,4,3,2,1,0],
 ap 78 (.pick (.t 67) (.c (.bool true)) (.t 77)) [60,59,58,55,57,56,51,54,53,52,50,49,48,47,43,46,45,44,42,41,40,39,38,37,36,35,34,33,32,31,30,29,28,27,26,25,24,23,22,21,20,19,18,17,16,15,14,13,12,11,10,9,8,7,6,5,4,3,2,1,0]]) [3,4,5,78]) (.cond (.t 78) (.seq (.region false [
 ao 79 (.call 13 []),
 ao 6 (.mv (.t 79))] [6]) (.ret)) (.skip))) (.seq (.region false [
 ao 81 (.load (some 7) (.t 3)),
 ao 82 (.call 14 [(.t 81)]),
 ao 80 (.mv (.t 82)),
 ao 83 (.ext (.t 80) 0),
 ao 84 (.ext (.t 80) 1),
 ao 7 (.alloc [(i64 0),(i64 0)]),
 ⟨none, .store 2 (.t 7) (.t 83),none,[],[]⟩,
 ao 8 (.mv (.t 84))] [3,4,5,7,8]) (.seq (.region true (spl [
 ao 85 (.faddr 0 (.t 5)),
 ap 86 (.faddr 1 (.t 85)) [0],
 ap 87 (.load none (.t 86)) [1,0],
 ao 88 (.faddr 0 (.t 3)),
 ap 89 (.faddr 1 (.t 88)) [3],
 ap 90 (.load none (.t 89)) [4,3],
 ap 91 (.bin .sub (.t 90) (.c (i64 1))) [5,4,3],
 ap 92 (.idxs 1 (.t 87) (.t 91)) [2,6,1,0,5,4,3],
 ap 93 (.load none (.t 92)) [7,2,6,1,0,5,4,3],
 ao 94 (.faddr 0 (.t 3)),
 ap 95 (.faddr 0 (.t 94)) [9],
 ap 96 (.load none (.t 95)) [10,9],
 ap 97 (.bin .sub (.t 96) (.c (i64 1))) [11,10,9]] [
 ap 98 (.idxs 1 (.t 93) (.t 97)) [8,12,7,2,6,1,0,5,4,3,11,10,9],
 ap 99 (.load none (.t 98)) [13,8,12,7,2,6,1,0,5,4,3,11,10,9],
 ap 9 (.mv (.t 99)) [14,13,8,12,7,2,6,1,0,5,4,3,11,10,9]]) [3,4,5,7,8,9]) (.seq (.seq (.region false [
 ao 100 (.mv (.t 8)),
 ao 101 (.un .not (.t 100)),
 ao 102 (.mv (.t 101)),
 ag 103 (.mv (.t 9)) 102 false [],
 ag 104 (.faddr 0 (.t 7)) 102 false [],
 ag 105 (.load none (.t 104)) 102 false [],
 ag 106 (.bin .lss (.t 103) (.t 105)) 102 false [],
 ao 107 (.pick (.t 102) (.c (.bool true)) (.t 106)),
 ao 108 (.mv (.t 107)),
 ag 109 (.mv (.t 9)) 108 false [],
 ag 110 (.faddr 1 (.t 7)) 108 false [],
 ag 111 (.load none (.t 110)) 108 false [],
 ag 112 (.bin .gtr (.t 109) (.t 111)) 108 false [],
 ao 113 (.pick (.t 108) (.c (.bool true)) (.t 112))] [3,4,5,7,9,113]) (.cond (.t 113) (.seq (.region false [
 ao 6 (.mv (.c (.bool false)))] [6]) (.ret)) (.skip))) (.seq (.region false [
 ao 114 (.load (some 4) (.t 4)),
 ao 115 (.load (some 2) (.t 7)),
 ao 116 (.faddr 2 (.t 5)),
 ao 117 (.load none (.t 116)),
 ao 118 (.call 15 [(.t 114),(.t 115),(.t 117)]),
 ao 10 (.alloc [(i64 0),(i64 0),(.sl .full 2 []),(.sl .full 2 [])]),
 ⟨none, .store 4 (.t 10) (.t 118),none,[],[]⟩] [3,4,5,9,10]) (.seq (.region false [
 ao 119 (.load (some 4) (.t 4)),
 ao 120 (.mv (.t 9)),
 ao 121 (.mv (.t 9)),
 ao 122 (.build [(i64 0),(i64 0)] [(0,1,(.t 120)),(1,1,(.t 121))]),
 ao 123 (.faddr 2 (.t 5)),
 ao 124 (.load none (.t 123)),
 ao 125 (.call 15 [(.t 119),(.t 122),(.t 124)]),
 ao 11 (.alloc [(i64 0),(i64 0),(.sl .full 2 []),(.sl .full 2 [])]),
 ⟨none, .store 4 (.t 11) (.t 125),none,[],[]⟩] [3,4,5,10,11]) (.seq (.seq (.region false [
 ao 126 (.load (some 4) (.t 11)),
 ao 127 (.load (some 4) (.t 10)),
 ao 128 (.faddr 3 (.t 5)),
 ao 129 (.load none (.t 128)),
 ao 130 (.call 16 [(.t 126),(.t 127),(.t 129)]),
 ao 131 (.un .not (.t 130))] [3,4,5,10,11,131]) (.cond (.t 131) (.seq (.region false [
 ao 6 (.mv (.c (.bool false)))] [6]) (.ret)) (.skip))) (.seq (.seq (.region false [
 ao 132 (.load (some 7) (.t 3)),
 ao 133 (.faddr 4 (.t 5)),
 ao 134 (.load none (.t 133)),
 ao 135 (.call 17 [(.t 132),(.t 134)]),
 ao 136 (.un .not (.t 135)),
 ao 137 (.mv (.t 136)),
 ag 138 (.faddr 0 (.t 5)) 137 false [],
 ag 139 (.faddr 0 (.t 138)) 137 false [],
 ag 140 (.load none (.t 139)) 137 false [],
 ag 141 (.faddr 4 (.t 5)) 137 false [],
 ag 142 (.load none (.t 141)) 137 false [],
 ag 143 (.call 18 [(.t 140),(.t 142)]) 137 false [],
 ao 144 (.pick (.t 137) (.c (.bool true)) (.t 143))] [3,4,5,10,11,144]) (.cond (.t 144) (.seq (.region false [
 ao 145 (.call 13 []),
 ao 6 (.mv (.t 145))] [6]) (.ret)) (.skip))) (.seq (.region false [
 ao 146 (.load (some 7) (.t 3)),
 ao 147 (.call 19 [(.t 146)]),
 ao 12 (.alloc [(i64 0),(i64 0),(.sl .full 1 []),(.sl .full 4 []),(i64 0),(i64 0),(.sl .full 1 [])]),
 ⟨none, .store 7 (.t 12) (.t 147),none,[],[]⟩] [3,4,5,10,11,12]) (.seq (.region false [
 ao 148 (.faddr 6 (.t 12)),
 ⟨none, .store 1 (.t 148) (.c (.sl .full 1 [])),none,[],[]⟩] [3,4,5,10,11,12]) (.seq (.seq (.region false [
 ao 13 (.mv (.c (i64 0)))] [3,4,5,10,11,12,13]) (.block 0 (.seq (.thawc 12 6 200 1) (b3l0)))) (.seq (.region false [
 ao 173 (.load (some 7) (.t 12)),
 ao 174 (.call 14 [(.t 173)]),
 ao 172 (.mv (.t 174)),
 ao 175 (.ext (.t 172) 0),
 ao 176 (.ext (.t 172) 1),
 ao 14 (.alloc [(i64 0),(i64 0)]),
 ⟨none, .store 2 (.t 14) (.t 175),none,[],[]⟩,
 ao 15 (.mv (.t 176))] [4,5,10,11,14,15]) (.seq (.seq (.region false [
 ao 177 (.mv (.t 15)),
 ao 178 (.un .not (.t 177))] [4,5,10,11,14,178]) (.cond (.t 178) (.seq (.region false [
 ao 6 (.mv (.c (.bool false)))] [6]) (.ret)) (.skip))) (.seq (.region false [
 ao 179 (.load (some 4) (.t 4)),
 ao 180 (.load (some 2) (.t 14)),
 ao 181 (.faddr 2 (.t 5)),
 ao 182 (.load none (.t 181)),
 ao 183 (.call 15 [(.t 179),(.t 180),(.t 182)]),
 ao 16 (.alloc [(i64 0),(i64 0),(.sl .full 2 []),(.sl .full 2 [])]),
 ⟨none, .store 4 (.t 16) (.t 183),none,[],[]⟩] [5,10,11,16]) (.seq (.region false [
 ao 184 (.load (some 4) (.t 16)),
 ao 185 (.load (some 4) (.t 10)),
 ao 186 (.faddr 3 (.t 5)),
 ao 187 (.load none (.t 186)),
 ao 188 (.call 16 [(.t 184),(.t 185),(.t 187)]),
 ao 189 (.mv (.t 188)),
 ag 190 (.load (some 4) (.t 11)) 189 true [],
 ag 191 (.load (some 4) (.t 16)) 189 true [],
 ag 192 (.faddr 3 (.t 5)) 189 true [],
 ag 193 (.load none (.t 192)) 189 true [],
 ag 194 (.call 16 [(.t 190),(.t 191),(.t 193)]) 189 true [],
 ao 195 (.pick (.t 189) (.t 194) (.c (.bool false))),
 ao 196 (.mv (.t 195)),
 ag 197 (.call 13 []) 196 true [],
 ao 198 (.pick (.t 196) (.t 197) (.c (.bool false))),
 ao 6 (.mv (.t 198))] [6]) (.ret))))))))))))))))
def a3:AFn:=⟨3,[.t 6],b3,false⟩
def n3:Ann:=⟨[[3,4,5],[3,4,5,78],[6],[3,4,5,7,8],[3,4,5,7,8,9],[3,4,5,7,9,113],[6],[3,4,5,9,10],[3,4,5,10,11],[3,4,5,10,11,131],[6],[3,4,5,10,11,144],[6],[3,4,5,10,11,12],[3,4,5,10,11,12],[3,4,5,10,11,12,13],[3,4,5,10,11,12,13,153],[3,4,5,10,11,12,13,165],[3,4,5,10,11,12,13],[3,4,5,10,11,12,13],[4,5,10,11,14,15],[4,5,10,11,14,178],[6],[5,10,11,16],[6]],[⟨[.c 12 6 200 1],[3,4,5,10,11,12,13],[48,64,80,112,160,176,192,200,224,256,288,336,416,480,672,1024,1152,1216,1264,1312,1888,2000,2080,2160,2288,2320,2352,2784,2928,3008,3104,3152]⟩],[],[],[],false,[(189,3008),(177,2784),(15,2784),(176,2784),(175,2784),(172,2784),(100,1312),(8,1312),(84,1312),(83,1312),(80,1312),(6,1264),(19,288)]⟩
def b5:AC:=
 .seq (.region false [
 ao 1 (.box (.t 0)),
 ao 2 (.mv (.c (.bool false)))] [1]) (.seq (.region false [
 ao 3 (.load (some 7) (.t 1)),
 ao 4 (.call 31 [(.t 3)]),
 ao 5 (.mv (.t 4)),
 ag 6 (.faddr 0 (.t 1)) 5 false [],
 ag 7 (.faddr 0 (.t 6)) 5 false [],
 ag 8 (.load none (.t 7)) 5 false [],
 ag 9 (.bin .gtr (.t 8) (.c (i64 3))) 5 false [],
 ag 10 (.mv (.t 9)) 5 false [],
 ag 11 (.faddr 0 (.t 1)) 10 false [],
 ag 12 (.faddr 1 (.t 11)) 10 false [],
 ag 13 (.load none (.t 12)) 10 false [],
 ag 14 (.bin .gtr (.t 13) (.c (i64 4))) 10 false [],
 ag 15 (.pick (.t 10) (.c (.bool true)) (.t 14)) 5 false [],
 ag 16 (.mv (.t 15)) 5 false [],
 ag 17 (.load (some 7) (.t 1)) 16 true [],
 ag 18 (.call 6 [(.t 17)]) 16 true [],
 ag 19 (.bin .eql (.t 18) (.c (i64 0))) 16 true [],
 ag 20 (.pick (.t 16) (.t 19) (.c (.bool false))) 5 false [],
 ao 21 (.pick (.t 5) (.c (.bool true)) (.t 20)),
 ao 2 (.mv (.t 21))] [2]) (.ret))
def a5:AFn:=⟨1,[.t 2],b5,false⟩
def n5:Ann:=⟨[[1],[2]],[],[],[],[],false,[(5,64)]⟩
def b6:AC:=
 .seq (.region false [
 ao 1 (.box (.t 0)),
 ao 2 (.mv (.c (i64 0)))] [1]) (.seq (.seq (.region false [
 ao 3 (.faddr 0 (.t 1)),
 ao 4 (.load (some 4) (.t 3)),
 ao 5 (.call 21 [(.t 4)]),
 ao 6 (.bin .neq (.t 5) (.c (i64 0))),
 ao 7 (.mv (.t 6)),
 ag 8 (.faddr 4 (.t 1)) 7 false [],
 ag 9 (.load none (.t 8)) 7 false [],
 ag 10 (.call 32 [(.t 9),(.c (i64 0)),(.c (i64 5))]) 7 false [],
 ag 11 (.un .not (.t 10)) 7 false [],
 ao 12 (.pick (.t 7) (.c (.bool true)) (.t 11)),
 ao 13 (.mv (.t 12)),
 ag 14 (.faddr 5 (.t 1)) 13 false [],
 ag 15 (.load none (.t 14)) 13 false [],
 ag 16 (.call 32 [(.t 15),(.c (i64 0)),(.c (i64 5))]) 13 false [],
 ag 17 (.un .not (.t 16)) 13 false [],
 ao 18 (.pick (.t 13) (.c (.bool true)) (.t 17)),
 ao 19 (.mv (.t 18)),
 ag 20 (.faddr 6 (.t 1)) 19 false [],
 ag 21 (.load none (.t 20)) 19 false [],
 ag 22 (.faddr 0 (.t 1)) 19 false [],
 ag 23 (.faddr 1 (.t 22)) 19 false [],
 ag 24 (.load none (.t 23)) 19 false [],
 ag 25 (.bin .sub (.t 24) (.c (i64 1))) 19 false [],
 ag 26 (.call 33 [(.t 21),(.c (i64 0)),(.t 25)]) 19 false [],
 ag 27 (.un .not (.t 26)) 19 false [],
 ao 28 (.pick (.t 19) (.c (.bool true)) (.t 27))] [28]) (.cond (.t 28) (.seq (.region false [
 ao 2 (.mv (.c (i64 110)))] [2]) (.ret)) (.skip))) (.seq (.region false [
 ao 2 (.mv (.c (i64 0)))] [2]) (.ret)))
def a6:AFn:=⟨1,[.t 2],b6,false⟩
def n6:Ann:=⟨[[1],[28],[2],[2]],[],[],[],[],false,[]⟩
def b7:AC:=
 .seq (.region false [
 ao 1 (.box (.t 0)),
 ao 2 (.mv (.c (.bool false)))] [1]) (.seq (.region false [
 ao 3 (.faddr 2 (.t 1)),
 ao 4 (.load none (.t 3)),
 ao 5 (.len (.t 4)),
 ao 6 (.bin .gtr (.t 5) (.c (i64 40))),
 ao 7 (.mv (.t 6)),
 ag 8 (.faddr 3 (.t 1)) 7 false [],
 ag 9 (.load none (.t 8)) 7 false [],
 ag 10 (.len (.t 9)) 7 false [],
 ag 11 (.bin .gtr (.t 10) (.c (i64 40))) 7 false [],
 ao 12 (.pick (.t 7) (.c (.bool true)) (.t 11)),
 ao 2 (.mv (.t 12))] [2]) (.ret))
def a7:AFn:=⟨1,[.t 2],b7,false⟩
def n7:Ann:=⟨[[1],[2]],[],[],[],[],false,[]⟩
@[simp] def d8l0:AC:=
 .seq (.seq (.region false [
 ao 24 (.mv (.t 5)),
 ao 25 (.faddr 2 (.t 1)),
 ao 26 (.load none (.t 25)),
 ao 27 (.len (.t 26)),
 ao 28 (.bin .lss (.t 24) (.t 27))] [1,3,4,5,28]) (.cond (.t 28) (.skip) (.exit 0))) (.seq (.block 1 (.seq (.seq (.region false [
 ao 31 (.faddr 2 (.t 1)),
 ao 32 (.load none (.t 31)),
 ao 33 (.mv (.t 5)),
 ao 34 (.idxs 2 (.t 32) (.t 33)),
 ao 35 (.load (some 2) (.t 34)),
 ao 36 (.call 34 [(.t 35),(.c (i64 12))]),
 ao 37 (.un .not (.t 36))] [1,3,4,5,37]) (.cond (.t 37) (.seq (.region false [
 ao 2 (.mv (.c (i64 50)))] [2]) (.ret)) (.skip))) (.region true (spl [
 ao 38 (.mv (.t 3)),
 ao 39 (.faddr 2 (.t 1)),
 ap 40 (.load none (.t 39)) [1],
 ao 41 (.mv (.t 5)),
 ap 42 (.idxs 2 (.t 40) (.t 41)) [2,3,1],
 ap 43 (.faddr 0 (.t 42)) [4,2,3,1],
 ap 44 (.load none (.t 43)) [5,4,2,3,1],
 ap 45 (.bin .add (.t 38) (.t 44)) [0,6,5,4,2,3,1],
 ao 46 (.mv (.t 4)),
 ao 47 (.faddr 2 (.t 1)),
 ap 48 (.load none (.t 47)) [9],
 ao 49 (.mv (.t 5)),
 ap 50 (.idxs 2 (.t 48) (.t 49)) [10,11,9],
 ap 51 (.faddr 1 (.t 50)) [12,10,11,9],
 ap 52 (.load none (.t 51)) [13,12,10,11,9],
 ap 53 (.bin .add (.t 46) (.t 52)) [8,14,13,12,10,11,9],
 ap 3 (.mv (.t 45)) [7,0,6,5,4,2,3,1]] [
 ap 4 (.mv (.t 53)) [15,16,8,14,13,12,10,11,9,7,0,6,5,4,2,3,1]]) [1,3,4,5]))) (.region false [
 ao 29 (.mv (.t 5)),
 ao 30 (.bin .add (.t 29) (.c (i64 1))),
 ao 5 (.mv (.t 30))] [1,3,4,5]))
def b8l0:AC:= .loop [1,3,4,5] [16,112,160,1088,1168] d8l0
@[simp] def d8l1:AC:=
 .seq (.seq (.region false [
 ao 54 (.mv (.t 6)),
 ao 55 (.faddr 3 (.t 1)),
 ao 56 (.load none (.t 55)),
 ao 57 (.len (.t 56)),
 ao 58 (.bin .lss (.t 54) (.t 57))] [1,3,4,6,58]) (.cond (.t 58) (.skip) (.exit 2))) (.seq (.block 3 (.seq (.region false [
 ao 61 (.faddr 3 (.t 1)),
 ao 62 (.load none (.t 61)),
 ao 63 (.mv (.t 6)),
 ao 64 (.idxs 2 (.t 62) (.t 63)),
 ao 65 (.load (some 2) (.t 64)),
 ao 7 (.alloc [(i64 0),(i64 0)]),
 ⟨none, .store 2 (.t 7) (.t 65),none,[],[]⟩] [1,3,4,6,7]) (.seq (.region false [
 ao 66 (.faddr 0 (.t 7)),
 ao 67 (.load none (.t 66)),
 ao 68 (.call 35 [(.t 67),(.c (i64 0)),(.c (i64 999))]),
 ao 69 (.un .not (.t 68)),
 ao 70 (.mv (.t 69)),
 ag 71 (.faddr 1 (.t 7)) 70 false [],
 ag 72 (.load none (.t 71)) 70 false [],
 ag 73 (.call 35 [(.t 72),(.c (i64 0)),(.c (i64 99))]) 70 false [],
 ag 74 (.un .not (.t 73)) 70 false [],
 ao 75 (.pick (.t 70) (.c (.bool true)) (.t 74))] [1,3,4,6,75]) (.cond (.t 75) (.seq (.region false [
 ao 2 (.mv (.c (i64 50)))] [2]) (.ret)) (.skip))))) (.region false [
 ao 59 (.mv (.t 6)),
 ao 60 (.bin .add (.t 59) (.c (i64 1))),
 ao 6 (.mv (.t 60))] [1,3,4,6]))
def b8l1:AC:= .loop [1,3,4,6] [16,160,576] d8l1
def b8:AC:=
 .seq (.region false [
 ao 1 (.box (.t 0)),
 ao 2 (.mv (.c (i64 0)))] [1]) (.seq (.seq (.region false [
 ao 8 (.faddr 0 (.t 1)),
 ao 9 (.load (some 2) (.t 8)),
 ao 10 (.call 34 [(.t 9),(.c (i64 2000))]),
 ao 11 (.un .not (.t 10)),
 ao 12 (.mv (.t 11)),
 ag 13 (.faddr 2 (.t 1)) 12 false [],
 ag 14 (.load none (.t 13)) 12 false [],
 ag 15 (.len (.t 14)) 12 false [],
 ag 16 (.bin .gtr (.t 15) (.c (i64 4))) 12 false [],
 ao 17 (.pick (.t 12) (.c (.bool true)) (.t 16)),
 ao 18 (.mv (.t 17)),
 ag 19 (.faddr 3 (.t 1)) 18 false [],
 ag 20 (.load none (.t 19)) 18 false [],
 ag 21 (.len (.t 20)) 18 false [],
 ag 22 (.bin .gtr (.t 21) (.c (i64 6))) 18 false [],
 ao 23 (.pick (.t 18) (.c (.bool true)) (.t 22))] [1,23]) (.cond (.t 23) (.seq (.region false [
 ao 2 (.mv (.c (i64 50)))] [2]) (.ret)) (.skip))) (.seq (.region false [
 ao 3 (.mv (.c (i64 0))),
 ao 4 (.mv (.c (i64 0)))] [1,3,4]) (.seq (.seq (.region false [
 ao 5 (.mv (.c (i64 0)))] [1,3,4,5]) (.block 0 (b8l0))) (.seq (.seq (.region false [
 ao 6 (.mv (.c (i64 0)))] [1,3,4,6]) (.block 2 (b8l1))) (.seq (.seq (.region false [
 ao 76 (.mv (.t 3)),
 ao 77 (.bin .gtr (.t 76) (.c (i64 12))),
 ao 78 (.mv (.t 77)),
 ag 79 (.mv (.t 4)) 78 false [],
 ag 80 (.bin .lss (.t 79) (.c (i64 12))) 78 false [],
 ao 81 (.pick (.t 78) (.c (.bool true)) (.t 80))] [81]) (.cond (.t 81) (.seq (.region false [
 ao 2 (.mv (.c (i64 50)))] [2]) (.ret)) (.skip))) (.seq (.region false [
 ao 2 (.mv (.c (i64 0)))] [2]) (.ret)))))))
def a8:AFn:=⟨1,[.t 2],b8,false⟩
def n8:Ann:=⟨[[1],[1,23],[2],[1,3,4],[1,3,4,5],[1,3,4,5,28],[1,3,4,5,37],[2],[1,3,4,5],[1,3,4,5],[1,3,4,6],[1,3,4,6,58],[1,3,4,6,7],[1,3,4,6,75],[2],[1,3,4,6],[81],[2],[2]],[⟨[],[1,3,4,5],[16,112,160,1088,1168]⟩,⟨[],[1,3,4,6],[16,160,576]⟩],[],[],[],false,[]⟩
def b9:AC:=
 .seq (.region false [
 ao 6 (.mv (.c (.bool false)))] [0,1,2]) (.seq (.region false [
 ao 7 (.mv (.t 1)),
 ao 8 (.mv (.t 0)),
 ao 9 (.bin .leq (.t 7) (.t 8)),
 ao 10 (.mv (.t 9)),
 ag 11 (.mv (.t 0)) 10 true [],
 ag 12 (.mv (.t 2)) 10 true [],
 ag 13 (.bin .leq (.t 11) (.t 12)) 10 true [],
 ao 14 (.pick (.t 10) (.t 13) (.c (.bool false))),
 ao 6 (.mv (.t 14))] [6]) (.ret))
def a9:AFn:=⟨3,[.t 6],b9,false⟩
def n9:Ann:=⟨[[0,1,2],[6]],[],[],[],[],false,[]⟩
@[simp] def d10l0:AC:=
 .seq (.seq (.region false [
 ao 21 (.mv (.t 6)),
 ao 22 (.faddr 0 (.t 2)),
 ao 23 (.faddr 1 (.t 22)),
 ao 24 (.load none (.t 23)),
 ao 25 (.bin .lss (.t 21) (.t 24))] [1,2,5,6,25]) (.cond (.t 25) (.skip) (.exit 0))) (.seq (.block 1 (.seq (.seq (.region false [
 ao 28 (.mv (.t 1)),
 ao 29 (.mv (.t 6)),
 ao 30 (.call 18 [(.t 28),(.t 29)]),
 ao 31 (.un .not (.t 30))] [1,2,5,6,31]) (.cond (.t 31) (.seq (.region false [
 ao 5 (.mv (.c (i64 0)))] [1,2,5,6]) (.exit 1)) (.skip))) (.seq (.region false [
 ao 32 (.mv (.t 5)),
 ao 33 (.bin .add (.t 32) (.c (i64 1))),
 ao 5 (.mv (.t 33))] [1,2,5,6]) (.seq (.region false [
 ao 34 (.mv (.t 5)),
 ao 35 (.faddr 5 (.t 2)),
 ao 36 (.load none (.t 35)),
 ao 37 (.bin .gtr (.t 34) (.t 36)),
 ao 38 (.mv (.t 37)),
 ag 39 (.faddr 6 (.t 2)) 38 false [],
 ag 40 (.load none (.t 39)) 38 false [],
 ag 41 (.mv (.t 6)) 38 false [],
 ag 42 (.call 18 [(.t 40),(.t 41)]) 38 false [],
 ao 43 (.pick (.t 38) (.c (.bool true)) (.t 42))] [1,2,5,6,43]) (.cond (.t 43) (.seq (.region false [
 ao 4 (.mv (.c (.bool false)))] [4]) (.ret)) (.skip)))))) (.region false [
 ao 26 (.mv (.t 6)),
 ao 27 (.bin .add (.t 26) (.c (i64 1))),
 ao 6 (.mv (.t 27))] [1,2,5,6]))
def b10l0:AC:= .loop [1,2,5,6] [32,192] d10l0
def b10:AC:=
 .seq (.region false [
 ao 2 (.box (.t 0)),
 ao 4 (.mv (.c (.bool false)))] [1,2]) (.seq (.seq (.region false [
 ao 7 (.mv (.t 1)),
 ao 8 (.faddr 0 (.t 2)),
 ao 9 (.faddr 1 (.t 8)),
 ao 10 (.load none (.t 9)),
 ao 11 (.bin .sub (.t 10) (.c (i64 1))),
 ao 12 (.call 33 [(.t 7),(.c (i64 0)),(.t 11)]),
 ao 13 (.un .not (.t 12)),
 ao 14 (.mv (.t 13)),
 ag 15 (.mv (.t 1)) 14 false [],
 ag 16 (.len (.t 15)) 14 false [],
 ag 17 (.faddr 4 (.t 2)) 14 false [],
 ag 18 (.load none (.t 17)) 14 false [],
 ag 19 (.bin .gtr (.t 16) (.t 18)) 14 false [],
 ao 20 (.pick (.t 14) (.c (.bool true)) (.t 19))] [1,2,20]) (.cond (.t 20) (.seq (.region false [
 ao 4 (.mv (.c (.bool false)))] [4]) (.ret)) (.skip))) (.seq (.region false [
 ao 5 (.mv (.c (i64 0)))] [1,2,5]) (.seq (.seq (.region false [
 ao 6 (.mv (.c (i64 0)))] [1,2,5,6]) (.block 0 (b10l0))) (.seq (.region false [
 ao 4 (.mv (.c (.bool true)))] [4]) (.ret)))))
def a10:AFn:=⟨2,[.t 4],b10,false⟩
def n10:Ann:=⟨[[1,2],[1,2,20],[4],[1,2,5],[1,2,5,6],[1,2,5,6,25],[1,2,5,6,31],[1,2,5,6],[1,2,5,6],[1,2,5,6,43],[4],[1,2,5,6],[4]],[⟨[],[1,2,5,6],[32,192]⟩],[],[],[],false,[]⟩
@[simp] def d11l1:AC:=
 .seq (.seq (.region false [
 ao 30 (.mv (.t 6)),
 ao 31 (.mv (.t 1)),
 ao 32 (.mv (.t 5)),
 ao 33 (.idxs 1 (.t 31) (.t 32)),
 ao 34 (.load none (.t 33)),
 ao 35 (.len (.t 34)),
 ao 36 (.bin .lss (.t 30) (.t 35))] [1,2,5,6,36]) (.cond (.t 36) (.skip) (.exit 2))) (.seq (.block 3 (.seq (.region false [
 ao 39 (.mv (.t 1)),
 ao 40 (.mv (.t 5)),
 ao 41 (.idxs 1 (.t 39) (.t 40)),
 ao 42 (.load none (.t 41)),
 ao 43 (.mv (.t 6)),
 ao 44 (.idxs 1 (.t 42) (.t 43)),
 ao 45 (.load none (.t 44)),
 ao 46 (.call 9 [(.t 45),(.c (i64 0)),(.c (i64 40))]),
 ao 47 (.un .not (.t 46))] [1,2,5,6,47]) (.cond (.t 47) (.seq (.region false [
 ao 4 (.mv (.c (.bool false)))] [4]) (.ret)) (.skip)))) (.region false [
 ao 37 (.mv (.t 6)),
 ao 38 (.bin .add (.t 37) (.c (i64 1))),
 ao 6 (.mv (.t 38))] [1,2,5,6]))
def b11l1:AC:= .loop [1,2,5,6] [32] d11l1
@[simp] def d11l2:AC:=
 .seq (.seq (.region false [
 ao 54 (.mv (.t 7)),
 ao 55 (.faddr 0 (.t 2)),
 ao 56 (.load none (.t 55)),
 ao 57 (.bin .lss (.t 54) (.t 56)),
 ao 58 (.mv (.t 57)),
 ag 59 (.mv (.t 5)) 58 true [],
 ag 60 (.bin .gtr (.t 59) (.c (i64 0))) 58 true [],
 ao 61 (.pick (.t 58) (.t 60) (.c (.bool false)))] [1,2,5,7,61]) (.cond (.t 61) (.skip) (.exit 4))) (.seq (.block 5 (.seq (.region true (spl [
 ao 64 (.mv (.t 1)),
 ao 65 (.mv (.t 5)),
 ap 66 (.idxs 1 (.t 64) (.t 65)) [0,1],
 ap 67 (.load none (.t 66)) [2,0,1],
 ao 68 (.mv (.t 7)),
 ap 69 (.call 36 [(.t 67),(.t 68)]) [3,4,2,0,1],
 ao 70 (.mv (.t 1)),
 ao 71 (.mv (.t 5)),
 ap 72 (.bin .sub (.t 71) (.c (i64 1))) [7],
 ap 73 (.idxs 1 (.t 70) (.t 72)) [6,8,7],
 ap 74 (.load none (.t 73)) [9,6,8,7],
 ao 75 (.mv (.t 7))] [
 ap 76 (.call 36 [(.t 74),(.t 75)]) [10,11,5,9,6,8,7,3,4,2,0,1],
 ap 77 (.bin .sub (.t 69) (.t 76)) [12,10,11,5,9,6,8,7,3,4,2,0,1],
 ap 8 (.mv (.t 77)) [13,12,10,11,5,9,6,8,7,3,4,2,0,1]]) [1,2,5,7,8]) (.seq (.region false [
 ao 78 (.mv (.t 8)),
 ao 79 (.bin .lss (.t 78) (.c (i64 0))),
 ao 80 (.mv (.t 79)),
 ag 81 (.mv (.t 8)) 80 false [],
 ag 82 (.bin .gtr (.t 81) (.c (i64 0))) 80 false [],
 ag 83 (.mv (.t 82)) 80 false [],
 ag 84 (.faddr 2 (.t 2)) 83 true [],
 ag 85 (.load none (.t 84)) 83 true [],
 ag 86 (.mv (.t 5)) 83 true [],
 ag 87 (.bin .sub (.t 86) (.c (i64 1))) 83 true [],
 ag 88 (.idxs 1 (.t 85) (.t 87)) 83 true [],
 ag 89 (.load none (.t 88)) 83 true [],
 ag 90 (.mv (.t 7)) 83 true [],
 ag 91 (.call 18 [(.t 89),(.t 90)]) 83 true [],
 ag 92 (.un .not (.t 91)) 83 true [],
 ag 93 (.pick (.t 83) (.t 92) (.c (.bool false))) 80 false [],
 ao 94 (.pick (.t 80) (.c (.bool true)) (.t 93))] [1,2,5,7,94]) (.cond (.t 94) (.seq (.region false [
 ao 4 (.mv (.c (.bool false)))] [4]) (.ret)) (.skip))))) (.region false [
 ao 62 (.mv (.t 7)),
 ao 63 (.bin .add (.t 62) (.c (i64 1))),
 ao 7 (.mv (.t 63))] [1,2,5,7]))
def b11l2:AC:= .loop [1,2,5,7] [32] d11l2
@[simp] def d11l0:AC:=
 .seq (.seq (.region false [
 ao 16 (.mv (.t 5)),
 ao 17 (.mv (.t 1)),
 ao 18 (.len (.t 17)),
 ao 19 (.bin .lss (.t 16) (.t 18))] [1,2,5,19]) (.cond (.t 19) (.skip) (.exit 0))) (.seq (.block 1 (.seq (.seq (.region true (spl [
 ao 22 (.mv (.t 1)),
 ao 23 (.mv (.t 5)),
 ap 24 (.idxs 1 (.t 22) (.t 23)) [0,1],
 ap 25 (.load none (.t 24)) [2,0,1],
 ap 26 (.len (.t 25)) [3,2,0,1],
 ao 27 (.faddr 0 (.t 2)),
 ap 28 (.load none (.t 27)) [5]] [
 ap 29 (.bin .neq (.t 26) (.t 28)) [4,6,3,2,0,1,5]]) [1,2,5,29]) (.cond (.t 29) (.seq (.region false [
 ao 4 (.mv (.c (.bool false)))] [4]) (.ret)) (.skip))) (.seq (.seq (.region false [
 ao 6 (.mv (.c (i64 0)))] [1,2,5,6]) (.block 2 (b11l1))) (.seq (.seq (.region false [
 ao 48 (.mv (.t 1)),
 ao 49 (.mv (.t 5)),
 ao 50 (.idxs 1 (.t 48) (.t 49)),
 ao 51 (.load none (.t 50)),
 ao 52 (.call 36 [(.t 51),(.c (i64 0))]),
 ao 53 (.bin .gtr (.t 52) (.c (i64 40)))] [1,2,5,53]) (.cond (.t 53) (.seq (.region false [
 ao 4 (.mv (.c (.bool false)))] [4]) (.ret)) (.skip))) (.seq (.region false [
 ao 7 (.mv (.c (i64 0)))] [1,2,5,7]) (.block 4 (b11l2))))))) (.region false [
 ao 20 (.mv (.t 5)),
 ao 21 (.bin .add (.t 20) (.c (i64 1))),
 ao 5 (.mv (.t 21))] [1,2,5]))
def b11l0:AC:= .loop [1,2,5] [32] d11l0
@[simp] def d11l3:AC:=
 .seq (.seq (.region false [
 ao 95 (.mv (.t 9)),
 ao 96 (.faddr 3 (.t 2)),
 ao 97 (.load none (.t 96)),
 ao 98 (.len (.t 97)),
 ao 99 (.bin .lss (.t 95) (.t 98))] [1,2,9,99]) (.cond (.t 99) (.skip) (.exit 6))) (.seq (.block 7 (.seq (.region false [
 ao 102 (.faddr 3 (.t 2)),
 ao 103 (.load none (.t 102)),
 ao 104 (.mv (.t 9)),
 ao 105 (.idxs 4 (.t 103) (.t 104)),
 ao 106 (.load (some 4) (.t 105)),
 ao 10 (.alloc [(i64 0),(i64 0),(i64 0),(i64 0)]),
 ⟨none, .store 4 (.t 10) (.t 106),none,[],[]⟩] [1,2,9,10]) (.seq (.region true (spl [
 ao 107 (.mv (.t 1)),
 ao 108 (.faddr 0 (.t 10)),
 ap 109 (.load none (.t 108)) [1],
 ap 110 (.idxs 1 (.t 107) (.t 109)) [0,2,1],
 ap 111 (.load none (.t 110)) [3,0,2,1],
 ao 112 (.faddr 1 (.t 10)),
 ap 113 (.load none (.t 112)) [5],
 ap 114 (.idxs 1 (.t 111) (.t 113)) [4,6,3,0,2,1,5],
 ap 115 (.load none (.t 114)) [7,4,6,3,0,2,1,5],
 ao 116 (.faddr 2 (.t 10)),
 ap 117 (.load none (.t 116)) [9],
 ao 118 (.faddr 3 (.t 10)),
 ap 119 (.load none (.t 118)) [11]] [
 ap 120 (.call 9 [(.t 115),(.t 117),(.t 119)]) [8,10,12,7,4,6,3,0,2,1,5,9,11],
 ap 121 (.un .not (.t 120)) [13,8,10,12,7,4,6,3,0,2,1,5,9,11]]) [1,2,9,121]) (.cond (.t 121) (.seq (.region false [
 ao 4 (.mv (.c (.bool false)))] [4]) (.ret)) (.skip))))) (.region false [
 ao 100 (.mv (.t 9)),
 ao 101 (.bin .add (.t 100) (.c (i64 1))),
 ao 9 (.mv (.t 101))] [1,2,9]))
def b11l3:AC:= .loop [1,2,9] [32] d11l3
def b11:AC:=
 .seq (.region false [
 ao 2 (.box (.t 0)),
 ao 4 (.mv (.c (.bool false)))] [1,2]) (.seq (.seq (.region false [
 ao 11 (.mv (.t 1)),
 ao 12 (.len (.t 11)),
 ao 13 (.faddr 1 (.t 2)),
 ao 14 (.load none (.t 13)),
 ao 15 (.bin .neq (.t 12) (.t 14))] [1,2,15]) (.cond (.t 15) (.seq (.region false [
 ao 4 (.mv (.c (.bool false)))] [4]) (.ret)) (.skip))) (.seq (.seq (.region false [
 ao 5 (.mv (.c (i64 0)))] [1,2,5]) (.block 0 (b11l0))) (.seq (.seq (.region false [
 ao 9 (.mv (.c (i64 0)))] [1,2,9]) (.block 6 (b11l3))) (.seq (.region false [
 ao 4 (.mv (.c (.bool true)))] [4]) (.ret)))))
def a11:AFn:=⟨2,[.t 4],b11,false⟩
def n11:Ann:=⟨[[1,2],[1,2,15],[4],[1,2,5],[1,2,5,19],[1,2,5,29],[4],[1,2,5,6],[1,2,5,6,36],[1,2,5,6,47],[4],[1,2,5,6],[1,2,5,53],[4],[1,2,5,7],[1,2,5,7,61],[1,2,5,7,8],[1,2,5,7,94],[4],[1,2,5,7],[1,2,5],[1,2,9],[1,2,9,99],[1,2,9,10],[1,2,9,121],[4],[1,2,9],[4]],[⟨[],[1,2,5],[32]⟩,⟨[],[1,2,5,6],[32]⟩,⟨[],[1,2,5,7],[32]⟩,⟨[],[1,2,9],[32]⟩],[],[],[],false,[]⟩
@[simp] def d12l0:AC:=
 .seq (.seq (.region false [
 ao 11 (.mv (.t 6)),
 ao 12 (.faddr 0 (.t 2)),
 ao 13 (.faddr 3 (.t 12)),
 ao 14 (.load none (.t 13)),
 ao 15 (.len (.t 14)),
 ao 16 (.bin .lss (.t 11) (.t 15))] [1,2,4,5,6,16]) (.cond (.t 16) (.skip) (.exit 0))) (.seq (.block 1 (.seq (.region false [
 ao 19 (.mv (.t 1)),
 ao 20 (.faddr 0 (.t 2)),
 ao 21 (.faddr 3 (.t 20)),
 ao 22 (.load none (.t 21)),
 ao 23 (.mv (.t 6)),
 ao 24 (.idxs 4 (.t 22) (.t 23)),
 ao 25 (.faddr 0 (.t 24)),
 ao 26 (.load none (.t 25)),
 ao 27 (.call 18 [(.t 19),(.t 26)]),
 ao 28 (.un .not (.t 27))] [1,2,4,5,6,28]) (.cond (.t 28) (.region true (spl [
 ao 29 (.faddr 3 (.t 5)),
 ap 30 (.load none (.t 29)) [0],
 ao 31 (.faddr 0 (.t 2)),
 ap 32 (.faddr 3 (.t 31)) [2],
 ap 33 (.load none (.t 32)) [3,2],
 ao 34 (.mv (.t 6)),
 ap 35 (.idxs 4 (.t 33) (.t 34)) [4,5,3,2],
 ap 36 (.load (some 4) (.t 35)) [6,4,5,3,2],
 ap 37 (.lit [(i64 0),(i64 0),(i64 0),(i64 0)] 1 [(0,(.t 36))]) [7,6,4,5,3,2]] [
 ap 38 (.app 4 32 (.t 30) (.t 37)) [1,8,0,7,6,4,5,3,2],
 ap 39 (.faddr 3 (.t 5)) [9,1,8,0,7,6,4,5,3,2],
 ⟨none, .store 1 (.t 39) (.t 38),none,[10,9,1,8,0,7,6,4,5,3,2],[]⟩]) [1,2,4,5,6]) (.skip)))) (.region false [
 ao 17 (.mv (.t 6)),
 ao 18 (.bin .add (.t 17) (.c (i64 1))),
 ao 6 (.mv (.t 18))] [1,2,4,5,6]))
def b12l0:AC:= .loop [1,2,4,5,6] [32,64,80,85,144,1144,2144,3144,4144,5144,6144,7144,8144] d12l0
def b12:AC:=
 .seq (.region false [
 ao 2 (.box (.t 0)),
 ao 4 (.alloc [(i64 0),(i64 0),(.sl .full 1 []),(.sl .full 4 [])])] [1,2,4]) (.seq (.region false [
 ao 7 (.faddr 0 (.t 2)),
 ao 8 (.load (some 4) (.t 7)),
 ao 9 (.call 37 [(.t 8)]),
 ao 5 (.alloc [(i64 0),(i64 0),(.sl .full 1 []),(.sl .full 4 [])]),
 ⟨none, .store 4 (.t 5) (.t 9),none,[],[]⟩] [1,2,4,5]) (.seq (.seq (.freeze [144,1144,2144,3144,4144,5144,6144,7144,8144]) (.region false [
 ao 10 (.faddr 3 (.t 5)),
 ⟨none, .store 1 (.t 10) (.c (.sl .full 4 [])),none,[],[]⟩] [1,2,4,5])) (.seq (.seq (.region false [
 ao 6 (.mv (.c (i64 0)))] [1,2,4,5,6]) (.block 0 (.seq (.thawc 5 3 85 4) (b12l0)))) (.seq (.region false [
 ao 40 (.load (some 4) (.t 5)),
 ⟨none, .store 4 (.t 4) (.t 40),none,[],[]⟩] [4]) (.ret)))))
def a12:AFn:=⟨2,[.cell 4 (some 4)],b12,false⟩
def n12:Ann:=⟨[[1,2,4],[1,2,4,5],[1,2,4,5],[1,2,4,5,6],[1,2,4,5,6,16],[1,2,4,5,6,28],[1,2,4,5,6],[1,2,4,5,6],[4]],[⟨[.c 5 3 85 4],[1,2,4,5,6],[32,64,80,85,144,1144,2144,3144,4144,5144,6144,7144,8144]⟩],[],[[],[],[144,1144,2144,3144,4144,5144,6144,7144,8144],[],[],[],[],[],[]],[],false,[]⟩
def b13:AC:=
 .seq (.region false [
 ao 0 (.mv (.c (.bool false)))] []) (.seq (.region false [
 ao 10 (.call 38 []),
 ao 9 (.mv (.t 10)),
 ao 11 (.ext (.t 9) 0),
 ao 12 (.ext (.t 9) 1),
 ao 1 (.alloc [(i64 0),(i64 0),(.sl .full 2 []),(.sl .full 2 [])]),
 ao 2 (.alloc [(i64 0),(i64 0),(.sl .full 2 []),(.sl .full 2 [])]),
 ⟨none, .store 4 (.t 1) (.t 11),none,[],[]⟩,
 ⟨none, .store 4 (.t 2) (.t 12),none,[],[]⟩] [1]) (.seq (.region false [
 ao 14 (.call 39 []),
 ao 13 (.mv (.t 14)),
 ao 15 (.ext (.t 13) 0),
 ao 16 (.ext (.t 13) 1),
 ao 3 (.alloc [(i64 0),(i64 0),(.sl .full 1 []),(.sl .full 4 []),(i64 0),(i64 0),(.sl .full 1 [])]),
 ao 4 (.alloc [(i64 0),(i64 0),(.sl .full 1 []),(.sl .full 4 []),(i64 0),(i64 0),(.sl .full 1 [])]),
 ⟨none, .store 7 (.t 3) (.t 15),none,[],[]⟩,
 ⟨none, .store 7 (.t 4) (.t 16),none,[],[]⟩] [1,3]) (.seq (.region false [
 ao 18 (.load (some 4) (.t 1)),
 ao 19 (.call 40 [(.t 18)]),
 ao 17 (.mv (.t 19)),
 ao 20 (.ext (.t 17) 0),
 ao 21 (.ext (.t 17) 1),
 ao 5 (.mv (.t 20)),
 ao 6 (.mv (.t 21))] [3,5,6]) (.seq (.region false [
 ao 23 (.load (some 7) (.t 3)),
 ao 24 (.call 41 [(.t 23),(.c (i64 1)),(.c (i64 0))]),
 ao 22 (.mv (.t 24)),
 ao 25 (.ext (.t 22) 0),
 ao 26 (.ext (.t 22) 1),
 ao 7 (.alloc [(i64 0),(i64 0)]),
 ⟨none, .store 2 (.t 7) (.t 25),none,[],[]⟩,
 ao 8 (.mv (.t 26))] [5,6,7,8]) (.seq (.region false [
 ao 27 (.mv (.t 6)),
 ao 28 (.bin .eql (.t 27) (.c (i64 0))),
 ao 29 (.mv (.t 28)),
 ag 30 (.mv (.t 8)) 29 true [],
 ag 31 (.bin .eql (.t 30) (.c (i64 0))) 29 true [],
 ao 32 (.pick (.t 29) (.t 31) (.c (.bool false))),
 ao 33 (.mv (.t 32)),
 ag 34 (.mv (.t 5)) 33 true [],
 ag 35 (.bin .eql (.t 34) (.c (i64 20))) 33 true [],
 ao 36 (.pick (.t 33) (.t 35) (.c (.bool false))),
 ao 37 (.mv (.t 36)),
 ag 38 (.load (some 2) (.t 7)) 37 true [],
 ag 39 (.build [(i64 0),(i64 0)] [(0,1,(.c (i64 2))),(1,1,(.c (i64 9)))]) 37 true [],
 ag 40 (.eqa [true,true] false (.t 38) (.t 39)) 37 true [],
 ao 41 (.pick (.t 37) (.t 40) (.c (.bool false))),
 ao 0 (.mv (.t 41))] [0]) (.ret))))))
def a13:AFn:=⟨0,[.t 0],b13,false⟩
def n13:Ann:=⟨[[],[1],[1,3],[3,5,6],[5,6,7,8],[0]],[],[],[],[],false,[(34,304),(30,384),(27,304),(8,384),(26,384),(25,384),(22,384),(6,304),(5,304),(21,304),(20,304),(17,304),(16,224),(15,224),(13,224),(12,160),(11,160),(9,160)]⟩
def b14:AC:=
 .seq (.region false [
 ao 1 (.box (.t 0)),
 ao 2 (.alloc [(i64 0),(i64 0)]),
 ao 3 (.mv (.c (.bool false)))] [1,2]) (.seq (.region false [
 ao 7 (.load (some 7) (.t 1)),
 ao 8 (.faddr 0 (.t 1)),
 ao 9 (.faddr 1 (.t 8)),
 ao 10 (.load none (.t 9)),
 ao 11 (.bin .sub (.t 10) (.c (i64 1))),
 ao 12 (.faddr 0 (.t 1)),
 ao 13 (.faddr 0 (.t 12)),
 ao 14 (.load none (.t 13)),
 ao 15 (.bin .sub (.t 14) (.c (i64 1))),
 ao 16 (.call 41 [(.t 7),(.t 11),(.t 15)]),
 ao 6 (.mv (.t 16)),
 ao 17 (.ext (.t 6) 0),
 ao 18 (.ext (.t 6) 1),
 ao 4 (.alloc [(i64 0),(i64 0)]),
 ⟨none, .store 2 (.t 4) (.t 17),none,[],[]⟩,
 ao 5 (.mv (.t 18))] [2,4,5]) (.seq (.region true (spl [
 ao 19 (.load (some 2) (.t 4)),
 ao 20 (.mv (.t 5)),
 ap 21 (.bin .eql (.t 20) (.c (i64 0))) [1],
 ap 22 (.mv (.t 21)) [2,1],
 ag 23 (.faddr 0 (.t 4)) 22 true [3,2,1],
 ag 24 (.load none (.t 23)) 22 true [4,3,2,1],
 ag 25 (.bin .geq (.t 24) (.c (i64 0))) 22 true [5,4,3,2,1],
 ap 26 (.pick (.t 22) (.t 25) (.c (.bool false))) [6,5,4,3,2,1],
 ap 27 (.mv (.t 26)) [7,6,5,4,3,2,1],
 ag 28 (.faddr 0 (.t 4)) 27 true [8,7,6,5,4,3,2,1],
 ag 29 (.load none (.t 28)) 27 true [9,8,7,6,5,4,3,2,1],
 ag 30 (.faddr 1 (.t 4)) 27 true [8,7,6,5,4,3,2,1],
 ag 31 (.load none (.t 30)) 27 true [11,8,7,6,5,4,3,2,1],
 ag 32 (.bin .leq (.t 29) (.t 31)) 27 true [10,12,9,11,8,7,6,5,4,3,2,1],
 ap 33 (.pick (.t 27) (.t 32) (.c (.bool false))) [13,10,12,9,11,8,7,6,5,4,3,2,1],
 ap 34 (.mv (.t 33)) [14,13,10,12,9,11,8,7,6,5,4,3,2,1],
 ⟨(some 35), .faddr 1 (.t 4),(some (34,true)),[15,14,13,10,12,9,11,8,7,6,5,4,3,2,1],[32]⟩,
 ⟨(some 36), .load none (.t 35),(some (34,true)),[16,15,14,13,10,12,9,11,8,7,6,5,4,3,2,1],[32]⟩,
 ⟨(some 37), .bin .leq (.t 36) (.c (i64 40)),(some (34,true)),[17,16,15,14,13,10,12,9,11,8,7,6,5,4,3,2,1],[32]⟩,
 ⟨(some 38), .pick (.t 34) (.t 37) (.c (.bool false)),none,[18,17,16,15,14,13,10,12,9,11,8,7,6,5,4,3,2,1],[32]⟩,
 ⟨none, .store 2 (.t 2) (.t 19),none,[15,0,14,13,10,12,9,11,8,7,6,5,4,3,2,1],[]⟩] [
 ap 3 (.mv (.t 38)) [19,20,18,17,16,15,0,14,13,10,12,9,11,8,7,6,5,4,3,2,1]]) [2,3]) (.ret)))
def a14:AFn:=⟨1,[.cell 2 (some 2), .t 3],b14,false⟩
def n14:Ann:=⟨[[1,2],[2,4,5],[2,3]],[],[],[],[],false,[(20,256),(5,256),(18,256),(17,256),(6,256)]⟩
def b15:AC:=
 .seq (.region false [
 ao 3 (.box (.t 0)),
 ao 4 (.box (.t 1)),
 ao 6 (.alloc [(i64 0),(i64 0),(.sl .full 2 []),(.sl .full 2 [])])] [2,3,4,6]) (.seq (.region false [
 ao 8 (.load (some 4) (.t 3)),
 ao 9 (.call 42 [(.t 8)]),
 ao 7 (.alloc [(i64 0),(i64 0),(.sl .full 2 []),(.sl .full 2 [])]),
 ⟨none, .store 4 (.t 7) (.t 9),none,[],[]⟩] [2,4,6,7]) (.seq (.seq (.freeze [144,1144,2144,3144,4144,5144,6144,7144,8144]) (.region false [
 ao 10 (.faddr 0 (.t 4)),
 ao 11 (.load none (.t 10)),
 ao 12 (.mv (.t 2)),
 ao 13 (.bin .mul (.t 11) (.t 12)),
 ao 14 (.faddr 1 (.t 4)),
 ao 15 (.load none (.t 14)),
 ao 16 (.mv (.t 2)),
 ao 17 (.bin .mul (.t 15) (.t 16)),
 ao 18 (.build [(i64 0),(i64 0)] [(0,1,(.t 13)),(1,1,(.t 17))]),
 ao 19 (.faddr 0 (.t 7)),
 ⟨none, .store 2 (.t 19) (.t 18),none,[],[]⟩] [6,7])) (.seq (.region false [
 ao 20 (.load (some 4) (.t 7)),
 ⟨none, .store 4 (.t 6) (.t 20),none,[],[]⟩] [6]) (.ret))))
def a15:AFn:=⟨3,[.cell 6 (some 4)],b15,false⟩
def n15:Ann:=⟨[[2,3,4,6],[2,4,6,7],[6,7],[6]],[],[],[[],[],[144,1144,2144,3144,4144,5144,6144,7144,8144],[]],[],false,[]⟩
def b16:AC:=
 .seq (.region false [
 ao 3 (.box (.t 0)),
 ao 4 (.box (.t 1)),
 ao 6 (.mv (.c (.bool false)))] [2,3,4]) (.seq (.seq (.region false [
 ao 15 (.load (some 4) (.t 3)),
 ao 16 (.mv (.t 2)),
 ao 17 (.call 43 [(.t 15),(.t 16)])] [2,3,4,17]) (.cond (.t 17) (.seq (.region true (spl [
 ao 19 (.load (some 4) (.t 4)),
 ao 20 (.lit [(i64 0)] 0 []),
 ao 21 (.mv (.t 2)),
 ap 22 (.app 1 8 (.t 20) (.t 21)) [1,2],
 ap 23 (.call 44 [(.t 19),(.t 22)]) [0,3,1,2],
 ap 18 (.mv (.t 23)) [4,0,3,1,2],
 ap 24 (.ext (.t 18) 0) [5,4,0,3,1,2],
 ap 25 (.ext (.t 18) 1) [5,4,0,3,1,2],
 ap 7 (.mv (.t 24)) [6,5,4,0,3,1,2]] [
 ap 8 (.mv (.t 25)) [7,8,6,5,4,0,3,1,2]]) [2,3,4,7,8]) (.seq (.region true (spl [
 ao 27 (.load (some 4) (.t 3)),
 ao 28 (.lit [(i64 0)] 0 []),
 ao 29 (.mv (.t 2)),
 ap 30 (.app 1 8 (.t 28) (.t 29)) [1,2],
 ap 31 (.call 44 [(.t 27),(.t 30)]) [0,3,1,2],
 ap 26 (.mv (.t 31)) [4,0,3,1,2],
 ap 32 (.ext (.t 26) 0) [5,4,0,3,1,2],
 ap 33 (.ext (.t 26) 1) [5,4,0,3,1,2],
 ap 9 (.mv (.t 32)) [6,5,4,0,3,1,2]] [
 ap 10 (.mv (.t 33)) [7,8,6,5,4,0,3,1,2]]) [3,4,7,8,9,10]) (.seq (.region false [
 ao 34 (.mv (.t 8)),
 ao 35 (.bin .neq (.t 34) (.c (i64 0))),
 ao 36 (.mv (.t 35)),
 ag 37 (.mv (.t 10)) 36 false [],
 ag 38 (.bin .neq (.t 37) (.c (i64 0))) 36 false [],
 ao 39 (.pick (.t 36) (.c (.bool true)) (.t 38)),
 ao 40 (.mv (.t 39)),
 ag 41 (.mv (.t 7)) 40 false [],
 ag 42 (.call 9 [(.t 41),(.c (i64 1)),(.c (i64 3))]) 40 false [],
 ag 43 (.un .not (.t 42)) 40 false [],
 ao 44 (.pick (.t 40) (.c (.bool true)) (.t 43)),
 ao 45 (.mv (.t 44)),
 ag 46 (.mv (.t 7)) 45 false [],
 ag 47 (.bin .neq (.t 46) (.c (i64 3))) 45 false [],
 ag 48 (.mv (.t 47)) 45 false [],
 ag 49 (.mv (.t 9)) 48 true [],
 ag 50 (.mv (.t 7)) 48 true [],
 ag 51 (.bin .neq (.t 49) (.t 50)) 48 true [],
 ag 52 (.pick (.t 48) (.t 51) (.c (.bool false))) 45 false [],
 ao 53 (.pick (.t 45) (.c (.bool true)) (.t 52))] [3,4,53]) (.cond (.t 53) (.seq (.region false [
 ao 6 (.mv (.c (.bool false)))] [6]) (.ret)) (.skip))))) (.skip))) (.seq (.region false [
 ao 55 (.load (some 4) (.t 4)),
 ao 56 (.call 40 [(.t 55)]),
 ao 54 (.mv (.t 56)),
 ao 57 (.ext (.t 54) 0),
 ao 58 (.ext (.t 54) 1),
 ao 11 (.mv (.t 57)),
 ao 12 (.mv (.t 58))] [3,11,12]) (.seq (.region false [
 ao 60 (.load (some 4) (.t 3)),
 ao 61 (.call 40 [(.t 60)]),
 ao 59 (.mv (.t 61)),
 ao 62 (.ext (.t 59) 0),
 ao 63 (.ext (.t 59) 1),
 ao 13 (.mv (.t 62)),
 ao 14 (.mv (.t 63))] [11,12,13,14]) (.seq (.region false [
 ao 64 (.mv (.t 12)),
 ao 65 (.bin .eql (.t 64) (.c (i64 0))),
 ao 66 (.mv (.t 65)),
 ag 67 (.mv (.t 12)) 66 false [],
 ag 68 (.bin .eql (.t 67) (.c (i64 3))) 66 false [],
 ao 69 (.pick (.t 66) (.c (.bool true)) (.t 68)),
 ao 70 (.mv (.t 69)),
 ag 71 (.mv (.t 12)) 70 true [],
 ag 72 (.bin .neq (.t 71) (.c (i64 0))) 70 true [],
 ag 73 (.mv (.t 72)) 70 true [],
 ag 74 (.mv (.t 14)) 73 false [],
 ag 75 (.bin .eql (.t 74) (.c (i64 0))) 73 false [],
 ag 76 (.mv (.t 75)) 73 false [],
 ag 77 (.mv (.t 13)) 76 true [],
 ag 78 (.bin .geq (.t 77) (.c (i64 0))) 76 true [],
 ag 79 (.pick (.t 76) (.t 78) (.c (.bool false))) 73 false [],
 ag 80 (.mv (.t 79)) 73 false [],
 ag 81 (.mv (.t 13)) 80 true [],
 ag 82 (.mv (.t 11)) 80 true [],
 ag 83 (.bin .leq (.t 81) (.t 82)) 80 true [],
 ag 84 (.pick (.t 80) (.t 83) (.c (.bool false))) 73 false [],
 ag 85 (.pick (.t 73) (.c (.bool true)) (.t 84)) 70 true [],
 ao 86 (.pick (.t 70) (.t 85) (.c (.bool false))),
 ao 6 (.mv (.t 86))] [6]) (.ret)))))
def a16:AFn:=⟨3,[.t 6],b16,false⟩
def n16:Ann:=⟨[[2,3,4],[2,3,4,17],[2,3,4,7,8],[3,4,7,8,9,10],[3,4,53],[6],[3,11,12],[11,12,13,14],[6]],[],[],[],[],false,[(82,896),(81,976),(77,976),(74,976),(71,896),(67,896),(64,896),(14,976),(13,976),(63,976),(62,976),(59,976),(12,896),(11,896),(58,896),(57,896),(54,896),(50,368),(49,496),(46,368),(41,368),(37,496),(34,368),(10,496),(9,496),(33,496),(32,496),(26,496),(8,368),(7,368),(25,368),(24,368),(18,368)]⟩
def b17:AC:=
 .seq (.region false [
 ao 2 (.box (.t 0)),
 ao 4 (.mv (.c (.bool false)))] [1,2]) (.seq (.region false [
 ao 5 (.faddr 0 (.t 2)),
 ao 6 (.load (some 4) (.t 5)),
 ao 7 (.mv (.t 1)),
 ao 8 (.call 45 [(.t 6),(.t 7)]),
 ao 4 (.mv (.t 8))] [4]) (.ret))
def a17:AFn:=⟨2,[.t 4],b17,false⟩
def n17:Ann:=⟨[[1,2],[4]],[],[],[],[],false,[(4,128)]⟩
@[simp] def d18l0:AC:=
 .seq (.seq (.region false [
 ao 6 (.mv (.t 5)),
 ao 7 (.mv (.t 0)),
 ao 8 (.len (.t 7)),
 ao 9 (.bin .lss (.t 6) (.t 8))] [0,1,5,9]) (.cond (.t 9) (.skip) (.exit 0))) (.seq (.block 1 (.seq (.region false [
 ao 12 (.mv (.t 0)),
 ao 13 (.mv (.t 5)),
 ao 14 (.idxs 1 (.t 12) (.t 13)),
 ao 15 (.load none (.t 14)),
 ao 16 (.mv (.t 1)),
 ao 17 (.bin .eql (.t 15) (.t 16))] [0,1,5,17]) (.cond (.t 17) (.seq (.region false [
 ao 4 (.mv (.c (.bool true)))] [4]) (.ret)) (.skip)))) (.region false [
 ao 10 (.mv (.t 5)),
 ao 11 (.bin .add (.t 10) (.c (i64 1))),
 ao 5 (.mv (.t 11))] [0,1,5]))
def b18l0:AC:= .loop [0,1,5] [] d18l0
def b18:AC:=
 .seq (.region false [
 ao 4 (.mv (.c (.bool false)))] [0,1]) (.seq (.seq (.region false [
 ao 5 (.mv (.c (i64 0)))] [0,1,5]) (.block 0 (b18l0))) (.seq (.region false [
 ao 4 (.mv (.c (.bool false)))] [4]) (.ret)))
def a18:AFn:=⟨2,[.t 4],b18,false⟩
def n18:Ann:=⟨[[0,1],[0,1,5],[0,1,5,9],[0,1,5,17],[4],[0,1,5],[4]],[⟨[],[0,1,5],[]⟩],[],[],[],false,[]⟩
def b19:AC:=
 .seq (.region false [
 ao 1 (.box (.t 0)),
 ao 2 (.alloc [(i64 0),(i64 0),(.sl .full 1 []),(.sl .full 4 []),(i64 0),(i64 0),(.sl .full 1 [])])] [1,2]) (.seq (.region true (spl [
 ao 3 (.faddr 0 (.t 1)),
 ap 4 (.load (some 4) (.t 3)) [0],
 ap 5 (.call 37 [(.t 4)]) [1,0],
 ao 6 (.faddr 4 (.t 1)),
 ap 7 (.load none (.t 6)) [3],
 ao 8 (.faddr 5 (.t 1)),
 ap 9 (.load none (.t 8)) [5],
 ao 10 (.lit [(i64 0)] 0 []),
 ao 11 (.faddr 6 (.t 1)),
 ap 12 (.load none (.t 11)) [8],
 ap 13 (.app 1 8 (.t 10) (.t 12)) [7,9,2,8,1,0]] [
 ap 14 (.build [(i64 0),(i64 0),(.sl .full 1 []),(.sl .full 4 []),(i64 0),(i64 0),(.sl .full 1 [])] [(0,4,(.t 5)),(4,1,(.t 7)),(5,1,(.t 9)),(6,1,(.t 13))]) [4,6,10,3,5,7,9,2,8,1,0],
 ⟨none, .store 7 (.t 2) (.t 14),none,[11,4,6,10,3,5,7,9,2,8,1,0],[]⟩]) [2]) (.ret))
def a19:AFn:=⟨1,[.cell 2 (some 7)],b19,false⟩
def n19:Ann:=⟨[[1,2],[2]],[],[],[],[],false,[]⟩
@[simp] def d21l0:AC:=
 .seq (.seq (.region false [
 ao 30 (.mv (.t 3)),
 ao 31 (.faddr 2 (.t 1)),
 ao 32 (.load none (.t 31)),
 ao 33 (.len (.t 32)),
 ao 34 (.bin .lss (.t 30) (.t 33))] [1,3,34]) (.cond (.t 34) (.skip) (.exit 0))) (.seq (.block 1 (.seq (.region true (spl [
 ao 37 (.faddr 2 (.t 1)),
 ap 38 (.load none (.t 37)) [0],
 ao 39 (.mv (.t 3)),
 ap 40 (.idxs 1 (.t 38) (.t 39)) [1,2,0],
 ap 41 (.load none (.t 40)) [3,1,2,0],
 ao 42 (.faddr 0 (.t 1)),
 ap 43 (.load none (.t 42)) [5],
 ap 44 (.bin .sub (.t 43) (.c (i64 1))) [6,5]] [
 ap 45 (.call 33 [(.t 41),(.c (i64 0)),(.t 44)]) [4,7,3,1,2,0,6,5],
 ap 46 (.un .not (.t 45)) [8,4,7,3,1,2,0,6,5]]) [1,3,46]) (.cond (.t 46) (.seq (.region false [
 ao 2 (.mv (.c (i64 10)))] [2]) (.ret)) (.skip)))) (.region false [
 ao 35 (.mv (.t 3)),
 ao 36 (.bin .add (.t 35) (.c (i64 1))),
 ao 3 (.mv (.t 36))] [1,3]))
def b21l0:AC:= .loop [1,3] [16,112,192,960] d21l0
@[simp] def d21l1:AC:=
 .seq (.seq (.region false [
 ao 47 (.mv (.t 4)),
 ao 48 (.faddr 3 (.t 1)),
 ao 49 (.load none (.t 48)),
 ao 50 (.len (.t 49)),
 ao 51 (.bin .lss (.t 47) (.t 50))] [1,4,51]) (.cond (.t 51) (.skip) (.exit 2))) (.seq (.block 3 (.seq (.region true (spl [
 ao 54 (.load (some 4) (.t 1)),
 ao 55 (.faddr 3 (.t 1)),
 ap 56 (.load none (.t 55)) [1],
 ao 57 (.mv (.t 4)),
 ap 58 (.idxs 4 (.t 56) (.t 57)) [2,3,1],
 ap 59 (.load (some 4) (.t 58)) [4,2,3,1]] [
 ap 60 (.call 28 [(.t 54),(.t 59)]) [0,5,4,2,3,1],
 ap 61 (.un .not (.t 60)) [6,0,5,4,2,3,1]]) [1,4,61]) (.cond (.t 61) (.seq (.region false [
 ao 2 (.mv (.c (i64 10)))] [2]) (.ret)) (.skip)))) (.region false [
 ao 52 (.mv (.t 4)),
 ao 53 (.bin .add (.t 52) (.c (i64 1))),
 ao 4 (.mv (.t 53))] [1,4]))
def b21l1:AC:= .loop [1,4] [16,112,192,720] d21l1
def b21:AC:=
 .seq (.region false [
 ao 1 (.box (.t 0)),
 ao 2 (.mv (.c (i64 0)))] [1]) (.seq (.seq (.region false [
 ao 5 (.faddr 0 (.t 1)),
 ao 6 (.load none (.t 5)),
 ao 7 (.call 9 [(.t 6),(.c (i64 1)),(.c (i64 4))]),
 ao 8 (.un .not (.t 7)),
 ao 9 (.mv (.t 8)),
 ag 10 (.faddr 1 (.t 1)) 9 false [],
 ag 11 (.load none (.t 10)) 9 false [],
 ag 12 (.call 9 [(.t 11),(.c (i64 1)),(.c (i64 5))]) 9 false [],
 ag 13 (.un .not (.t 12)) 9 false [],
 ao 14 (.pick (.t 9) (.c (.bool true)) (.t 13)),
 ao 15 (.mv (.t 14)),
 ag 16 (.faddr 2 (.t 1)) 15 false [],
 ag 17 (.load none (.t 16)) 15 false [],
 ag 18 (.len (.t 17)) 15 false [],
 ag 19 (.faddr 1 (.t 1)) 15 false [],
 ag 20 (.load none (.t 19)) 15 false [],
 ag 21 (.bin .sub (.t 20) (.c (i64 1))) 15 false [],
 ag 22 (.bin .neq (.t 18) (.t 21)) 15 false [],
 ao 23 (.pick (.t 15) (.c (.bool true)) (.t 22)),
 ao 24 (.mv (.t 23)),
 ag 25 (.faddr 3 (.t 1)) 24 false [],
 ag 26 (.load none (.t 25)) 24 false [],
 ag 27 (.len (.t 26)) 24 false [],
 ag 28 (.bin .gtr (.t 27) (.c (i64 8))) 24 false [],
 ao 29 (.pick (.t 24) (.c (.bool true)) (.t 28))] [1,29]) (.cond (.t 29) (.seq (.region false [
 ao 2 (.mv (.c (i64 10)))] [2]) (.ret)) (.skip))) (.seq (.seq (.region false [
 ao 3 (.mv (.c (i64 0)))] [1,3]) (.block 0 (b21l0))) (.seq (.seq (.region false [
 ao 4 (.mv (.c (i64 0)))] [1,4]) (.block 2 (b21l1))) (.seq (.region false [
 ao 2 (.mv (.c (i64 0)))] [2]) (.ret)))))
def a21:AFn:=⟨1,[.t 2],b21,false⟩
def n21:Ann:=⟨[[1],[1,29],[2],[1,3],[1,3,34],[1,3,46],[2],[1,3],[1,4],[1,4,51],[1,4,61],[2],[1,4],[2]],[⟨[],[1,3],[16,112,192,960]⟩,⟨[],[1,4],[16,112,192,720]⟩],[],[],[],false,[]⟩
def b28:AC:=
 .seq (.region false [
 ao 2 (.box (.t 0)),
 ao 3 (.box (.t 1)),
 ao 4 (.mv (.c (.bool false)))] [2,3]) (.seq (.region false [
 ao 5 (.load (some 4) (.t 2)),
 ao 6 (.faddr 0 (.t 3)),
 ao 7 (.load none (.t 6)),
 ao 8 (.call 45 [(.t 5),(.t 7)]),
 ao 9 (.mv (.t 8)),
 ag 10 (.load (some 4) (.t 2)) 9 true [],
 ag 11 (.faddr 1 (.t 3)) 9 true [],
 ag 12 (.load none (.t 11)) 9 true [],
 ag 13 (.call 59 [(.t 10),(.t 12)]) 9 true [],
 ao 14 (.pick (.t 9) (.t 13) (.c (.bool false))),
 ao 15 (.mv (.t 14)),
 ag 16 (.faddr 3 (.t 3)) 15 true [],
 ag 17 (.load none (.t 16)) 15 true [],
 ag 18 (.call 9 [(.t 17),(.c (i64 0)),(.c (i64 40))]) 15 true [],
 ao 19 (.pick (.t 15) (.t 18) (.c (.bool false))),
 ao 20 (.mv (.t 19)),
 ag 21 (.faddr 2 (.t 3)) 20 true [],
 ag 22 (.load none (.t 21)) 20 true [],
 ag 23 (.faddr 3 (.t 3)) 20 true [],
 ag 24 (.load none (.t 23)) 20 true [],
 ag 25 (.call 9 [(.t 22),(.c (i64 0)),(.t 24)]) 20 true [],
 ao 26 (.pick (.t 20) (.t 25) (.c (.bool false))),
 ao 4 (.mv (.t 26))] [4]) (.ret))
def a28:AFn:=⟨2,[.t 4],b28,false⟩
def n28:Ann:=⟨[[2,3],[4]],[],[],[],[],false,[(9,128)]⟩
def b31:AC:=
 .seq (.region false [
 ao 1 (.box (.t 0)),
 ao 2 (.mv (.c (.bool false)))] [1]) (.seq (.region false [
 ao 3 (.faddr 0 (.t 1)),
 ao 4 (.load (some 4) (.t 3)),
 ao 5 (.call 46 [(.t 4)]),
 ao 6 (.mv (.t 5)),
 ag 7 (.faddr 6 (.t 1)) 6 false [],
 ag 8 (.load none (.t 7)) 6 false [],
 ag 9 (.len (.t 8)) 6 false [],
 ag 10 (.bin .gtr (.t 9) (.c (i64 40))) 6 false [],
 ao 11 (.pick (.t 6) (.c (.bool true)) (.t 10)),
 ao 2 (.mv (.t 11))] [2]) (.ret))
def a31:AFn:=⟨1,[.t 2],b31,false⟩
def n31:Ann:=⟨[[1],[2]],[],[],[],[],false,[(6,80)]⟩
def b32:AC:=
 .seq (.region false [
 ao 6 (.mv (.c (.bool false)))] [0,1,2]) (.seq (.region false [
 ao 7 (.mv (.t 0)),
 ao 8 (.mv (.t 1)),
 ao 9 (.mv (.t 2)),
 ao 10 (.call 9 [(.t 7),(.t 8),(.t 9)]),
 ao 6 (.mv (.t 10))] [6]) (.ret))
def a32:AFn:=⟨3,[.t 6],b32,false⟩
def n32:Ann:=⟨[[0,1,2],[6]],[],[],[],[],false,[(6,160)]⟩
@[simp] def d33l0:AC:=
 .seq (.seq (.region false [
 ao 8 (.mv (.t 7)),
 ao 9 (.mv (.t 0)),
 ao 10 (.len (.t 9)),
 ao 11 (.bin .lss (.t 8) (.t 10))] [0,1,2,7,11]) (.cond (.t 11) (.skip) (.exit 0))) (.seq (.block 1 (.seq (.region true (spl [
 ao 14 (.mv (.t 0)),
 ao 15 (.mv (.t 7)),
 ap 16 (.idxs 1 (.t 14) (.t 15)) [0,1],
 ap 17 (.load none (.t 16)) [2,0,1],
 ao 18 (.mv (.t 1)),
 ao 19 (.mv (.t 2)),
 ap 20 (.call 9 [(.t 17),(.t 18),(.t 19)]) [3,4,5,2,0,1],
 ap 21 (.un .not (.t 20)) [6,3,4,5,2,0,1],
 ap 22 (.mv (.t 21)) [7,6,3,4,5,2,0,1],
 ag 23 (.mv (.t 7)) 22 false [8,7,6,3,4,5,2,0,1],
 ag 24 (.bin .gtr (.t 23) (.c (i64 0))) 22 false [9,8,7,6,3,4,5,2,0,1],
 ag 25 (.mv (.t 24)) 22 false [10,9,8,7,6,3,4,5,2,0,1],
 ag 26 (.mv (.t 0)) 25 true [11,10,9,8,7,6,3,4,5,2,0,1],
 ag 27 (.mv (.t 7)) 25 true [11,10,9,8,7,6,3,4,5,2,0,1],
 ag 28 (.idxs 1 (.t 26) (.t 27)) 25 true [12,13,11,10,9,8,7,6,3,4,5,2,0,1],
 ag 29 (.load none (.t 28)) 25 true [14,12,13,11,10,9,8,7,6,3,4,5,2,0,1],
 ag 30 (.mv (.t 0)) 25 true [11,10,9,8,7,6,3,4,5,2,0,1],
 ag 31 (.mv (.t 7)) 25 true [11,10,9,8,7,6,3,4,5,2,0,1],
 ag 32 (.bin .sub (.t 31) (.c (i64 1))) 25 true [17,11,10,9,8,7,6,3,4,5,2,0,1],
 ag 33 (.idxs 1 (.t 30) (.t 32)) 25 true [16,18,17,11,10,9,8,7,6,3,4,5,2,0,1],
 ag 34 (.load none (.t 33)) 25 true [19,16,18,17,11,10,9,8,7,6,3,4,5,2,0,1]] [
 ag 35 (.bin .leq (.t 29) (.t 34)) 25 true [15,20,14,12,13,19,16,18,17,11,10,9,8,7,6,3,4,5,2,0,1],
 ag 36 (.pick (.t 25) (.t 35) (.c (.bool false))) 22 false [21,15,20,14,12,13,19,16,18,17,11,10,9,8,7,6,3,4,5,2,0,1],
 ap 37 (.pick (.t 22) (.c (.bool true)) (.t 36)) [22,21,15,20,14,12,13,19,16,18,17,11,10,9,8,7,6,3,4,5,2,0,1]]) [0,1,2,7,37]) (.cond (.t 37) (.seq (.region false [
 ao 6 (.mv (.c (.bool false)))] [6]) (.ret)) (.skip)))) (.region false [
 ao 12 (.mv (.t 7)),
 ao 13 (.bin .add (.t 12) (.c (i64 1))),
 ao 7 (.mv (.t 13))] [0,1,2,7]))
def b33l0:AC:= .loop [0,1,2,7] [] d33l0
def b33:AC:=
 .seq (.region false [
 ao 6 (.mv (.c (.bool false)))] [0,1,2]) (.seq (.seq (.region false [
 ao 7 (.mv (.c (i64 0)))] [0,1,2,7]) (.block 0 (b33l0))) (.seq (.region false [
 ao 6 (.mv (.c (.bool true)))] [6]) (.ret)))
def a33:AFn:=⟨3,[.t 6],b33,false⟩
def n33:Ann:=⟨[[0,1,2],[0,1,2,7],[0,1,2,7,11],[0,1,2,7,37],[6],[0,1,2,7],[6]],[⟨[],[0,1,2,7],[]⟩],[],[],[],false,[]⟩
def b34:AC:=
 .seq (.region false [
 ao 2 (.box (.t 0)),
 ao 4 (.mv (.c (.bool false)))] [1,2]) (.seq (.region false [
 ao 5 (.faddr 1 (.t 2)),
 ao 6 (.load none (.t 5)),
 ao 7 (.mv (.t 1)),
 ao 8 (.call 35 [(.t 6),(.c (i64 0)),(.t 7)]),
 ao 9 (.mv (.t 8)),
 ag 10 (.faddr 0 (.t 2)) 9 true [],
 ag 11 (.load none (.t 10)) 9 true [],
 ag 12 (.faddr 1 (.t 2)) 9 true [],
 ag 13 (.load none (.t 12)) 9 true [],
 ag 14 (.call 35 [(.t 11),(.c (i64 0)),(.t 13)]) 9 true [],
 ao 15 (.pick (.t 9) (.t 14) (.c (.bool false))),
 ao 4 (.mv (.t 15))] [4]) (.ret))
def a34:AFn:=⟨2,[.t 4],b34,false⟩
def n34:Ann:=⟨[[1,2],[4]],[],[],[],[],false,[(9,128)]⟩
def b35:AC:=
 .seq (.region false [
 ao 6 (.mv (.c (.bool false)))] [0,1,2]) (.seq (.region false [
 ao 7 (.mv (.t 0)),
 ao 8 (.mv (.t 1)),
 ao 9 (.mv (.t 2)),
 ao 10 (.call 9 [(.t 7),(.t 8),(.t 9)]),
 ao 6 (.mv (.t 10))] [6]) (.ret))
def a35:AFn:=⟨3,[.t 6],b35,false⟩
def n35:Ann:=⟨[[0,1,2],[6]],[],[],[],[],false,[(6,160)]⟩
def b36:AC:=
 .seq (.region false [
 ao 4 (.mv (.c (i64 0)))] [0,1]) (.seq (.region false [
 ao 5 (.mv (.t 0)),
 ao 6 (.mv (.t 1)),
 ao 7 (.slice 1 (.t 5) (some (.t 6)) none none),
 ao 8 (.call 63 [(.t 7)]),
 ao 4 (.mv (.t 8))] [4]) (.ret))
def a36:AFn:=⟨2,[.t 4],b36,false⟩
def n36:Ann:=⟨[[0,1],[4]],[],[],[],[],false,[(4,128)]⟩
@[simp] def d37l0:AC:=
 .seq (.seq (.region false [
 ao 14 (.mv (.t 4)),
 ao 15 (.faddr 2 (.t 1)),
 ao 16 (.load none (.t 15)),
 ao 17 (.len (.t 16)),
 ao 18 (.bin .lss (.t 14) (.t 17))] [1,2,3,4,18]) (.cond (.t 18) (.skip) (.exit 0))) (.seq (.block 1 (.region true (spl [
 ao 21 (.faddr 2 (.t 3)),
 ap 22 (.load none (.t 21)) [0],
 ao 23 (.lit [(i64 0)] 0 []),
 ao 24 (.faddr 2 (.t 1)),
 ap 25 (.load none (.t 24)) [3],
 ao 26 (.mv (.t 4)),
 ap 27 (.idxs 1 (.t 25) (.t 26)) [4,5,3],
 ap 28 (.load none (.t 27)) [6,4,5,3],
 ap 29 (.app 1 8 (.t 23) (.t 28)) [2,7,6,4,5,3],
 ap 30 (.lit [(.sl .full 1 [])] 1 [(0,(.t 29))]) [8,2,7,6,4,5,3]] [
 ap 31 (.app 1 24 (.t 22) (.t 30)) [1,9,0,8,2,7,6,4,5,3],
 ap 32 (.faddr 2 (.t 3)) [10,1,9,0,8,2,7,6,4,5,3],
 ⟨none, .store 1 (.t 32) (.t 31),none,[11,10,1,9,0,8,2,7,6,4,5,3],[]⟩]) [1,2,3,4])) (.region false [
 ao 19 (.mv (.t 4)),
 ao 20 (.bin .add (.t 19) (.c (i64 1))),
 ao 4 (.mv (.t 20))] [1,2,3,4]))
def b37l0:AC:= .loop [1,2,3,4] [16,32,48,52,144,192] d37l0
def b37:AC:=
 .seq (.region false [
 ao 1 (.box (.t 0)),
 ao 2 (.alloc [(i64 0),(i64 0),(.sl .full 1 []),(.sl .full 4 [])])] [1,2]) (.seq (.region true (spl [
 ao 5 (.faddr 0 (.t 1)),
 ap 6 (.load none (.t 5)) [0],
 ao 7 (.faddr 1 (.t 1)),
 ap 8 (.load none (.t 7)) [2],
 ao 9 (.lit [(i64 0),(i64 0),(i64 0),(i64 0)] 0 []),
 ao 10 (.faddr 3 (.t 1)),
 ap 11 (.load none (.t 10)) [5],
 ap 12 (.app 4 32 (.t 9) (.t 11)) [4,6,5],
 ap 13 (.build [(i64 0),(i64 0),(.sl .full 1 []),(.sl .full 4 [])] [(0,1,(.t 6)),(1,1,(.t 8)),(3,1,(.t 12))]) [1,3,7,0,2,4,6,5],
 ao 3 (.alloc [(i64 0),(i64 0),(.sl .full 1 []),(.sl .full 4 [])])] [
 ⟨none, .store 4 (.t 3) (.t 13),none,[8,9,1,3,7,0,2,4,6,5],[]⟩]) [1,2,3]) (.seq (.seq (.region false [
 ao 4 (.mv (.c (i64 0)))] [1,2,3,4]) (.block 0 (.seq (.thawc 3 2 52 1) (b37l0)))) (.seq (.region false [
 ao 33 (.load (some 4) (.t 3)),
 ⟨none, .store 4 (.t 2) (.t 33),none,[],[]⟩] [2]) (.ret))))
def a37:AFn:=⟨1,[.cell 2 (some 4)],b37,true⟩
def n37:Ann:=⟨[[1,2],[1,2,3],[1,2,3,4],[1,2,3,4,18],[1,2,3,4],[1,2,3,4],[2]],[⟨[.c 3 2 52 1],[1,2,3,4],[16,32,48,52,144,192]⟩],[],[],[],true,[]⟩
def b38:AC:=
 .seq (.region false [
 ao 0 (.alloc [(i64 0),(i64 0),(.sl .full 2 []),(.sl .full 2 [])]),
 ao 1 (.alloc [(i64 0),(i64 0),(.sl .full 2 []),(.sl .full 2 [])])] [0,1]) (.seq (.region false [
 ao 2 (.build [(i64 0),(i64 0)] [(0,1,(.c (i64 100))),(1,1,(.c (i64 120)))]),
 ao 3 (.build [(i64 0),(i64 0)] [(0,1,(.c (i64 2))),(1,1,(.c (i64 6)))]),
 ao 4 (.build [(i64 0),(i64 0)] [(0,1,(.c (i64 3))),(1,1,(.c (i64 5)))]),
 ao 5 (.build [(i64 0),(i64 0)] [(0,1,(.c (i64 4))),(1,1,(.c (i64 6)))]),
 ao 6 (.lit [(i64 0),(i64 0)] 3 [(0,(.t 3)),(1,(.t 4)),(2,(.t 5))]),
 ao 7 (.build [(i64 0),(i64 0)] [(0,1,(.c (i64 50))),(1,1,(.c (i64 4)))]),
 ao 8 (.build [(i64 0),(i64 0)] [(0,1,(.c (i64 60))),(1,1,(.c (i64 7)))]),
 ao 9 (.build [(i64 0),(i64 0)] [(0,1,(.c (i64 45))),(1,1,(.c (i64 2)))]),
 ao 10 (.build [(i64 0),(i64 0)] [(0,1,(.c (i64 70))),(1,1,(.c (i64 9)))]),
 ao 11 (.lit [(i64 0),(i64 0)] 4 [(0,(.t 7)),(1,(.t 8)),(2,(.t 9)),(3,(.t 10))]),
 ao 12 (.build [(i64 0),(i64 0),(.sl .full 2 []),(.sl .full 2 [])] [(0,2,(.t 2)),(2,1,(.t 6)),(3,1,(.t 11))]),
 ⟨none, .store 4 (.t 0) (.t 12),none,[],[]⟩] [0,1]) (.seq (.region false [
 ao 13 (.load (some 4) (.t 0)),
 ao 14 (.call 42 [(.t 13)]),
 ⟨none, .store 4 (.t 1) (.t 14),none,[],[]⟩] [0,1]) (.seq (.seq (.freeze [224,1224,2224,3224,4224,5224,6224,7224,8224]) (.region true (spl [
 ao 15 (.faddr 3 (.t 0)),
 ap 16 (.load none (.t 15)) [0],
 ap 17 (.idxs 2 (.t 16) (.c (i64 0))) [1,0],
 ap 18 (.load (some 2) (.t 17)) [2,1,0],
 ao 19 (.faddr 3 (.t 0)),
 ap 20 (.load none (.t 19)) [4],
 ap 21 (.idxs 2 (.t 20) (.c (i64 2))) [5,4],
 ap 22 (.load (some 2) (.t 21)) [6,5,4]] [
 ap 23 (.lit [(i64 0),(i64 0)] 2 [(0,(.t 18)),(1,(.t 22))]) [3,7,2,1,0,6,5,4],
 ap 24 (.faddr 3 (.t 1)) [8,3,7,2,1,0,6,5,4],
 ⟨none, .store 1 (.t 24) (.t 23),none,[9,8,3,7,2,1,0,6,5,4],[]⟩]) [0,1])) (.seq (.region true (spl [
 ao 25 (.load (some 4) (.t 0)),
 ⟨(some 26), .load (some 4) (.t 1),none,[],[0]⟩,
 ⟨none, .store 4 (.t 0) (.t 25),none,[0],[]⟩] [
 ⟨none, .store 4 (.t 1) (.t 26),none,[1,2,0],[]⟩]) [0,1]) (.ret)))))
def a38:AFn:=⟨0,[.cell 0 (some 4), .cell 1 (some 4)],b38,false⟩
def n38:Ann:=⟨[[0,1],[0,1],[0,1],[0,1],[0,1]],[],[],[[],[],[],[224,1224,2224,3224,4224,5224,6224,7224,8224],[]],[],false,[]⟩
def b39:AC:=
 .seq (.region false [
 ao 0 (.alloc [(i64 0),(i64 0),(.sl .full 1 []),(.sl .full 4 []),(i64 0),(i64 0),(.sl .full 1 [])]),
 ao 1 (.alloc [(i64 0),(i64 0),(.sl .full 1 []),(.sl .full 4 []),(i64 0),(i64 0),(.sl .full 1 [])])] [0,1]) (.seq (.region false [
 ao 2 (.lit [(i64 0)] 1 [(0,(.c (i64 0)))]),
 ao 3 (.lit [(i64 0)] 1 [(0,(.c (i64 0)))]),
 ao 4 (.lit [(i64 0)] 1 [(0,(.c (i64 0)))]),
 ao 5 (.lit [(.sl .full 1 [])] 3 [(0,(.t 2)),(1,(.t 3)),(2,(.t 4))]),
 ao 6 (.call 64 [(.c (i64 0)),(.c (i64 0)),(.c (i64 5)),(.c (i64 6))]),
 ao 7 (.call 64 [(.c (i64 1)),(.c (i64 0)),(.c (i64 2)),(.c (i64 3))]),
 ao 8 (.call 64 [(.c (i64 2)),(.c (i64 0)),(.c (i64 7)),(.c (i64 9))]),
 ao 9 (.call 64 [(.c (i64 3)),(.c (i64 0)),(.c (i64 4)),(.c (i64 4))]),
 ao 10 (.lit [(i64 0),(i64 0),(i64 0),(i64 0)] 4 [(0,(.t 6)),(1,(.t 7)),(2,(.t 8)),(3,(.t 9))]),
 ao 11 (.build [(i64 0),(i64 0),(.sl .full 1 []),(.sl .full 4 [])] [(0,1,(.c (i64 1))),(1,1,(.c (i64 4))),(2,1,(.t 5)),(3,1,(.t 10))]),
 ao 12 (.lit [(i64 0)] 1 [(0,(.c (i64 2)))]),
 ao 13 (.build [(i64 0),(i64 0),(.sl .full 1 []),(.sl .full 4 []),(i64 0),(i64 0),(.sl .full 1 [])] [(0,4,(.t 11)),(4,1,(.c (i64 2))),(5,1,(.c (i64 1))),(6,1,(.t 12))]),
 ⟨none, .store 7 (.t 0) (.t 13),none,[],[]⟩] [0,1]) (.seq (.region false [
 ao 14 (.load (some 7) (.t 0)),
 ao 15 (.call 19 [(.t 14)]),
 ⟨none, .store 7 (.t 1) (.t 15),none,[],[]⟩] [0,1]) (.seq (.region false [
 ao 16 (.faddr 6 (.t 1)),
 ⟨none, .store 1 (.t 16) (.c (.sl .full 1 [])),none,[],[]⟩] [0,1]) (.seq (.region true (spl [
 ao 17 (.load (some 7) (.t 0)),
 ⟨(some 18), .load (some 7) (.t 1),none,[],[0]⟩,
 ⟨none, .store 7 (.t 0) (.t 17),none,[0],[]⟩] [
 ⟨none, .store 7 (.t 1) (.t 18),none,[1,2,0],[]⟩]) [0,1]) (.ret)))))
def a39:AFn:=⟨0,[.cell 0 (some 7), .cell 1 (some 7)],b39,false⟩
def n39:Ann:=⟨[[0,1],[0,1],[0,1],[0,1],[0,1]],[],[],[],[],false,[]⟩
def b40:AC:=
 .seq (.region false [
 ao 1 (.box (.t 0)),
 ao 2 (.mv (.c (i64 0))),
 ao 3 (.mv (.c (i64 0)))] [1]) (.seq (.region false [
 ao 9 (.load (some 4) (.t 1)),
 ao 10 (.call 65 [(.t 9),(.c (.bool true))]),
 ao 8 (.mv (.t 10)),
 ao 11 (.ext (.t 8) 0),
 ao 12 (.ext (.t 8) 1),
 ao 4 (.mv (.t 11)),
 ao 5 (.mv (.t 12))] [4,5]) (.seq (.seq (.region false [
 ao 13 (.mv (.t 5)),
 ao 14 (.bin .neq (.t 13) (.c (i64 0)))] [4,5,14]) (.cond (.t 14) (.seq (.region false [
 ao 15 (.mv (.t 5)),
 ao 2 (.mv (.c (i64 0))),
 ao 3 (.mv (.t 15))] [2,3]) (.ret)) (.skip))) (.seq (.region false [
 ao 17 (.mv (.t 4)),
 ao 18 (.call 66 [(.t 17)]),
 ao 16 (.mv (.t 18)),
 ao 19 (.ext (.t 16) 0),
 ao 20 (.ext (.t 16) 1),
 ao 6 (.mv (.t 19)),
 ao 7 (.mv (.t 20))] [7]) (.seq (.seq (.region false [
 ao 21 (.mv (.t 7)),
 ao 22 (.bin .lss (.t 21) (.c (i64 0)))] [7,22]) (.cond (.t 22) (.seq (.region false [
 ao 2 (.mv (.c (i64 0))),
 ao 3 (.mv (.c (i64 3)))] [2,3]) (.ret)) (.skip))) (.seq (.region false [
 ao 23 (.mv (.t 7)),
 ao 2 (.mv (.t 23)),
 ao 3 (.mv (.c (i64 0)))] [2,3]) (.ret))))))
def a40:AFn:=⟨1,[.t 2, .t 3],b40,false⟩
def n40:Ann:=⟨[[1],[4,5],[4,5,14],[2,3],[7],[7,22],[2,3],[2,3]],[],[],[],[],false,[(2,288),(23,288),(21,288),(7,288),(6,288),(20,288),(19,288),(16,288),(17,160),(3,160),(15,160),(13,160),(5,160),(4,160),(12,160),(11,160),(8,160)]⟩
def b41:AC:=
 .seq (.region false [
 ao 3 (.box (.t 0)),
 ao 4 (.box (.t 1)),
 ao 5 (.box (.t 2)),
 ao 6 (.alloc [(i64 0),(i64 0)]),
 ao 7 (.mv (.c (i64 0)))] [3,4,5,6]) (.seq (.region true (spl [
 ao 11 (.load (some 7) (.t 3)),
 ao 12 (.load (some 7) (.t 3)),
 ao 13 (.load none (.t 4)),
 ap 14 (.call 68 [(.t 12),(.t 13)]) [1,2],
 ap 15 (.mv (.t 14)) [3,1,2],
 ag 16 (.load none (.t 5)) 15 true [4,3,1,2],
 ag 17 (.faddr 0 (.t 3)) 15 true [4,3,1,2],
 ag 18 (.faddr 0 (.t 17)) 15 true [6,4,3,1,2],
 ag 19 (.load none (.t 18)) 15 true [7,6,4,3,1,2],
 ag 20 (.bin .sub (.t 19) (.c (i64 1))) 15 true [8,7,6,4,3,1,2],
 ag 21 (.call 69 [(.t 16),(.c (i64 0)),(.t 20)]) 15 true [5,9,8,7,6,4,3,1,2],
 ap 22 (.pick (.t 15) (.t 21) (.c (.bool false))) [10,5,9,8,7,6,4,3,1,2],
 ap 23 (.call 67 [(.t 11),(.t 22)]) [0,11,10,5,9,8,7,6,4,3,1,2],
 ap 10 (.mv (.t 23)) [12,0,11,10,5,9,8,7,6,4,3,1,2],
 ap 24 (.ext (.t 10) 0) [13,12,0,11,10,5,9,8,7,6,4,3,1,2],
 ap 25 (.ext (.t 10) 1) [13,12,0,11,10,5,9,8,7,6,4,3,1,2],
 ap 8 (.mv (.t 24)) [14,13,12,0,11,10,5,9,8,7,6,4,3,1,2]] [
 ap 9 (.mv (.t 25)) [15,16,14,13,12,0,11,10,5,9,8,7,6,4,3,1,2]]) [4,5,6,8,9]) (.seq (.seq (.region false [
 ao 26 (.mv (.t 9)),
 ao 27 (.bin .neq (.t 26) (.c (i64 0)))] [4,5,6,8,9,27]) (.cond (.t 27) (.seq (.region false [
 ao 28 (.build [(i64 0),(i64 0)] []),
 ao 29 (.mv (.t 9)),
 ⟨none, .store 2 (.t 6) (.t 28),none,[],[]⟩,
 ao 7 (.mv (.t 29))] [6,7]) (.ret)) (.skip))) (.seq (.region false [
 ao 30 (.mv (.t 8)),
 ao 31 (.mkfn 71 [] [(.t 4),(.t 5)]),
 ao 32 (.call 70 [(.t 30),(.t 31)]),
 ⟨none, .store 2 (.t 6) (.t 32),none,[],[]⟩,
 ao 7 (.mv (.c (i64 0)))] [6,7]) (.ret))))
def a41:AFn:=⟨3,[.cell 6 (some 2), .t 7],b41,false⟩
def n41:Ann:=⟨[[3,4,5,6],[4,5,6,8,9],[4,5,6,8,9,27],[6,7],[6,7]],[],[],[],[],false,[(30,368),(7,368),(29,368),(26,368),(9,368),(8,368),(25,368),(24,368),(10,368),(15,224)]⟩
def b42:AC:=
 .seq (.region false [
 ao 1 (.box (.t 0)),
 ao 2 (.alloc [(i64 0),(i64 0),(.sl .full 2 []),(.sl .full 2 [])])] [1,2]) (.seq (.region true (spl [
 ao 3 (.faddr 0 (.t 1)),
 ap 4 (.load (some 2) (.t 3)) [0],
 ao 5 (.lit [(i64 0),(i64 0)] 0 []),
 ao 6 (.faddr 2 (.t 1)),
 ap 7 (.load none (.t 6)) [3],
 ap 8 (.appm 2 16 (.t 5) (.t 7)) [2,4,3],
 ao 9 (.lit [(i64 0),(i64 0)] 0 []),
 ao 10 (.faddr 3 (.t 1)),
 ap 11 (.load none (.t 10)) [7],
 ap 12 (.appm 2 16 (.t 9) (.t 11)) [6,8,5,7,2,4,3]] [
 ap 13 (.build [(i64 0),(i64 0),(.sl .full 2 []),(.sl .full 2 [])] [(0,2,(.t 4)),(2,1,(.t 8)),(3,1,(.t 12))]) [1,9,0,6,8,5,7,2,4,3],
 ⟨none, .store 4 (.t 2) (.t 13),none,[10,1,9,0,6,8,5,7,2,4,3],[]⟩]) [2]) (.ret))
def a42:AFn:=⟨1,[.cell 2 (some 4)],b42,true⟩
def n42:Ann:=⟨[[1,2],[2]],[],[],[],[8,12],true,[]⟩
@[simp] def d43l0:AC:=
 .seq (.seq (.region false [
 ao 12 (.mv (.t 5)),
 ao 13 (.mv (.t 1)),
 ao 14 (.len (.t 13)),
 ao 15 (.bin .lss (.t 12) (.t 14))] [1,2,5,15]) (.cond (.t 15) (.skip) (.exit 0))) (.seq (.block 1 (.seq (.region true (spl [
 ao 18 (.load (some 4) (.t 2)),
 ao 19 (.mv (.t 1)),
 ao 20 (.mv (.t 5)),
 ap 21 (.idxs 1 (.t 19) (.t 20)) [1,2],
 ap 22 (.load none (.t 21)) [3,1,2],
 ap 23 (.call 72 [(.t 18),(.t 22)]) [0,4,3,1,2],
 ap 24 (.un .not (.t 23)) [5,0,4,3,1,2],
 ap 25 (.mv (.t 24)) [6,5,0,4,3,1,2],
 ag 26 (.lit [(i64 0)] 0 []) 25 false [7,6,5,0,4,3,1,2],
 ag 27 (.mv (.t 1)) 25 false [7,6,5,0,4,3,1,2],
 ag 28 (.mv (.t 5)) 25 false [7,6,5,0,4,3,1,2],
 ag 29 (.slice 1 (.t 27) none (some (.t 28)) none) 25 false [9,10,7,6,5,0,4,3,1,2],
 ag 30 (.app 1 8 (.t 26) (.t 29)) 25 false [8,11,9,10,7,6,5,0,4,3,1,2],
 ag 31 (.mv (.t 1)) 25 false [7,6,5,0,4,3,1,2],
 ag 32 (.mv (.t 5)) 25 false [7,6,5,0,4,3,1,2],
 ag 33 (.idxs 1 (.t 31) (.t 32)) 25 false [13,14,7,6,5,0,4,3,1,2],
 ag 34 (.load none (.t 33)) 25 false [15,13,14,7,6,5,0,4,3,1,2]] [
 ag 35 (.call 18 [(.t 30),(.t 34)]) 25 false [16,12,15,13,14,8,11,9,10,7,6,5,0,4,3,1,2],
 ap 36 (.pick (.t 25) (.c (.bool true)) (.t 35)) [17,16,12,15,13,14,8,11,9,10,7,6,5,0,4,3,1,2]]) [1,2,5,36]) (.cond (.t 36) (.seq (.region false [
 ao 4 (.mv (.c (.bool false)))] [4]) (.ret)) (.skip)))) (.region false [
 ao 16 (.mv (.t 5)),
 ao 17 (.bin .add (.t 16) (.c (i64 1))),
 ao 5 (.mv (.t 17))] [1,2,5]))
def b43l0:AC:= .loop [1,2,5] [32] d43l0
def b43:AC:=
 .seq (.region false [
 ao 2 (.box (.t 0)),
 ao 4 (.mv (.c (.bool false)))] [1,2]) (.seq (.seq (.region false [
 ao 6 (.mv (.t 1)),
 ao 7 (.len (.t 6)),
 ao 8 (.faddr 2 (.t 2)),
 ao 9 (.load none (.t 8)),
 ao 10 (.len (.t 9)),
 ao 11 (.bin .neq (.t 7) (.t 10))] [1,2,11]) (.cond (.t 11) (.seq (.region false [
 ao 4 (.mv (.c (.bool false)))] [4]) (.ret)) (.skip))) (.seq (.seq (.region false [
 ao 5 (.mv (.c (i64 0)))] [1,2,5]) (.block 0 (b43l0))) (.seq (.region false [
 ao 4 (.mv (.c (.bool true)))] [4]) (.ret))))
def a43:AFn:=⟨2,[.t 4],b43,false⟩
def n43:Ann:=⟨[[1,2],[1,2,11],[4],[1,2,5],[1,2,5,15],[1,2,5,36],[4],[1,2,5],[4]],[⟨[],[1,2,5],[32]⟩],[],[],[],false,[]⟩
@[simp] def d44l0:AC:=
 .seq (.region false [
 ao 28 (.bin .lss (.t 27) (.t 26))] [2,8,25,26,27,28]) (.seq (.cond (.t 28) (.skip) (.exit 0)) (.seq (.block 1 (.seq (.region false [
 ao 29 (.mv (.t 27)),
 ao 30 (.idxs 1 (.t 25) (.t 27)),
 ao 31 (.load none (.t 30)),
 ao 9 (.mv (.t 29)),
 ao 10 (.mv (.t 31))] [2,8,9,10,25,26,27]) (.seq (.region false [
 ao 32 (.faddr 2 (.t 2)),
 ao 33 (.load none (.t 32)),
 ao 34 (.mv (.t 9)),
 ao 35 (.idxs 2 (.t 33) (.t 34)),
 ao 36 (.load (some 2) (.t 35)),
 ao 11 (.alloc [(i64 0),(i64 0)]),
 ⟨none, .store 2 (.t 11) (.t 36),none,[],[]⟩] [2,8,10,11,25,26,27]) (.seq (.seq (.region false [
 ao 37 (.faddr 0 (.t 2)),
 ao 38 (.faddr 0 (.t 37)),
 ao 39 (.load none (.t 38)),
 ao 12 (.mv (.t 39))] [2,8,10,11,12,25,26,27]) (.seq (.region false [
 ao 40 (.mv (.t 12)),
 ao 41 (.bin .gtr (.t 40) (.c (i64 0)))] [2,8,10,11,12,25,26,27,41]) (.cond (.t 41) (.region true (spl [
 ao 42 (.faddr 1 (.t 11)),
 ap 43 (.load none (.t 42)) [0],
 ao 44 (.faddr 3 (.t 2)),
 ap 45 (.load none (.t 44)) [2],
 ao 46 (.mv (.t 10)),
 ap 47 (.idxs 2 (.t 45) (.t 46)) [3,4,2],
 ap 48 (.faddr 0 (.t 47)) [5,3,4,2],
 ap 49 (.load none (.t 48)) [6,5,3,4,2],
 ap 50 (.bin .mul (.c (i64 12)) (.t 49)) [7,6,5,3,4,2],
 ao 51 (.mv (.t 12)),
 ap 52 (.bin .quo (.t 50) (.t 51)) [8,9,7,6,5,3,4,2]] [
 ap 53 (.mm false (.t 43) (.t 52)) [1,10,0,8,9,7,6,5,3,4,2],
 ap 54 (.faddr 1 (.t 11)) [11,1,10,0,8,9,7,6,5,3,4,2],
 ⟨none, .store 1 (.t 54) (.t 53),none,[12,11,1,10,0,8,9,7,6,5,3,4,2],[]⟩]) [2,8,11,25,26,27]) (.skip)))) (.seq (.seq (.region false [
 ao 55 (.faddr 1 (.t 11)),
 ao 56 (.load none (.t 55)),
 ao 57 (.faddr 0 (.t 11)),
 ao 58 (.load none (.t 57)),
 ao 59 (.bin .lss (.t 56) (.t 58))] [2,8,11,25,26,27,59]) (.cond (.t 59) (.seq (.region false [
 ao 4 (.mv (.c (i64 2))),
 ao 5 (.mv (.c (i64 0)))] [4,5]) (.ret)) (.skip))) (.region false [
 ao 60 (.mv (.t 8)),
 ao 61 (.faddr 1 (.t 11)),
 ao 62 (.load none (.t 61)),
 ao 63 (.bin .add (.t 60) (.t 62)),
 ao 8 (.mv (.t 63))] [2,8,25,26,27])))))) (.region false [
 ao 64 (.bin .add (.t 27) (.c (i64 1))),
 ao 27 (.mv (.t 64))] [2,8,25,26,27])))
def b44l0:AC:= .loop [2,8,25,26,27] [32,256,384] d44l0
def b44:AC:=
 .seq (.region false [
 ao 2 (.box (.t 0)),
 ao 4 (.mv (.c (i64 0))),
 ao 5 (.mv (.c (i64 0)))] [1,2]) (.seq (.region false [
 ao 14 (.load (some 4) (.t 2)),
 ao 15 (.mv (.t 1)),
 ao 16 (.call 73 [(.t 14),(.t 15)]),
 ao 13 (.mv (.t 16)),
 ao 17 (.ext (.t 13) 0),
 ao 18 (.ext (.t 13) 1),
 ao 6 (.mv (.t 17)),
 ao 7 (.mv (.t 18))] [1,2,6,7]) (.seq (.seq (.region false [
 ao 19 (.mv (.t 7)),
 ao 20 (.bin .neq (.t 19) (.c (i64 0)))] [1,2,6,7,20]) (.cond (.t 20) (.seq (.region false [
 ao 21 (.mv (.t 7)),
 ao 4 (.mv (.c (i64 0))),
 ao 5 (.mv (.t 21))] [4,5]) (.ret)) (.skip))) (.seq (.seq (.region false [
 ao 22 (.mv (.t 6)),
 ao 23 (.mv (.t 1)),
 ao 24 (.call 74 [(.t 22),(.t 23)])] [1,2,24]) (.cond (.t 24) (.seq (.region false [
 ao 4 (.mv (.c (i64 1))),
 ao 5 (.mv (.c (i64 0)))] [4,5]) (.ret)) (.skip))) (.seq (.region false [
 ao 8 (.mv (.c (i64 0)))] [1,2,8]) (.seq (.seq (.region false [
 ao 25 (.mv (.t 1)),
 ao 26 (.len (.t 25)),
 ao 27 (.mv (.c (i64 0)))] [2,8,25,26,27]) (.block 0 (b44l0))) (.seq (.seq (.region false [
 ao 65 (.mv (.t 8)),
 ao 66 (.bin .lss (.t 65) (.c (i64 12)))] [66]) (.cond (.t 66) (.seq (.region false [
 ao 4 (.mv (.c (i64 2))),
 ao 5 (.mv (.c (i64 0)))] [4,5]) (.ret)) (.skip))) (.seq (.region false [
 ao 4 (.mv (.c (i64 3))),
 ao 5 (.mv (.c (i64 0)))] [4,5]) (.ret))))))))
def a44:AFn:=⟨2,[.t 4, .t 5],b44,false⟩
def n44:Ann:=⟨[[1,2],[1,2,6,7],[1,2,6,7,20],[4,5],[1,2,24],[4,5],[1,2,8],[2,8,25,26,27],[2,8,25,26,27,28],[2,8,9,10,25,26,27],[2,8,10,11,25,26,27],[2,8,10,11,12,25,26,27],[2,8,10,11,12,25,26,27,41],[2,8,11,25,26,27],[2,8,11,25,26,27,59],[4,5],[2,8,25,26,27],[2,8,25,26,27],[66],[4,5],[4,5]],[⟨[],[2,8,25,26,27],[32,256,384]⟩],[],[],[],false,[(22,256),(5,256),(21,256),(19,256),(7,256),(6,256),(18,256),(17,256),(13,256)]⟩
def b45:AC:=
 .seq (.region false [
 ao 2 (.box (.t 0)),
 ao 4 (.mv (.c (.bool false)))] [1,2]) (.seq (.region false [
 ao 5 (.mv (.t 1)),
 ao 6 (.faddr 1 (.t 2)),
 ao 7 (.load none (.t 6)),
 ao 8 (.bin .sub (.t 7) (.c (i64 1))),
 ao 9 (.call 9 [(.t 5),(.c (i64 0)),(.t 8)]),
 ao 4 (.mv (.t 9))] [4]) (.ret))
def a45:AFn:=⟨2,[.t 4],b45,false⟩
def n45:Ann:=⟨[[1,2],[4]],[],[],[],[],false,[(4,144)]⟩
def b46:AC:=
 .seq (.region false [
 ao 1 (.box (.t 0)),
 ao 2 (.mv (.c (.bool false)))] [1]) (.seq (.region false [
 ao 3 (.faddr 2 (.t 1)),
 ao 4 (.load none (.t 3)),
 ao 5 (.call 75 [(.t 4)]),
 ao 6 (.mv (.t 5)),
 ag 7 (.faddr 3 (.t 1)) 6 false [],
 ag 8 (.load none (.t 7)) 6 false [],
 ag 9 (.len (.t 8)) 6 false [],
 ag 10 (.bin .gtr (.t 9) (.c (i64 40))) 6 false [],
 ao 11 (.pick (.t 6) (.c (.bool true)) (.t 10)),
 ao 2 (.mv (.t 11))] [2]) (.ret))
def a46:AFn:=⟨1,[.t 2],b46,false⟩
def n46:Ann:=⟨[[1],[2]],[],[],[],[],false,[(6,80)]⟩
def b55:AC:=
 .seq (.region false [
 ao 3 (.box (.t 0)),
 ao 6 (.alloc [(i64 0),(i64 0)]),
 ao 7 (.mv (.c (i64 0)))] [1,2,3,6]) (.seq (.region true (spl [
 ao 11 (.load (some 4) (.t 3)),
 ao 12 (.load (some 4) (.t 3)),
 ao 13 (.mv (.t 1)),
 ao 14 (.mv (.t 2)),
 ap 15 (.call 81 [(.t 12),(.t 13),(.t 14)]) [1,2,3],
 ap 16 (.call 80 [(.t 11),(.t 15)]) [0,4,1,2,3],
 ap 10 (.mv (.t 16)) [5,0,4,1,2,3],
 ap 17 (.ext (.t 10) 0) [6,5,0,4,1,2,3],
 ap 18 (.ext (.t 10) 1) [6,5,0,4,1,2,3],
 ap 8 (.mv (.t 17)) [7,6,5,0,4,1,2,3]] [
 ap 9 (.mv (.t 18)) [8,9,7,6,5,0,4,1,2,3]]) [1,2,6,8,9]) (.seq (.seq (.region false [
 ao 19 (.mv (.t 9)),
 ao 20 (.bin .neq (.t 19) (.c (i64 0)))] [1,2,6,8,9,20]) (.cond (.t 20) (.seq (.region false [
 ao 21 (.build [(i64 0),(i64 0)] []),
 ao 22 (.mv (.t 9)),
 ⟨none, .store 2 (.t 6) (.t 21),none,[],[]⟩,
 ao 7 (.mv (.t 22))] [6,7]) (.ret)) (.skip))) (.seq (.region false [
 ao 23 (.mv (.t 8)),
 ao 24 (.mv (.t 1)),
 ao 25 (.mv (.t 2)),
 ao 26 (.call 82 [(.t 23),(.t 24),(.t 25)]),
 ⟨none, .store 2 (.t 6) (.t 26),none,[],[]⟩,
 ao 7 (.mv (.c (i64 0)))] [6,7]) (.ret))))
def a55:AFn:=⟨3,[.cell 6 (some 2), .t 7],b55,false⟩
def n55:Ann:=⟨[[1,2,3,6],[1,2,6,8,9],[1,2,6,8,9,20],[6,7],[6,7]],[],[],[],[],false,[(23,256),(7,256),(22,256),(19,256),(9,256),(8,256),(18,256),(17,256),(10,256)]⟩
def b59:AC:=
 .seq (.region false [
 ao 2 (.box (.t 0)),
 ao 4 (.mv (.c (.bool false)))] [1,2]) (.seq (.region false [
 ao 5 (.mv (.t 1)),
 ao 6 (.faddr 0 (.t 2)),
 ao 7 (.load none (.t 6)),
 ao 8 (.bin .sub (.t 7) (.c (i64 1))),
 ao 9 (.call 9 [(.t 5),(.c (i64 0)),(.t 8)]),
 ao 4 (.mv (.t 9))] [4]) (.ret))
def a59:AFn:=⟨2,[.t 4],b59,false⟩
def n59:Ann:=⟨[[1,2],[4]],[],[],[],[],false,[(4,144)]⟩
@[simp] def d63l0:AC:=
 .seq (.seq (.region false [
 ao 5 (.mv (.t 4)),
 ao 6 (.mv (.t 0)),
 ao 7 (.len (.t 6)),
 ao 8 (.bin .lss (.t 5) (.t 7))] [0,3,4,8]) (.cond (.t 8) (.skip) (.exit 0))) (.seq (.block 1 (.region false [
 ao 11 (.mv (.t 3)),
 ao 12 (.mv (.t 0)),
 ao 13 (.mv (.t 4)),
 ao 14 (.idxs 1 (.t 12) (.t 13)),
 ao 15 (.load none (.t 14)),
 ao 16 (.bin .add (.t 11) (.t 15)),
 ao 3 (.mv (.t 16))] [0,3,4])) (.region false [
 ao 9 (.mv (.t 4)),
 ao 10 (.bin .add (.t 9) (.c (i64 1))),
 ao 4 (.mv (.t 10))] [0,3,4]))
def b63l0:AC:= .loop [0,3,4] [] d63l0
def b63:AC:=
 .seq (.region false [
 ao 2 (.mv (.c (i64 0)))] [0]) (.seq (.region false [
 ao 3 (.mv (.c (i64 0)))] [0,3]) (.seq (.seq (.region false [
 ao 4 (.mv (.c (i64 0)))] [0,3,4]) (.block 0 (b63l0))) (.seq (.region false [
 ao 17 (.mv (.t 3)),
 ao 2 (.mv (.t 17))] [2]) (.ret))))
def a63:AFn:=⟨1,[.t 2],b63,false⟩
def n63:Ann:=⟨[[0],[0,3],[0,3,4],[0,3,4,8],[0,3,4],[0,3,4],[2]],[⟨[],[0,3,4],[]⟩],[],[],[],false,[]⟩
def b64:AC:=
 .seq (.region false [
 ao 8 (.alloc [(i64 0),(i64 0),(i64 0),(i64 0)])] [0,1,2,3,8]) (.seq (.region false [
 ao 9 (.mv (.t 0)),
 ao 10 (.mv (.t 1)),
 ao 11 (.mv (.t 2)),
 ao 12 (.mv (.t 3)),
 ao 13 (.build [(i64 0),(i64 0),(i64 0),(i64 0)] [(0,1,(.t 9)),(1,1,(.t 10)),(2,1,(.t 11)),(3,1,(.t 12))]),
 ⟨none, .store 4 (.t 8) (.t 13),none,[],[]⟩] [8]) (.ret))
def a64:AFn:=⟨4,[.cell 8 (some 4)],b64,false⟩
def n64:Ann:=⟨[[0,1,2,3,8],[8]],[],[],[],[],false,[]⟩
@[simp] def d65l0:AC:=
 .seq (.region false [
 ao 28 (.bin .lss (.t 27) (.t 26))] [2,7,8,9,25,26,27,28]) (.seq (.cond (.t 28) (.skip) (.exit 0)) (.seq (.block 1 (.seq (.region false [
 ao 29 (.idxs 2 (.t 25) (.t 27)),
 ao 30 (.load (some 2) (.t 29)),
 ao 11 (.alloc [(i64 0),(i64 0)]),
 ⟨none, .store 2 (.t 11) (.t 30),none,[],[]⟩] [2,7,8,9,11,25,26,27]) (.region true (spl [
 ao 31 (.mv (.t 8)),
 ao 32 (.faddr 0 (.t 11)),
 ap 33 (.load none (.t 32)) [1],
 ap 34 (.bin .add (.t 31) (.t 33)) [0,2,1],
 ao 35 (.mv (.t 9)),
 ao 36 (.faddr 1 (.t 11)),
 ap 37 (.load none (.t 36)) [5],
 ap 38 (.bin .add (.t 35) (.t 37)) [4,6,5],
 ap 8 (.mv (.t 34)) [3,0,2,1]] [
 ap 9 (.mv (.t 38)) [7,8,4,6,5,3,0,2,1]]) [2,7,8,9,25,26,27]))) (.region false [
 ao 39 (.bin .add (.t 27) (.c (i64 1))),
 ao 27 (.mv (.t 39))] [2,7,8,9,25,26,27])))
def b65l0:AC:= .loop [2,7,8,9,25,26,27] [32,208,240,368] d65l0
@[simp] def d65l1:AC:=
 .seq (.region false [
 ao 44 (.bin .lss (.t 43) (.t 42))] [7,8,9,41,42,43,44]) (.seq (.cond (.t 44) (.skip) (.exit 2)) (.seq (.block 3 (.seq (.region false [
 ao 45 (.mv (.t 43)),
 ao 46 (.idxs 2 (.t 41) (.t 43)),
 ao 47 (.load (some 2) (.t 46)),
 ao 13 (.alloc [(i64 0),(i64 0)]),
 ao 12 (.mv (.t 45)),
 ⟨none, .store 2 (.t 13) (.t 47),none,[],[]⟩] [7,8,9,12,13,41,42,43]) (.region true (spl [
 ao 48 (.mv (.t 7)),
 ao 49 (.mv (.t 12)),
 ao 50 (.faddr 0 (.t 13)),
 ap 51 (.load none (.t 50)) [2],
 ao 52 (.mv (.t 9)),
 ao 53 (.faddr 1 (.t 13)),
 ap 54 (.load none (.t 53)) [5],
 ap 55 (.bin .sub (.t 52) (.t 54)) [4,6,5],
 ap 56 (.bin .sub (.c (i64 12)) (.t 55)) [7,4,6,5],
 ap 57 (.mm true (.t 51) (.t 56)) [3,8,2,7,4,6,5],
 ao 58 (.faddr 1 (.t 13)),
 ap 59 (.load none (.t 58)) [10],
 ao 60 (.mv (.t 8)),
 ao 61 (.faddr 0 (.t 13)),
 ap 62 (.load none (.t 61)) [13],
 ap 63 (.bin .sub (.t 60) (.t 62)) [12,14,13],
 ap 64 (.bin .sub (.c (i64 12)) (.t 63)) [15,12,14,13],
 ap 65 (.mm false (.t 59) (.t 64)) [11,16,10,15,12,14,13],
 ap 66 (.build [(i64 0),(i64 0)] [(0,1,(.t 57)),(1,1,(.t 65))]) [9,17,3,8,2,7,4,6,5,11,16,10,15,12,14,13],
 ap 67 (.nilck (.t 48)) [0],
 ap 68 (.faddr 4 (.t 67)) [19,0]] [
 ap 69 (.idxa 4 2 (.t 68) (.t 49)) [20,1,18,19,0,9,17,3,8,2,7,4,6,5,11,16,10,15,12,14,13],
 ⟨none, .store 2 (.t 69) (.t 66),none,[21,20,1,18,19,0,9,17,3,8,2,7,4,6,5,11,16,10,15,12,14,13],[]⟩]) [7,8,9,41,42,43]))) (.region false [
 ao 70 (.bin .add (.t 43) (.c (i64 1))),
 ao 43 (.mv (.t 70))] [7,8,9,41,42,43])))
def b65l1:AC:= .loop [7,8,9,41,42,43] [32,176,240,368] d65l1
def b65:AC:=
 .seq (.region false [
 ao 2 (.box (.t 0)),
 ao 4 (.mv (.c .nilp)),
 ao 5 (.mv (.c (i64 0)))] [1,2]) (.seq (.seq (.region false [
 ao 14 (.load (some 4) (.t 2)),
 ao 15 (.call 88 [(.t 14)]),
 ao 6 (.mv (.t 15))] [1,2,6]) (.seq (.region false [
 ao 16 (.mv (.t 6)),
 ao 17 (.bin .neq (.t 16) (.c (i64 0)))] [1,2,6,17]) (.cond (.t 17) (.seq (.region false [
 ao 18 (.mv (.t 6)),
 ao 4 (.mv (.c .nilp)),
 ao 5 (.mv (.t 18))] [4,5]) (.ret)) (.skip)))) (.seq (.seq (.region false [
 ao 19 (.mv (.t 1)),
 ao 20 (.un .not (.t 19))] [2,20]) (.cond (.t 20) (.seq (.region false [
 ao 4 (.mv (.c .nilp)),
 ao 5 (.mv (.c (i64 1)))] [4,5]) (.ret)) (.skip))) (.seq (.region false [
 ao 21 (.load (some 4) (.t 2)),
 ao 22 (.build [(i64 0),(i64 0),(.sl .full 2 []),(.sl .full 2 []),(i64 0),(i64 0),(i64 0),(i64 0),(i64 0),(i64 0),(i64 0),(i64 0)] [(0,4,(.t 21))]),
 ao 23 (.box (.t 22)),
 ao 7 (.mv (.t 23))] [2,7]) (.seq (.region false [
 ao 8 (.mv (.c (i64 0))),
 ao 9 (.mv (.c (i64 0)))] [2,7,8,9]) (.seq (.seq (.region false [
 ao 24 (.faddr 2 (.t 2)),
 ao 25 (.load none (.t 24)),
 ao 26 (.len (.t 25)),
 ao 27 (.mv (.c (i64 0)))] [2,7,8,9,25,26,27]) (.block 0 (b65l0))) (.seq (.seq (.region false [
 ao 40 (.faddr 2 (.t 2)),
 ao 41 (.load none (.t 40)),
 ao 42 (.len (.t 41)),
 ao 43 (.mv (.c (i64 0)))] [7,8,9,41,42,43]) (.block 2 (b65l1))) (.seq (.region false [
 ao 71 (.mv (.t 7)),
 ao 4 (.mv (.t 71)),
 ao 5 (.mv (.c (i64 0)))] [4,5]) (.ret))))))))
def a65:AFn:=⟨2,[.t 4, .t 5],b65,false⟩
def n65:Ann:=⟨[[1,2],[1,2,6],[1,2,6,17],[4,5],[2,20],[4,5],[2,7],[2,7,8,9],[2,7,8,9,25,26,27],[2,7,8,9,25,26,27,28],[2,7,8,9,11,25,26,27],[2,7,8,9,25,26,27],[2,7,8,9,25,26,27],[7,8,9,41,42,43],[7,8,9,41,42,43,44],[7,8,9,12,13,41,42,43],[7,8,9,41,42,43],[7,8,9,41,42,43],[4,5]],[⟨[],[2,7,8,9,25,26,27],[32,208,240,368]⟩,⟨[],[7,8,9,41,42,43],[32,176,240,368]⟩],[],[],[],false,[(4,368),(71,368),(48,368),(7,368),(5,240),(18,240),(16,240),(6,240)]⟩
@[simp] def d66l0:AC:=
 .seq (.region false [
 ao 18 (.bin .lss (.t 17) (.t 16))] [1,2,3,4,5,15,16,17,18]) (.seq (.cond (.t 18) (.skip) (.exit 2)) (.seq (.block 3 (.seq (.region false [
 ao 19 (.idxs 1 (.t 15) (.t 17)),
 ao 20 (.load none (.t 19)),
 ao 7 (.mv (.t 20))] [1,2,3,4,5,7,15,16,17]) (.region false [
 ao 21 (.mv (.t 5)),
 ao 22 (.load none (.t 1)),
 ao 23 (.nilck (.t 22)),
 ao 24 (.faddr 0 (.t 23)),
 ao 25 (.faddr 3 (.t 24)),
 ao 26 (.load none (.t 25)),
 ao 27 (.mv (.t 7)),
 ao 28 (.idxs 2 (.t 26) (.t 27)),
 ao 29 (.faddr 1 (.t 28)),
 ao 30 (.load none (.t 29)),
 ao 31 (.bin .add (.t 21) (.t 30)),
 ao 5 (.mv (.t 31))] [1,2,3,4,5,15,16,17]))) (.region false [
 ao 32 (.bin .add (.t 17) (.c (i64 1))),
 ao 17 (.mv (.t 32))] [1,2,3,4,5,15,16,17])))
def b66l0:AC:= .loop [1,2,3,4,5,15,16,17] [16,32,48,208] d66l0
def b66l1:AC:=
 .region false [
 ao 4 (.mv (.t 10))] [1,2,3,4]
def b66l2:AC:=
 .block 1 (.seq (.seq (.region false [
 ao 11 (.load none (.t 1)),
 ao 12 (.mv (.t 4)),
 ao 13 (.call 74 [(.t 11),(.t 12)]),
 ao 14 (.un .not (.t 13))] [1,2,3,4,14]) (.cond (.t 14) (.exit 1) (.skip))) (.seq (.region false [
 ao 5 (.mv (.c (i64 0)))] [1,2,3,4,5]) (.seq (.seq (.region false [
 ao 15 (.mv (.t 4)),
 ao 16 (.len (.t 15)),
 ao 17 (.mv (.c (i64 0)))] [1,2,3,4,5,15,16,17]) (.block 2 (b66l0))) (.seq (.region false [
 ao 33 (.load none (.t 3)),
 ao 34 (.bin .lss (.t 33) (.c (i64 0))),
 ao 35 (.mv (.t 34)),
 ag 36 (.mv (.t 5)) 35 false [],
 ag 37 (.load none (.t 3)) 35 false [],
 ag 38 (.bin .lss (.t 36) (.t 37)) 35 false [],
 ao 39 (.pick (.t 35) (.c (.bool true)) (.t 38))] [2,3,4,5,39]) (.cond (.t 39) (.region false [
 ao 40 (.mv (.t 4)),
 ao 41 (.mv (.t 5)),
 ⟨none, .store 1 (.t 2) (.t 40),none,[],[]⟩,
 ⟨none, .store 1 (.t 3) (.t 41),none,[],[]⟩] [2,3]) (.skip))))))
def b66:AC:=
 .seq (.region false [
 ao 1 (.box (.t 0)),
 ao 2 (.alloc [(.sl .full 1 [])]),
 ao 3 (.alloc [(i64 0)])] [1,2,3]) (.seq (.region false [
 ⟨none, .store 1 (.t 3) (.c (i64 (-1))),none,[],[]⟩] [1,2,3]) (.seq (.seq (.region false [
 ao 8 (.load none (.t 1)),
 ao 9 (.mkfn 89 [(.t 8)] [])] [1,2,3,9]) (.block 0 (.rng 1056 [10] b66l1 b66l2 (.t 9)))) (.seq (.region true (spl [
 ao 42 (.load none (.t 2)),
 ⟨(some 43), .load none (.t 3),none,[],[32]⟩,
 ⟨none, .store 1 (.t 2) (.t 42),none,[0],[]⟩] [
 ⟨none, .store 1 (.t 3) (.t 43),none,[1,2,0],[]⟩]) [2,3]) (.ret))))
def a66:AFn:=⟨1,[.cell 2 none, .cell 3 none],b66,false⟩
def n66:Ann:=⟨[[1,2,3],[1,2,3],[1,2,3,9],[1,2,3,4],[1,2,3,4,14],[1,2,3,4,5],[1,2,3,4,5,15,16,17],[1,2,3,4,5,15,16,17,18],[1,2,3,4,5,7,15,16,17],[1,2,3,4,5,15,16,17],[1,2,3,4,5,15,16,17],[2,3,4,5,39],[2,3],[2,3]],[⟨[],[1,2,3,4,5,15,16,17],[16,32,48,208]⟩],[1056],[],[],false,[]⟩
def b67:AC:=
 .seq (.region false [
 ao 2 (.box (.t 0)),
 ao 4 (.mv (.c .nilp)),
 ao 5 (.mv (.c (i64 0)))] [1,2]) (.seq (.region false [
 ao 9 (.load (some 7) (.t 2)),
 ao 10 (.mv (.t 1)),
 ao 11 (.call 90 [(.t 9),(.t 10)]),
 ao 8 (.mv (.t 11)),
 ao 12 (.ext (.t 8) 0),
 ao 13 (.ext (.t 8) 1),
 ao 6 (.mv (.t 12)),
 ao 7 (.mv (.t 13))] [6,7]) (.seq (.seq (.region false [
 ao 14 (.mv (.t 7)),
 ao 15 (.bin .eql (.t 14) (.c (i64 0))),
 ao 16 (.mv (.t 15)),
 ag 17 (.mv (.t 6)) 16 true [],
 ag 18 (.nilck (.t 17)) 16 true [],
 ag 19 (.faddr 7 (.t 18)) 16 true [],
 ag 20 (.load none (.t 19)) 16 true [],
 ag 21 (.len (.t 20)) 16 true [],
 ag 22 (.bin .eql (.t 21) (.c (i64 0))) 16 true [],
 ao 23 (.pick (.t 16) (.t 22) (.c (.bool false)))] [6,7,23]) (.cond (.t 23) (.seq (.region false [
 ao 4 (.mv (.c .nilp)),
 ao 5 (.mv (.c (i64 3)))] [4,5]) (.ret)) (.skip))) (.seq (.region false [
 ao 24 (.mv (.t 6)),
 ao 25 (.mv (.t 7)),
 ao 4 (.mv (.t 24)),
 ao 5 (.mv (.t 25))] [4,5]) (.ret))))
def a67:AFn:=⟨2,[.t 4, .t 5],b67,false⟩
def n67:Ann:=⟨[[1,2],[6,7],[6,7,23],[4,5],[4,5]],[],[],[],[],false,[(5,176),(4,176),(25,176),(24,176),(17,176),(14,176),(7,176),(6,176),(13,176),(12,176),(8,176)]⟩
def b68:AC:=
 .seq (.region false [
 ao 2 (.box (.t 0)),
 ao 4 (.mv (.c (.bool false)))] [1,2]) (.seq (.region false [
 ao 5 (.mv (.t 1)),
 ao 6 (.faddr 0 (.t 2)),
 ao 7 (.faddr 1 (.t 6)),
 ao 8 (.load none (.t 7)),
 ao 9 (.bin .sub (.t 8) (.c (i64 1))),
 ao 10 (.call 69 [(.t 5),(.c (i64 0)),(.t 9)]),
 ao 4 (.mv (.t 10))] [4]) (.ret))
def a68:AFn:=⟨2,[.t 4],b68,false⟩
def n68:Ann:=⟨[[1,2],[4]],[],[],[],[],false,[(4,160)]⟩
def b69:AC:=
 .seq (.region false [
 ao 6 (.mv (.c (.bool false)))] [0,1,2]) (.seq (.region false [
 ao 7 (.mv (.t 0)),
 ao 8 (.mv (.t 1)),
 ao 9 (.bin .geq (.t 7) (.t 8)),
 ao 10 (.mv (.t 9)),
 ag 11 (.mv (.t 0)) 10 true [],
 ag 12 (.mv (.t 2)) 10 true [],
 ag 13 (.bin .leq (.t 11) (.t 12)) 10 true [],
 ao 14 (.pick (.t 10) (.t 13) (.c (.bool false))),
 ao 6 (.mv (.t 14))] [6]) (.ret))
def a69:AFn:=⟨3,[.t 6],b69,false⟩
def n69:Ann:=⟨[[0,1,2],[6]],[],[],[],[],false,[]⟩
@[simp] def d70l0:AC:=
 .seq (.region false [
 ao 16 (.bin .lss (.t 15) (.t 14))] [1,4,5,13,14,15,16]) (.seq (.cond (.t 16) (.skip) (.exit 0)) (.seq (.block 1 (.seq (.region false [
 ao 17 (.mv (.t 15)),
 ao 18 (.idxs 5 (.t 13) (.t 15)),
 ao 19 (.load (some 5) (.t 18)),
 ao 7 (.alloc [(.int .u64 0),(i64 0),(i64 0),(.sl .full 1 []),(.sl .full 4 [])]),
 ao 6 (.mv (.t 17)),
 ⟨none, .store 5 (.t 7) (.t 19),none,[],[]⟩] [1,4,5,6,7,13,14,15]) (.seq (.region false [
 ao 21 (.mv (.t 1)),
 ao 22 (.faddr 1 (.t 7)),
 ao 23 (.load (some 4) (.t 22)),
 ao 24 (.callv (.t 21) [(.t 23)]),
 ao 20 (.mv (.t 24)),
 ao 25 (.ext (.t 20) 0),
 ao 26 (.ext (.t 20) 1),
 ao 8 (.alloc [(i64 0),(i64 0)]),
 ⟨none, .store 2 (.t 8) (.t 25),none,[],[]⟩,
 ao 9 (.mv (.t 26))] [1,4,5,6,8,13,14,15]) (.seq (.seq (.region false [
 ao 27 (.mv (.t 6)),
 ao 28 (.bin .eql (.t 27) (.c (i64 0)))] [1,4,5,8,13,14,15,28]) (.cond (.t 28) (.region false [
 ao 29 (.load (some 2) (.t 8)),
 ⟨none, .store 2 (.t 5) (.t 29),none,[],[]⟩] [1,4,5,8,13,14,15]) (.skip))) (.region false [
 ao 30 (.faddr 0 (.t 5)),
 ao 31 (.load none (.t 30)),
 ao 32 (.faddr 0 (.t 8)),
 ao 33 (.load none (.t 32)),
 ao 34 (.mm false (.t 31) (.t 33)),
 ao 35 (.faddr 1 (.t 5)),
 ao 36 (.load none (.t 35)),
 ao 37 (.faddr 1 (.t 8)),
 ao 38 (.load none (.t 37)),
 ao 39 (.mm true (.t 36) (.t 38)),
 ao 40 (.build [(i64 0),(i64 0)] [(0,1,(.t 34)),(1,1,(.t 39))]),
 ⟨none, .store 2 (.t 5) (.t 40),none,[],[]⟩] [1,4,5,13,14,15]))))) (.region false [
 ao 41 (.bin .add (.t 15) (.c (i64 1))),
 ao 15 (.mv (.t 41))] [1,4,5,13,14,15])))
def b70l0:AC:= .loop [1,4,5,13,14,15] [64,80] d70l0
def b70:AC:=
 .seq (.region false [
 ao 4 (.alloc [(i64 0),(i64 0)])] [0,1,4]) (.seq (.region false [
 ao 5 (.alloc [(i64 0),(i64 0)])] [0,1,4,5]) (.seq (.seq (.region false [
 ao 10 (.mv (.t 0)),
 ao 11 (.nilck (.t 10)),
 ao 12 (.faddr 7 (.t 11)),
 ao 13 (.load none (.t 12)),
 ao 14 (.len (.t 13)),
 ao 15 (.mv (.c (i64 0)))] [1,4,5,13,14,15]) (.block 0 (b70l0))) (.seq (.region false [
 ao 42 (.load (some 2) (.t 5)),
 ⟨none, .store 2 (.t 4) (.t 42),none,[],[]⟩] [4]) (.ret))))
def a70:AFn:=⟨2,[.cell 4 (some 2)],b70,false⟩
def n70:Ann:=⟨[[0,1,4],[0,1,4,5],[1,4,5,13,14,15],[1,4,5,13,14,15,16],[1,4,5,6,7,13,14,15],[1,4,5,6,8,13,14,15],[1,4,5,8,13,14,15,28],[1,4,5,8,13,14,15],[1,4,5,13,14,15],[1,4,5,13,14,15],[4]],[⟨[],[1,4,5,13,14,15],[64,80]⟩],[],[],[],false,[]⟩
def b71:AC:=
 .seq (.region false [
 ao 3 (.box (.t 0)),
 ao 4 (.alloc [(i64 0),(i64 0)]),
 ao 5 (.mv (.c (i64 0)))] [1,2,3,4]) (.seq (.region false [
 ao 6 (.load (some 4) (.t 3)),
 ao 7 (.load none (.t 1)),
 ao 8 (.load none (.t 2)),
 ao 9 (.call 55 [(.t 6),(.t 7),(.t 8)]),
 ao 10 (.ext (.t 9) 0),
 ao 11 (.ext (.t 9) 1),
 ⟨none, .store 2 (.t 4) (.t 10),none,[],[]⟩,
 ao 5 (.mv (.t 11))] [4,5]) (.ret))
def a71:AFn:=⟨3,[.cell 4 (some 2), .t 5],b71,false⟩
def n71:Ann:=⟨[[1,2,3,4],[4,5]],[],[],[],[],false,[(5,144),(11,144),(10,144)]⟩
def b72:AC:=
 .seq (.region false [
 ao 2 (.box (.t 0)),
 ao 4 (.mv (.c (.bool false)))] [1,2]) (.seq (.region false [
 ao 5 (.mv (.t 1)),
 ao 6 (.faddr 3 (.t 2)),
 ao 7 (.load none (.t 6)),
 ao 8 (.len (.t 7)),
 ao 9 (.bin .sub (.t 8) (.c (i64 1))),
 ao 10 (.call 35 [(.t 5),(.c (i64 0)),(.t 9)]),
 ao 4 (.mv (.t 10))] [4]) (.ret))
def a72:AFn:=⟨2,[.t 4],b72,false⟩
def n72:Ann:=⟨[[1,2],[4]],[],[],[],[],false,[(4,160)]⟩
def b73:AC:=
 .seq (.region false [
 ao 2 (.box (.t 0)),
 ao 4 (.mv (.c .nilp)),
 ao 5 (.mv (.c (i64 0)))] [1,2]) (.seq (.seq (.region false [
 ao 9 (.load (some 4) (.t 2)),
 ao 10 (.call 65 [(.t 9),(.c (.bool true))]),
 ao 8 (.mv (.t 10)),
 ao 11 (.ext (.t 8) 0),
 ao 12 (.ext (.t 8) 1),
 ao 6 (.mv (.t 11)),
 ao 7 (.mv (.t 12))] [1,2,7]) (.seq (.region false [
 ao 13 (.mv (.t 7)),
 ao 14 (.bin .neq (.t 13) (.c (i64 0)))] [1,2,7,14]) (.cond (.t 14) (.seq (.region false [
 ao 15 (.mv (.t 7)),
 ao 4 (.mv (.c .nilp)),
 ao 5 (.mv (.t 15))] [4,5]) (.ret)) (.skip)))) (.seq (.region true (spl [
 ao 16 (.load (some 4) (.t 2)),
 ao 17 (.load (some 4) (.t 2)),
 ao 18 (.mv (.t 1)),
 ap 19 (.call 91 [(.t 17),(.t 18)]) [1,2],
 ap 20 (.call 65 [(.t 16),(.t 19)]) [0,3,1,2],
 ap 21 (.ext (.t 20) 0) [4,0,3,1,2],
 ap 22 (.ext (.t 20) 1) [4,0,3,1,2]] [
 ap 4 (.mv (.t 21)) [5,6,4,0,3,1,2],
 ap 5 (.mv (.t 22)) [7,5,6,4,0,3,1,2]]) [4,5]) (.ret)))
def a73:AFn:=⟨2,[.t 4, .t 5],b73,false⟩
def n73:Ann:=⟨[[1,2],[1,2,7],[1,2,7,14],[4,5],[4,5]],[],[],[],[],false,[(4,320),(22,320),(21,320),(5,160),(15,160),(13,160),(7,160),(6,160),(12,160),(11,160),(8,160)]⟩
@[simp] def d74l0:AC:=
 .seq (.region false [
 ao 10 (.bin .lss (.t 9) (.t 8))] [0,7,8,9,10]) (.seq (.cond (.t 10) (.skip) (.exit 0)) (.seq (.block 1 (.seq (.region false [
 ao 11 (.mv (.t 9)),
 ao 12 (.idxs 1 (.t 7) (.t 9)),
 ao 13 (.load none (.t 12)),
 ao 5 (.mv (.t 11)),
 ao 6 (.mv (.t 13))] [0,5,6,7,8,9]) (.seq (.region true (spl [
 ao 14 (.mv (.t 0)),
 ap 15 (.nilck (.t 14)) [0],
 ap 16 (.faddr 0 (.t 15)) [1,0],
 ap 17 (.faddr 3 (.t 16)) [2,1,0],
 ap 18 (.load none (.t 17)) [3,2,1,0],
 ao 19 (.mv (.t 6)),
 ap 20 (.idxs 2 (.t 18) (.t 19)) [4,5,3,2,1,0],
 ap 21 (.faddr 0 (.t 20)) [6,4,5,3,2,1,0],
 ap 22 (.load none (.t 21)) [7,6,4,5,3,2,1,0],
 ao 23 (.mv (.t 0)),
 ao 24 (.mv (.t 5)),
 ap 25 (.call 92 [(.t 23),(.t 24)]) [9,10]] [
 ap 26 (.bin .lss (.t 22) (.t 25)) [8,11,7,6,4,5,3,2,1,0,9,10]]) [0,7,8,9,26]) (.cond (.t 26) (.seq (.region false [
 ao 4 (.mv (.c (.bool false)))] [4]) (.ret)) (.skip))))) (.region false [
 ao 27 (.bin .add (.t 9) (.c (i64 1))),
 ao 9 (.mv (.t 27))] [0,7,8,9])))
def b74l0:AC:= .loop [0,7,8,9] [] d74l0
def b74:AC:=
 .seq (.region false [
 ao 4 (.mv (.c (.bool false)))] [0,1]) (.seq (.seq (.region false [
 ao 7 (.mv (.t 1)),
 ao 8 (.len (.t 7)),
 ao 9 (.mv (.c (i64 0)))] [0,7,8,9]) (.block 0 (b74l0))) (.seq (.region false [
 ao 4 (.mv (.c (.bool true)))] [4]) (.ret)))
def a74:AFn:=⟨2,[.t 4],b74,false⟩
def n74:Ann:=⟨[[0,1],[0,7,8,9],[0,7,8,9,10],[0,5,6,7,8,9],[0,7,8,9,26],[4],[0,7,8,9],[4]],[⟨[],[0,7,8,9],[]⟩],[],[],[],false,[]⟩
@[simp] def d75l0:AC:=
 .seq (.seq (.region false [
 ao 7 (.mv (.t 3)),
 ao 8 (.mv (.t 0)),
 ao 9 (.len (.t 8)),
 ao 10 (.bin .lss (.t 7) (.t 9))] [0,3,10]) (.cond (.t 10) (.skip) (.exit 0))) (.seq (.block 1 (.seq (.region false [
 ao 13 (.mv (.t 0)),
 ao 14 (.mv (.t 3)),
 ao 15 (.idxs 1 (.t 13) (.t 14)),
 ao 16 (.load none (.t 15)),
 ao 17 (.len (.t 16)),
 ao 18 (.bin .gtr (.t 17) (.c (i64 40)))] [0,3,18]) (.cond (.t 18) (.seq (.region false [
 ao 2 (.mv (.c (.bool true)))] [2]) (.ret)) (.skip)))) (.region false [
 ao 11 (.mv (.t 3)),
 ao 12 (.bin .add (.t 11) (.c (i64 1))),
 ao 3 (.mv (.t 12))] [0,3]))
def b75l0:AC:= .loop [0,3] [] d75l0
def b75:AC:=
 .seq (.region false [
 ao 2 (.mv (.c (.bool false)))] [0]) (.seq (.seq (.region false [
 ao 4 (.mv (.t 0)),
 ao 5 (.len (.t 4)),
 ao 6 (.bin .gtr (.t 5) (.c (i64 40)))] [0,6]) (.cond (.t 6) (.seq (.region false [
 ao 2 (.mv (.c (.bool true)))] [2]) (.ret)) (.skip))) (.seq (.seq (.region false [
 ao 3 (.mv (.c (i64 0)))] [0,3]) (.block 0 (b75l0))) (.seq (.region false [
 ao 2 (.mv (.c (.bool false)))] [2]) (.ret))))
def a75:AFn:=⟨1,[.t 2],b75,false⟩
def n75:Ann:=⟨[[0],[0,6],[2],[0,3],[0,3,10],[0,3,18],[2],[0,3],[2]],[⟨[],[0,3],[]⟩],[],[],[],false,[]⟩
def b80:AC:=
 .seq (.region false [
 ao 2 (.box (.t 0)),
 ao 4 (.mv (.c .nilp)),
 ao 5 (.mv (.c (i64 0)))] [1,2]) (.seq (.seq (.region false [
 ao 8 (.load (some 4) (.t 2)),
 ao 9 (.mv (.t 1)),
 ao 10 (.call 93 [(.t 8),(.t 9)]),
 ao 6 (.mv (.t 10))] [2,6]) (.seq (.region false [
 ao 11 (.mv (.t 6)),
 ao 12 (.bin .neq (.t 11) (.c (i64 0)))] [2,6,12]) (.cond (.t 12) (.seq (.region false [
 ao 13 (.mv (.t 6)),
 ao 4 (.mv (.c .nilp)),
 ao 5 (.mv (.t 13))] [4,5]) (.ret)) (.skip)))) (.seq (.region false [
 ao 14 (.load (some 4) (.t 2)),
 ao 15 (.call 94 [(.t 14),(.c (i64 (-1)))]),
 ao 7 (.mv (.t 15))] [7]) (.seq (.seq (.region false [
 ao 16 (.mv (.t 7)),
 ao 17 (.nilck (.t 16)),
 ao 18 (.faddr 4 (.t 17)),
 ao 19 (.call 95 [(.t 18)])] [7,19]) (.cond (.t 19) (.seq (.region false [
 ao 4 (.mv (.c .nilp)),
 ao 5 (.mv (.c (i64 3)))] [4,5]) (.ret)) (.skip))) (.seq (.region false [
 ao 20 (.mv (.t 7)),
 ao 4 (.mv (.t 20)),
 ao 5 (.mv (.c (i64 0)))] [4,5]) (.ret)))))
def a80:AFn:=⟨2,[.t 4, .t 5],b80,false⟩
def n80:Ann:=⟨[[1,2],[2,6],[2,6,12],[4,5],[7],[7,19],[4,5],[4,5]],[],[],[],[],false,[(4,240),(20,240),(16,240),(7,240),(5,160),(13,160),(11,160),(6,160)]⟩
def b81:AC:=
 .seq (.region false [
 ao 3 (.box (.t 0)),
 ao 6 (.mv (.c (.bool false)))] [1,2,3]) (.seq (.region false [
 ao 7 (.mv (.t 1)),
 ao 8 (.faddr 1 (.t 3)),
 ao 9 (.load none (.t 8)),
 ao 10 (.bin .sub (.t 9) (.c (i64 1))),
 ao 11 (.call 96 [(.t 7),(.c (i64 0)),(.t 10)]),
 ao 12 (.mv (.t 11)),
 ag 13 (.mv (.t 2)) 12 true [],
 ag 14 (.faddr 0 (.t 3)) 12 true [],
 ag 15 (.load none (.t 14)) 12 true [],
 ag 16 (.bin .sub (.t 15) (.c (i64 1))) 12 true [],
 ag 17 (.call 96 [(.t 13),(.c (i64 0)),(.t 16)]) 12 true [],
 ao 18 (.pick (.t 12) (.t 17) (.c (.bool false))),
 ao 6 (.mv (.t 18))] [6]) (.ret))
def a81:AFn:=⟨3,[.t 6],b81,false⟩
def n81:Ann:=⟨[[1,2,3],[6]],[],[],[],[],false,[(12,176)]⟩
def b82:AC:=
 .seq (.region false [
 ao 6 (.alloc [(i64 0),(i64 0)])] [0,1,2,6]) (.seq (.region true (spl [
 ao 7 (.mv (.t 0)),
 ap 8 (.nilck (.t 7)) [0],
 ap 9 (.faddr 4 (.t 8)) [1,0],
 ao 10 (.mv (.t 0)),
 ao 11 (.mv (.t 1)),
 ao 12 (.mv (.t 2)),
 ap 13 (.bin .add (.t 12) (.c (i64 1))) [5],
 ap 14 (.call 98 [(.t 10),(.t 11),(.t 13)]) [3,4,6,5],
 ao 15 (.mv (.t 0)),
 ao 16 (.mv (.t 1)),
 ao 17 (.mv (.t 2)),
 ap 18 (.call 98 [(.t 15),(.t 16),(.t 17)]) [8,9,10,7,3,4,6,5]] [
 ap 19 (.call 97 [(.t 9),(.t 14),(.t 18)]) [2,11,1,0,8,9,10,7,3,4,6,5],
 ⟨none, .store 2 (.t 6) (.t 19),none,[12,2,11,1,0,8,9,10,7,3,4,6,5],[]⟩]) [6]) (.ret))
def a82:AFn:=⟨3,[.cell 6 (some 2)],b82,false⟩
def n82:Ann:=⟨[[0,1,2,6],[6]],[],[],[],[],false,[]⟩
@[simp] def d88l0:AC:=
 .seq (.region false [
 ao 39 (.bin .lss (.t 38) (.t 37))] [1,3,4,36,37,38,39]) (.seq (.cond (.t 39) (.skip) (.exit 0)) (.seq (.block 1 (.seq (.region false [
 ao 40 (.idxs 2 (.t 36) (.t 38)),
 ao 41 (.load (some 2) (.t 40)),
 ao 6 (.alloc [(i64 0),(i64 0)]),
 ⟨none, .store 2 (.t 6) (.t 41),none,[],[]⟩] [1,3,4,6,36,37,38]) (.seq (.seq (.region false [
 ao 42 (.faddr 0 (.t 6)),
 ao 43 (.load none (.t 42)),
 ao 44 (.faddr 1 (.t 6)),
 ao 45 (.load none (.t 44)),
 ao 46 (.call 108 [(.t 43),(.c (i64 0)),(.t 45)]),
 ao 47 (.un .not (.t 46)),
 ao 48 (.mv (.t 47)),
 ag 49 (.faddr 1 (.t 6)) 48 false [],
 ag 50 (.load none (.t 49)) 48 false [],
 ag 51 (.bin .gtr (.t 50) (.c (i64 12))) 48 false [],
 ao 52 (.pick (.t 48) (.c (.bool true)) (.t 51))] [1,3,4,6,36,37,38,52]) (.cond (.t 52) (.seq (.region false [
 ao 2 (.mv (.c (i64 50)))] [2]) (.ret)) (.skip))) (.region true (spl [
 ao 53 (.mv (.t 3)),
 ao 54 (.faddr 0 (.t 6)),
 ap 55 (.load none (.t 54)) [1],
 ap 56 (.bin .add (.t 53) (.t 55)) [0,2,1],
 ao 57 (.mv (.t 4)),
 ao 58 (.faddr 1 (.t 6)),
 ap 59 (.load none (.t 58)) [5],
 ap 60 (.bin .add (.t 57) (.t 59)) [4,6,5],
 ap 3 (.mv (.t 56)) [3,0,2,1]] [
 ap 4 (.mv (.t 60)) [7,8,4,6,5,3,0,2,1]]) [1,3,4,36,37,38])))) (.region false [
 ao 61 (.bin .add (.t 38) (.c (i64 1))),
 ao 38 (.mv (.t 61))] [1,3,4,36,37,38])))
def b88l0:AC:= .loop [1,3,4,36,37,38] [16,128,240,1024,1200,1280] d88l0
@[simp] def d88l1:AC:=
 .seq (.region false [
 ao 70 (.bin .lss (.t 69) (.t 68))] [67,68,69,70]) (.seq (.cond (.t 70) (.skip) (.exit 2)) (.seq (.block 3 (.seq (.region false [
 ao 71 (.idxs 2 (.t 67) (.t 69)),
 ao 72 (.load (some 2) (.t 71)),
 ao 8 (.alloc [(i64 0),(i64 0)]),
 ⟨none, .store 2 (.t 8) (.t 72),none,[],[]⟩] [8,67,68,69]) (.seq (.region false [
 ao 73 (.faddr 0 (.t 8)),
 ao 74 (.load none (.t 73)),
 ao 75 (.call 108 [(.t 74),(.c (i64 0)),(.c (i64 999))]),
 ao 76 (.un .not (.t 75)),
 ao 77 (.mv (.t 76)),
 ag 78 (.faddr 1 (.t 8)) 77 false [],
 ag 79 (.load none (.t 78)) 77 false [],
 ag 80 (.call 108 [(.t 79),(.c (i64 0)),(.c (i64 99))]) 77 false [],
 ag 81 (.un .not (.t 80)) 77 false [],
 ao 82 (.pick (.t 77) (.c (.bool true)) (.t 81))] [67,68,69,82]) (.cond (.t 82) (.seq (.region false [
 ao 2 (.mv (.c (i64 50)))] [2]) (.ret)) (.skip))))) (.region false [
 ao 83 (.bin .add (.t 69) (.c (i64 1))),
 ao 69 (.mv (.t 83))] [67,68,69])))
def b88l1:AC:= .loop [67,68,69] [16,96,240,736,1024] d88l1
def b88:AC:=
 .seq (.region false [
 ao 1 (.box (.t 0)),
 ao 2 (.mv (.c (i64 0)))] [1]) (.seq (.seq (.region false [
 ao 9 (.faddr 0 (.t 1)),
 ao 10 (.faddr 0 (.t 9)),
 ao 11 (.load none (.t 10)),
 ao 12 (.faddr 0 (.t 1)),
 ao 13 (.faddr 1 (.t 12)),
 ao 14 (.load none (.t 13)),
 ao 15 (.call 108 [(.t 11),(.c (i64 0)),(.t 14)]),
 ao 16 (.un .not (.t 15)),
 ao 17 (.mv (.t 16)),
 ag 18 (.faddr 0 (.t 1)) 17 false [],
 ag 19 (.faddr 1 (.t 18)) 17 false [],
 ag 20 (.load none (.t 19)) 17 false [],
 ag 21 (.bin .gtr (.t 20) (.c (i64 2000))) 17 false [],
 ao 22 (.pick (.t 17) (.c (.bool true)) (.t 21)),
 ao 23 (.mv (.t 22)),
 ag 24 (.faddr 2 (.t 1)) 23 false [],
 ag 25 (.load none (.t 24)) 23 false [],
 ag 26 (.len (.t 25)) 23 false [],
 ag 27 (.bin .gtr (.t 26) (.c (i64 4))) 23 false [],
 ao 28 (.pick (.t 23) (.c (.bool true)) (.t 27)),
 ao 29 (.mv (.t 28)),
 ag 30 (.faddr 3 (.t 1)) 29 false [],
 ag 31 (.load none (.t 30)) 29 false [],
 ag 32 (.len (.t 31)) 29 false [],
 ag 33 (.bin .gtr (.t 32) (.c (i64 6))) 29 false [],
 ao 34 (.pick (.t 29) (.c (.bool true)) (.t 33))] [1,34]) (.cond (.t 34) (.seq (.region false [
 ao 2 (.mv (.c (i64 50)))] [2]) (.ret)) (.skip))) (.seq (.region false [
 ao 3 (.mv (.c (i64 0))),
 ao 4 (.mv (.c (i64 0)))] [1,3,4]) (.seq (.seq (.region false [
 ao 35 (.faddr 2 (.t 1)),
 ao 36 (.load none (.t 35)),
 ao 37 (.len (.t 36)),
 ao 38 (.mv (.c (i64 0)))] [1,3,4,36,37,38]) (.block 0 (b88l0))) (.seq (.seq (.region false [
 ao 62 (.mv (.t 3)),
 ao 63 (.mv (.t 4)),
 ao 64 (.call 108 [(.c (i64 12)),(.t 62),(.t 63)]),
 ao 65 (.un .not (.t 64))] [1,65]) (.cond (.t 65) (.seq (.region false [
 ao 2 (.mv (.c (i64 50)))] [2]) (.ret)) (.skip))) (.seq (.seq (.region false [
 ao 66 (.faddr 3 (.t 1)),
 ao 67 (.load none (.t 66)),
 ao 68 (.len (.t 67)),
 ao 69 (.mv (.c (i64 0)))] [67,68,69]) (.block 2 (b88l1))) (.seq (.region false [
 ao 2 (.mv (.c (i64 0)))] [2]) (.ret)))))))
def a88:AFn:=⟨1,[.t 2],b88,false⟩
def n88:Ann:=⟨[[1],[1,34],[2],[1,3,4],[1,3,4,36,37,38],[1,3,4,36,37,38,39],[1,3,4,6,36,37,38],[1,3,4,6,36,37,38,52],[2],[1,3,4,36,37,38],[1,3,4,36,37,38],[1,65],[2],[67,68,69],[67,68,69,70],[8,67,68,69],[67,68,69,82],[2],[67,68,69],[2]],[⟨[],[1,3,4,36,37,38],[16,128,240,1024,1200,1280]⟩,⟨[],[67,68,69],[16,96,240,736,1024]⟩],[],[],[],false,[]⟩
def b89:AC:=
 .seq (.region false [
 ao 2 (.box (.t 0)),
 ao 3 (.box (.t 1))] [2,3]) (.seq (.region false [
 ao 4 (.alloc [.nilf])] [2,3,4]) (.seq (.region false [
 ao 5 (.mkfn 109 [] [(.t 2),(.t 3),(.t 4)]),
 ⟨none, .store 1 (.t 4) (.t 5),none,[],[]⟩] [4]) (.region false [
 ao 6 (.load none (.t 4)),
 ao 7 (.callv (.t 6) [(.c (.sl .full 1 []))])] [])))
def a89:AFn:=⟨2,[],b89,false⟩
def n89:Ann:=⟨[[2,3],[2,3,4],[4],[]],[],[],[],[],false,[]⟩
@[simp] def d90l0:AC:=
 .seq (.region false [
 ao 25 (.bin .lss (.t 24) (.t 23))] [2,7,23,24,25]) (.seq (.cond (.t 25) (.skip) (.exit 0)) (.seq (.block 1 (.seq (.region false [
 ao 26 (.mv (.t 24)),
 ao 8 (.alloc [(.int .u64 0)]),
 ⟨none, .store 1 (.t 8) (.t 26),none,[],[]⟩] [2,7,8,23,24]) (.seq (.seq (.region false [
 ao 27 (.mv (.t 7)),
 ao 28 (.load none (.t 8)),
 ao 29 (.call 112 [(.t 27),(.t 28)]),
 ao 30 (.un .not (.t 29))] [2,7,8,23,24,30]) (.cond (.t 30) (.exit 1) (.skip))) (.seq (.region false [
 ao 31 (.mv (.t 7)),
 ao 32 (.mkfn 114 [] [(.t 8),(.t 2)]),
 ao 33 (.call 113 [(.t 31),(.t 32)]),
 ao 9 (.alloc [(i64 0),(i64 0),(.sl .full 1 []),(.sl .full 4 [])]),
 ⟨none, .store 4 (.t 9) (.t 33),none,[],[]⟩] [2,7,8,9,23,24]) (.seq (.region false [
 ao 34 (.load (some 4) (.t 9)),
 ao 35 (.call 116 [(.t 34)])] [2,7,8,9,23,24,35]) (.cond (.t 35) (.region true (spl [
 ⟨(some 36), .mv (.t 7),none,[],[121,888888]⟩,
 ao 37 (.mv (.t 7)),
 ap 38 (.nilck (.t 37)) [1],
 ap 39 (.faddr 7 (.t 38)) [2,1],
 ap 40 (.load none (.t 39)) [3,2,1],
 ao 41 (.load none (.t 8)),
 ao 42 (.load (some 4) (.t 9)),
 ap 43 (.build [(.int .u64 0),(i64 0),(i64 0),(.sl .full 1 []),(.sl .full 4 [])] [(0,1,(.t 41)),(1,4,(.t 42))]) [5,6],
 ap 44 (.lit [(.int .u64 0),(i64 0),(i64 0),(.sl .full 1 []),(.sl .full 4 [])] 1 [(0,(.t 43))]) [7,5,6],
 ap 45 (.app 5 72 (.t 40) (.t 44)) [4,8,3,2,1,7,5,6]] [
 ap 46 (.nilck (.t 36)) [0,9,4,8,3,2,1,7,5,6],
 ap 47 (.faddr 7 (.t 46)) [10,0,9,4,8,3,2,1,7,5,6],
 ⟨none, .store 1 (.t 47) (.t 45),none,[11,10,0,9,4,8,3,2,1,7,5,6],[]⟩]) [2,7,23,24]) (.skip))))))) (.region false [
 ao 48 (.bin .add (.t 24) (.c (.int .u64 1))),
 ao 24 (.mv (.t 48))] [2,7,23,24])))
def b90l0:AC:= .loop [2,7,23,24] [32,121,304] d90l0
def b90:AC:=
 .seq (.region false [
 ao 2 (.box (.t 0)),
 ao 4 (.mv (.c .nilp)),
 ao 5 (.mv (.c (i64 0)))] [1,2]) (.seq (.seq (.region false [
 ao 10 (.load (some 7) (.t 2)),
 ao 11 (.call 111 [(.t 10)]),
 ao 6 (.mv (.t 11))] [1,2,6]) (.seq (.region false [
 ao 12 (.mv (.t 6)),
 ao 13 (.bin .neq (.t 12) (.c (i64 0)))] [1,2,6,13]) (.cond (.t 13) (.seq (.region false [
 ao 14 (.mv (.t 6)),
 ao 4 (.mv (.c .nilp)),
 ao 5 (.mv (.t 14))] [4,5]) (.ret)) (.skip)))) (.seq (.seq (.region false [
 ao 15 (.mv (.t 1)),
 ao 16 (.un .not (.t 15))] [2,16]) (.cond (.t 16) (.seq (.region false [
 ao 4 (.mv (.c .nilp)),
 ao 5 (.mv (.c (i64 1)))] [4,5]) (.ret)) (.skip))) (.seq (.region false [
 ao 17 (.load (some 7) (.t 2)),
 ao 18 (.build [(i64 0),(i64 0),(.sl .full 1 []),(.sl .full 4 []),(i64 0),(i64 0),(.sl .full 1 []),(.sl .full 5 [])] [(0,7,(.t 17))]),
 ao 19 (.box (.t 18)),
 ao 7 (.mv (.t 19))] [2,7]) (.seq (.seq (.region false [
 ao 20 (.faddr 0 (.t 2)),
 ao 21 (.faddr 1 (.t 20)),
 ao 22 (.load none (.t 21)),
 ao 23 (.bin .shl (.c (.int .u64 1)) (.t 22)),
 ao 24 (.mv (.c (.int .u64 0)))] [2,7,23,24]) (.block 0 (.seq (.thawc 7 7 121 105) (b90l0)))) (.seq (.region false [
 ao 49 (.mv (.t 7)),
 ao 50 (.nilck (.t 49)),
 ao 51 (.faddr 7 (.t 50)),
 ao 52 (.load none (.t 51)),
 ao 53 (.call 117 [(.t 52),(.c (.fn 118 [] []))])] [7]) (.seq (.seq (.freeze [121]) (.region false [
 ao 54 (.mv (.t 7)),
 ao 4 (.mv (.t 54)),
 ao 5 (.mv (.c (i64 0)))] [4,5])) (.ret)))))))
def a90:AFn:=⟨2,[.t 4, .t 5],b90,false⟩
def n90:Ann:=⟨[[1,2],[1,2,6],[1,2,6,13],[4,5],[2,16],[4,5],[2,7],[2,7,23,24],[2,7,23,24,25],[2,7,8,23,24],[2,7,8,23,24,30],[2,7,8,9,23,24],[2,7,8,9,23,24,35],[2,7,23,24],[2,7,23,24],[7],[4,5]],[⟨[.c 7 7 121 105],[2,7,23,24],[32,121,304]⟩],[],[[],[],[],[],[],[],[],[],[],[],[],[],[],[],[],[],[121]],[],false,[(1000040,121),(4,304),(54,304),(49,304),(37,304),(36,304),(31,304),(27,304),(7,304),(5,176),(14,176),(12,176),(6,176)]⟩
@[simp] def d91l0:AC:=
 .seq (.region false [
 ao 11 (.bin .lss (.t 10) (.t 9))] [1,2,5,8,9,10,11]) (.seq (.cond (.t 11) (.skip) (.exit 0)) (.seq (.block 1 (.seq (.region false [
 ao 12 (.idxs 1 (.t 8) (.t 10)),
 ao 13 (.load none (.t 12)),
 ao 7 (.mv (.t 13))] [1,2,5,7,8,9,10]) (.seq (.seq (.region false [
 ao 14 (.mv (.t 7)),
 ao 15 (.faddr 3 (.t 2)),
 ao 16 (.load none (.t 15)),
 ao 17 (.len (.t 16)),
 ao 18 (.bin .sub (.t 17) (.c (i64 1))),
 ao 19 (.call 108 [(.t 14),(.c (i64 0)),(.t 18)]),
 ao 20 (.un .not (.t 19))] [1,2,5,7,8,9,10,20]) (.cond (.t 20) (.seq (.region false [
 ao 4 (.mv (.c (.bool false)))] [4]) (.ret)) (.skip))) (.region false [
 ao 21 (.mv (.t 5)),
 ao 22 (.mv (.t 7)),
 ao 23 (.bin .shl (.c (i64 1)) (.t 22)),
 ao 24 (.bin .or (.t 21) (.t 23)),
 ao 5 (.mv (.t 24))] [1,2,5,8,9,10])))) (.region false [
 ao 25 (.bin .add (.t 10) (.c (i64 1))),
 ao 10 (.mv (.t 25))] [1,2,5,8,9,10])))
def b91l0:AC:= .loop [1,2,5,8,9,10] [32,560] d91l0
def b91:AC:=
 .seq (.region false [
 ao 2 (.box (.t 0)),
 ao 4 (.mv (.c (.bool false)))] [1,2]) (.seq (.region false [
 ao 5 (.mv (.c (i64 0)))] [1,2,5]) (.seq (.seq (.region false [
 ao 8 (.mv (.t 1)),
 ao 9 (.len (.t 8)),
 ao 10 (.mv (.c (i64 0)))] [1,2,5,8,9,10]) (.block 0 (b91l0))) (.seq (.region false [
 ao 26 (.mv (.t 1)),
 ao 27 (.len (.t 26)),
 ao 28 (.faddr 2 (.t 2)),
 ao 29 (.load none (.t 28)),
 ao 30 (.len (.t 29)),
 ao 31 (.bin .eql (.t 27) (.t 30)),
 ao 32 (.mv (.t 31)),
 ag 33 (.mv (.t 5)) 32 true [],
 ag 34 (.conv .u64 (.t 33)) 32 true [],
 ag 35 (.call 122 [(.t 34)]) 32 true [],
 ag 36 (.mv (.t 1)) 32 true [],
 ag 37 (.len (.t 36)) 32 true [],
 ag 38 (.bin .eql (.t 35) (.t 37)) 32 true [],
 ao 39 (.pick (.t 32) (.t 38) (.c (.bool false))),
 ao 4 (.mv (.t 39))] [4]) (.ret))))
def a91:AFn:=⟨2,[.t 4],b91,false⟩
def n91:Ann:=⟨[[1,2],[1,2,5],[1,2,5,8,9,10],[1,2,5,8,9,10,11],[1,2,5,7,8,9,10],[1,2,5,7,8,9,10,20],[4],[1,2,5,8,9,10],[1,2,5,8,9,10],[4]],[⟨[],[1,2,5,8,9,10],[32,560]⟩],[],[],[],false,[]⟩
def b92:AC:=
 .seq (.region false [
 ao 4 (.mv (.c (i64 0)))] [0,1]) (.seq (.region true (spl [
 ao 5 (.mv (.t 0)),
 ap 6 (.nilck (.t 5)) [0],
 ap 7 (.faddr 0 (.t 6)) [1,0],
 ap 8 (.faddr 0 (.t 7)) [2,1,0],
 ap 9 (.faddr 1 (.t 8)) [3,2,1,0],
 ap 10 (.load none (.t 9)) [4,3,2,1,0],
 ao 11 (.mv (.t 0)),
 ao 12 (.mv (.t 1)),
 ap 13 (.nilck (.t 11)) [6],
 ap 14 (.faddr 4 (.t 13)) [8,6],
 ap 15 (.idxa 4 2 (.t 14) (.t 12)) [9,7,8,6],
 ap 16 (.faddr 1 (.t 15)) [10,9,7,8,6],
 ap 17 (.load none (.t 16)) [11,10,9,7,8,6]] [
 ap 18 (.bin .mul (.t 10) (.t 17)) [5,12,4,3,2,1,0,11,10,9,7,8,6],
 ap 19 (.bin .add (.t 18) (.c (i64 12))) [13,5,12,4,3,2,1,0,11,10,9,7,8,6],
 ap 20 (.bin .sub (.t 19) (.c (i64 1))) [14,13,5,12,4,3,2,1,0,11,10,9,7,8,6],
 ap 21 (.bin .quo (.t 20) (.c (i64 12))) [15,14,13,5,12,4,3,2,1,0,11,10,9,7,8,6],
 ap 4 (.mv (.t 21)) [16,15,14,13,5,12,4,3,2,1,0,11,10,9,7,8,6]]) [4]) (.ret))
def a92:AFn:=⟨2,[.t 4],b92,false⟩
def n92:Ann:=⟨[[0,1],[4]],[],[],[],[],false,[]⟩
def b93:AC:=
 .seq (.region false [
 ao 2 (.box (.t 0)),
 ao 4 (.mv (.c (i64 0)))] [1,2]) (.seq (.seq (.region false [
 ao 6 (.load (some 4) (.t 2)),
 ao 7 (.call 123 [(.t 6)]),
 ao 5 (.mv (.t 7))] [1,5]) (.seq (.region false [
 ao 8 (.mv (.t 5)),
 ao 9 (.bin .neq (.t 8) (.c (i64 0)))] [1,5,9]) (.cond (.t 9) (.seq (.region false [
 ao 10 (.mv (.t 5)),
 ao 4 (.mv (.t 10))] [4]) (.ret)) (.skip)))) (.seq (.seq (.region false [
 ao 11 (.mv (.t 1)),
 ao 12 (.un .not (.t 11))] [12]) (.cond (.t 12) (.seq (.region false [
 ao 4 (.mv (.c (i64 1)))] [4]) (.ret)) (.skip))) (.seq (.region false [
 ao 4 (.mv (.c (i64 0)))] [4]) (.ret))))
def a93:AFn:=⟨2,[.t 4],b93,false⟩
def n93:Ann:=⟨[[1,2],[1,5],[1,5,9],[4],[12],[4],[4]],[],[],[],[],false,[(4,112),(10,112),(8,112),(5,112)]⟩
@[simp] def d94l1:AC:=
 .seq (.region false [
 ao 21 (.bin .lss (.t 20) (.c (i64 21)))] [1,2,5,6,17,20,21]) (.seq (.cond (.t 21) (.skip) (.exit 2)) (.seq (.block 3 (.seq (.region false [
 ao 22 (.mv (.t 20)),
 ao 7 (.mv (.t 22))] [1,2,5,6,7,17,20]) (.seq (.region false [
 ao 23 (.mv (.t 6)),
 ao 24 (.mv (.t 7)),
 ao 25 (.bin .neq (.t 23) (.t 24))] [1,2,5,6,7,17,20,25]) (.cond (.t 25) (.region false [
 ao 26 (.mv (.t 5)),
 ao 27 (.mv (.t 6)),
 ao 28 (.mv (.t 7)),
 ao 29 (.nilck (.t 26)),
 ao 30 (.faddr 4 (.t 29)),
 ao 31 (.idxa 21 21 (.t 30) (.t 27)),
 ao 32 (.idxa 21 1 (.t 31) (.t 28)),
 ⟨none, .store 1 (.t 32) (.c (i64 1048576)),none,[],[]⟩] [1,2,5,6,17,20]) (.skip))))) (.region false [
 ao 33 (.bin .add (.t 20) (.c (i64 1))),
 ao 20 (.mv (.t 33))] [1,2,5,6,17,20])))
def b94l1:AC:= .loop [1,2,5,6,17,20] [32,208,256,720,736,928,1008,1024,1136,1200,1296,1424,1536,1792] d94l1
@[simp] def d94l0:AC:=
 .seq (.region false [
 ao 18 (.bin .lss (.t 17) (.c (i64 21)))] [1,2,5,17,18]) (.seq (.cond (.t 18) (.skip) (.exit 0)) (.seq (.block 1 (.seq (.region false [
 ao 19 (.mv (.t 17)),
 ao 6 (.mv (.t 19))] [1,2,5,6,17]) (.seq (.region false [
 ao 20 (.mv (.c (i64 0)))] [1,2,5,6,17,20]) (.block 2 (b94l1))))) (.region false [
 ao 34 (.bin .add (.t 17) (.c (i64 1))),
 ao 17 (.mv (.t 34))] [1,2,5,17])))
def b94l0:AC:= .loop [1,2,5,17] [32,208,256,720,736,928,1008,1024,1136,1200,1296,1424,1536,1792] d94l0
@[simp] def d94l3:AC:=
 .seq (.region false [
 ao 50 (.bin .lss (.t 49) (.t 48))] [1,2,5,8,36,37,48,49,50]) (.seq (.cond (.t 50) (.skip) (.exit 6)) (.seq (.block 7 (.seq (.region false [
 ao 51 (.mv (.t 49)),
 ao 9 (.mv (.t 51))] [1,2,5,8,9,36,37,48,49]) (.seq (.region true (spl [
 ao 52 (.mv (.t 5)),
 ap 53 (.nilck (.t 52)) [0],
 ap 54 (.faddr 4 (.t 53)) [1,0],
 ao 55 (.mv (.t 5)),
 ao 56 (.mv (.t 8)),
 ao 57 (.mv (.t 9)),
 ap 58 (.call 98 [(.t 55),(.t 56),(.t 57)]) [3,4,5],
 ao 59 (.mv (.t 5)),
 ao 60 (.mv (.t 8)),
 ao 61 (.mv (.t 9)),
 ap 62 (.bin .add (.t 61) (.c (i64 1))) [9],
 ap 63 (.call 98 [(.t 59),(.t 60),(.t 62)]) [7,8,10,6,9,3,4,5]] [
 ap 64 (.call 124 [(.t 54),(.t 58),(.t 63),(.c (i64 0))]) [2,11,1,0,7,8,10,6,9,3,4,5]]) [1,2,5,8,9,36,37,48,49]) (.seq (.seq (.region false [
 ao 65 (.mv (.t 8)),
 ao 66 (.bin .eql (.t 65) (.c (i64 0)))] [1,2,5,8,9,36,37,48,49,66]) (.cond (.t 66) (.exit 7) (.skip))) (.seq (.region false [
 ao 67 (.mv (.t 5)),
 ao 68 (.mv (.t 8)),
 ao 69 (.bin .sub (.t 68) (.c (i64 1))),
 ao 70 (.mv (.t 9)),
 ao 71 (.call 98 [(.t 67),(.t 69),(.t 70)]),
 ao 72 (.mv (.t 5)),
 ao 73 (.mv (.t 8)),
 ao 74 (.mv (.t 9)),
 ao 75 (.call 98 [(.t 72),(.t 73),(.t 74)]),
 ao 10 (.mv (.t 71)),
 ao 11 (.mv (.t 75))] [1,2,5,8,9,10,11,36,37,48,49]) (.seq (.region false [
 ao 76 (.mv (.t 5)),
 ao 77 (.nilck (.t 76)),
 ao 78 (.faddr 4 (.t 77)),
 ao 79 (.mv (.t 11)),
 ao 80 (.mv (.t 10)),
 ao 81 (.call 124 [(.t 78),(.t 79),(.t 80),(.c (i64 0))])] [1,2,5,8,9,10,11,36,37,48,49]) (.seq (.region false [
 ao 82 (.faddr 2 (.t 2)),
 ao 83 (.load none (.t 82)),
 ao 84 (.mv (.t 8)),
 ao 85 (.bin .sub (.t 84) (.c (i64 1))),
 ao 86 (.idxs 1 (.t 83) (.t 85)),
 ao 87 (.load none (.t 86)),
 ao 88 (.mv (.t 9)),
 ao 89 (.call 110 [(.t 87),(.t 88)]),
 ao 90 (.un .not (.t 89))] [1,2,5,8,10,11,36,37,48,49,90]) (.cond (.t 90) (.region false [
 ao 91 (.mv (.t 5)),
 ao 92 (.nilck (.t 91)),
 ao 93 (.faddr 4 (.t 92)),
 ao 94 (.mv (.t 10)),
 ao 95 (.mv (.t 11)),
 ao 96 (.call 124 [(.t 93),(.t 94),(.t 95),(.c (i64 0))])] [1,2,5,8,36,37,48,49]) (.skip))))))))) (.region false [
 ao 97 (.bin .add (.t 49) (.c (i64 1))),
 ao 49 (.mv (.t 97))] [1,2,5,8,36,37,48,49])))
def b94l3:AC:= .loop [1,2,5,8,36,37,48,49] [32,208,256,720,736,1792] d94l3
@[simp] def d94l2:AC:=
 .seq (.region false [
 ao 38 (.bin .lss (.t 37) (.t 36))] [1,2,5,36,37,38]) (.seq (.cond (.t 38) (.skip) (.exit 4)) (.seq (.block 5 (.seq (.region false [
 ao 39 (.mv (.t 37)),
 ao 8 (.mv (.t 39))] [1,2,5,8,36,37]) (.seq (.region true (spl [
 ao 40 (.mv (.t 5)),
 ap 41 (.nilck (.t 40)) [0],
 ap 42 (.faddr 4 (.t 41)) [1,0],
 ao 43 (.mv (.t 5)),
 ao 44 (.mv (.t 8)),
 ap 45 (.call 98 [(.t 43),(.t 44),(.c (i64 0))]) [3,4]] [
 ap 46 (.call 124 [(.t 42),(.c (i64 0)),(.t 45),(.c (i64 40))]) [2,5,1,0,3,4]]) [1,2,5,8,36,37]) (.seq (.region false [
 ao 47 (.faddr 0 (.t 2)),
 ao 48 (.load none (.t 47)),
 ao 49 (.mv (.c (i64 0)))] [1,2,5,8,36,37,48,49]) (.block 6 (b94l3)))))) (.region false [
 ao 98 (.bin .add (.t 37) (.c (i64 1))),
 ao 37 (.mv (.t 98))] [1,2,5,36,37])))
def b94l2:AC:= .loop [1,2,5,36,37] [32,208,256,1792] d94l2
@[simp] def d94l4:AC:=
 .seq (.region false [
 ao 103 (.bin .lss (.t 102) (.t 101))] [1,5,100,101,102,103]) (.seq (.cond (.t 103) (.skip) (.exit 8)) (.seq (.block 9 (.seq (.region false [
 ao 104 (.mv (.t 102)),
 ao 105 (.idxs 4 (.t 100) (.t 102)),
 ao 106 (.load (some 4) (.t 105)),
 ao 13 (.alloc [(i64 0),(i64 0),(i64 0),(i64 0)]),
 ao 12 (.mv (.t 104)),
 ⟨none, .store 4 (.t 13) (.t 106),none,[],[]⟩] [1,5,12,13,100,101,102]) (.seq (.region false [
 ao 107 (.mv (.t 12)),
 ao 108 (.mv (.t 1)),
 ao 109 (.bin .neq (.t 107) (.t 108))] [1,5,13,100,101,102,109]) (.cond (.t 109) (.region false [
 ao 110 (.mv (.t 5)),
 ao 111 (.load (some 4) (.t 13)),
 ao 112 (.call 125 [(.t 110),(.t 111)])] [1,5,100,101,102]) (.skip))))) (.region false [
 ao 113 (.bin .add (.t 102) (.c (i64 1))),
 ao 102 (.mv (.t 113))] [1,5,100,101,102])))
def b94l4:AC:= .loop [1,5,100,101,102] [32,256,720,736,928,1008,1024,1136,1200,1296,1424,1536] d94l4
def b94:AC:=
 .seq (.region false [
 ao 2 (.box (.t 0)),
 ao 4 (.mv (.c .nilp))] [1,2]) (.seq (.region false [
 ao 14 (.load (some 4) (.t 2)),
 ao 15 (.build ([(i64 0),(i64 0),(.sl .full 1 []),(.sl .full 4 [])] ++zeroV 441) [(0,4,(.t 14))]),
 ao 16 (.box (.t 15)),
 ao 5 (.mv (.t 16))] [1,2,5]) (.seq (.seq (.region false [
 ao 17 (.mv (.c (i64 0)))] [1,2,5,17]) (.block 0 (b94l0))) (.seq (.seq (.region false [
 ao 35 (.faddr 1 (.t 2)),
 ao 36 (.load none (.t 35)),
 ao 37 (.mv (.c (i64 0)))] [1,2,5,36,37]) (.block 4 (b94l2))) (.seq (.seq (.region false [
 ao 99 (.faddr 3 (.t 2)),
 ao 100 (.load none (.t 99)),
 ao 101 (.len (.t 100)),
 ao 102 (.mv (.c (i64 0)))] [1,5,100,101,102]) (.block 8 (b94l4))) (.seq (.region false [
 ao 114 (.mv (.t 5)),
 ao 4 (.mv (.t 114))] [4]) (.ret))))))
def a94:AFn:=⟨2,[.t 4],b94,false⟩
def n94:Ann:=⟨[[1,2],[1,2,5],[1,2,5,17],[1,2,5,17,18],[1,2,5,6,17],[1,2,5,6,17,20],[1,2,5,6,17,20,21],[1,2,5,6,7,17,20],[1,2,5,6,7,17,20,25],[1,2,5,6,17,20],[1,2,5,6,17,20],[1,2,5,17],[1,2,5,36,37],[1,2,5,36,37,38],[1,2,5,8,36,37],[1,2,5,8,36,37],[1,2,5,8,36,37,48,49],[1,2,5,8,36,37,48,49,50],[1,2,5,8,9,36,37,48,49],[1,2,5,8,9,36,37,48,49],[1,2,5,8,9,36,37,48,49,66],[1,2,5,8,9,10,11,36,37,48,49],[1,2,5,8,9,10,11,36,37,48,49],[1,2,5,8,10,11,36,37,48,49,90],[1,2,5,8,36,37,48,49],[1,2,5,8,36,37,48,49],[1,2,5,36,37],[1,5,100,101,102],[1,5,100,101,102,103],[1,5,12,13,100,101,102],[1,5,13,100,101,102,109],[1,5,100,101,102],[1,5,100,101,102],[4]],[⟨[],[1,2,5,17],[32,208,256,720,736,928,1008,1024,1136,1200,1296,1424,1536,1792]⟩,⟨[],[1,2,5,6,17,20],[32,208,256,720,736,928,1008,1024,1136,1200,1296,1424,1536,1792]⟩,⟨[],[1,2,5,36,37],[32,208,256,1792]⟩,⟨[],[1,2,5,8,36,37,48,49],[32,208,256,720,736,1792]⟩,⟨[],[1,5,100,101,102],[32,256,720,736,928,1008,1024,1136,1200,1296,1424,1536]⟩],[],[],[],false,[(4,256),(114,256),(110,256),(95,1200),(94,1136),(91,256),(80,1136),(79,1200),(76,256),(11,1200),(10,1136),(72,256),(67,256),(59,256),(55,256),(52,256),(43,256),(40,256),(26,256),(5,256)]⟩
@[simp] def d95l0:AC:=
 .seq (.region false [
 ao 5 (.bin .lss (.t 4) (.c (i64 21)))] [0,4,5]) (.seq (.cond (.t 5) (.skip) (.exit 0)) (.seq (.block 1 (.seq (.region false [
 ao 6 (.mv (.t 4)),
 ao 3 (.mv (.t 6))] [0,3,4]) (.seq (.region false [
 ao 7 (.mv (.t 0)),
 ao 8 (.mv (.t 3)),
 ao 9 (.mv (.t 3)),
 ao 10 (.nilck (.t 7)),
 ao 11 (.idxa 21 21 (.t 10) (.t 8)),
 ao 12 (.idxa 21 1 (.t 11) (.t 9)),
 ao 13 (.load none (.t 12)),
 ao 14 (.bin .lss (.t 13) (.c (i64 0)))] [0,4,14]) (.cond (.t 14) (.seq (.region false [
 ao 2 (.mv (.c (.bool true)))] [2]) (.ret)) (.skip))))) (.region false [
 ao 15 (.bin .add (.t 4) (.c (i64 1))),
 ao 4 (.mv (.t 15))] [0,4])))
def b95l0:AC:= .loop [0,4] [] d95l0
def b95:AC:=
 .seq (.region false [
 ao 2 (.mv (.c (.bool false)))] [0]) (.seq (.seq (.region false [
 ao 4 (.mv (.c (i64 0)))] [0,4]) (.block 0 (b95l0))) (.seq (.region false [
 ao 2 (.mv (.c (.bool false)))] [2]) (.ret)))
def a95:AFn:=⟨1,[.t 2],b95,false⟩
def n95:Ann:=⟨[[0],[0,4],[0,4,5],[0,3,4],[0,4,14],[2],[0,4],[2]],[⟨[],[0,4],[]⟩],[],[],[],false,[]⟩
def b96:AC:=
 .seq (.region false [
 ao 6 (.mv (.c (.bool false)))] [0,1,2]) (.seq (.region false [
 ao 7 (.mv (.t 0)),
 ao 8 (.mv (.t 1)),
 ao 9 (.bin .geq (.t 7) (.t 8)),
 ao 10 (.mv (.t 9)),
 ag 11 (.mv (.t 0)) 10 true [],
 ag 12 (.mv (.t 2)) 10 true [],
 ag 13 (.bin .leq (.t 11) (.t 12)) 10 true [],
 ao 14 (.pick (.t 10) (.t 13) (.c (.bool false))),
 ao 6 (.mv (.t 14))] [6]) (.ret))
def a96:AFn:=⟨3,[.t 6],b96,false⟩
def n96:Ann:=⟨[[0,1,2],[6]],[],[],[],[],false,[]⟩
def b97:AC:=
 .seq (.region false [
 ao 6 (.alloc [(i64 0),(i64 0)])] [0,1,2,6]) (.seq (.region true (spl [
 ao 7 (.mv (.t 0)),
 ao 8 (.mv (.t 2)),
 ao 9 (.mv (.t 1)),
 ap 10 (.nilck (.t 7)) [0],
 ap 11 (.idxa 21 21 (.t 10) (.t 8)) [3,1,0],
 ap 12 (.idxa 21 1 (.t 11) (.t 9)) [4,2,3,1,0],
 ap 13 (.load none (.t 12)) [5,4,2,3,1,0],
 ap 14 (.un .neg (.t 13)) [6,5,4,2,3,1,0],
 ao 15 (.mv (.t 0)),
 ao 16 (.mv (.t 1)),
 ao 17 (.mv (.t 2)),
 ap 18 (.nilck (.t 15)) [8],
 ap 19 (.idxa 21 21 (.t 18) (.t 16)) [11,9,8],
 ap 20 (.idxa 21 1 (.t 19) (.t 17)) [12,10,11,9,8],
 ap 21 (.load none (.t 20)) [13,12,10,11,9,8]] [
 ap 22 (.build [(i64 0),(i64 0)] [(0,1,(.t 14)),(1,1,(.t 21))]) [7,14,6,5,4,2,3,1,0,13,12,10,11,9,8],
 ⟨none, .store 2 (.t 6) (.t 22),none,[15,7,14,6,5,4,2,3,1,0,13,12,10,11,9,8],[]⟩]) [6]) (.ret))
def a97:AFn:=⟨3,[.cell 6 (some 2)],b97,false⟩
def n97:Ann:=⟨[[0,1,2,6],[6]],[],[],[],[],false,[]⟩
def b98:AC:=
 .seq (.region false [
 ao 6 (.mv (.c (i64 0)))] [0,1,2]) (.seq (.seq (.region false [
 ao 7 (.mv (.t 2)),
 ao 8 (.mv (.t 0)),
 ao 9 (.nilck (.t 8)),
 ao 10 (.faddr 0 (.t 9)),
 ao 11 (.faddr 0 (.t 10)),
 ao 12 (.load none (.t 11)),
 ao 13 (.bin .eql (.t 7) (.t 12))] [0,1,2,13]) (.cond (.t 13) (.seq (.region false [
 ao 6 (.mv (.c (i64 0)))] [6]) (.ret)) (.skip))) (.seq (.region false [
 ao 14 (.mv (.t 1)),
 ao 15 (.mv (.t 0)),
 ao 16 (.nilck (.t 15)),
 ao 17 (.faddr 0 (.t 16)),
 ao 18 (.faddr 0 (.t 17)),
 ao 19 (.load none (.t 18)),
 ao 20 (.bin .mul (.t 14) (.t 19)),
 ao 21 (.bin .add (.c (i64 1)) (.t 20)),
 ao 22 (.mv (.t 2)),
 ao 23 (.bin .add (.t 21) (.t 22)),
 ao 6 (.mv (.t 23))] [6]) (.ret)))
def a98:AFn:=⟨3,[.t 6],b98,false⟩
def n98:Ann:=⟨[[0,1,2],[0,1,2,13],[6],[6]],[],[],[],[],false,[]⟩
def b108:AC:=
 .seq (.region false [
 ao 6 (.mv (.c (.bool false)))] [0,1,2]) (.seq (.region false [
 ao 7 (.mv (.t 0)),
 ao 8 (.mv (.t 1)),
 ao 9 (.bin .geq (.t 7) (.t 8)),
 ao 10 (.mv (.t 9)),
 ag 11 (.mv (.t 0)) 10 true [],
 ag 12 (.mv (.t 2)) 10 true [],
 ag 13 (.bin .leq (.t 11) (.t 12)) 10 true [],
 ao 14 (.pick (.t 10) (.t 13) (.c (.bool false))),
 ao 6 (.mv (.t 14))] [6]) (.ret))
def a108:AFn:=⟨3,[.t 6],b108,false⟩
def n108:Ann:=⟨[[0,1,2],[6]],[],[],[],[],false,[]⟩
@[simp] def d109l0:AC:=
 .seq (.region false [
 ao 26 (.bin .lss (.t 25) (.t 24))] [0,3,24,25,26]) (.seq (.cond (.t 26) (.skip) (.exit 0)) (.seq (.block 1 (.seq (.region false [
 ao 27 (.mv (.t 25)),
 ao 6 (.mv (.t 27))] [0,3,6,24,25]) (.seq (.region true (spl [
 ao 28 (.mv (.t 0)),
 ao 29 (.mv (.t 6)),
 ap 30 (.call 110 [(.t 28),(.t 29)]) [0,1],
 ap 31 (.un .not (.t 30)) [2,0,1],
 ap 32 (.mv (.t 31)) [3,2,0,1],
 ag 33 (.load none (.t 3)) 32 true [4,3,2,0,1],
 ag 34 (.mv (.t 0)) 32 true [4,3,2,0,1],
 ag 35 (.mv (.t 0)) 32 true [4,3,2,0,1],
 ag 36 (.len (.t 35)) 32 true [7,4,3,2,0,1],
 ag 37 (.mv (.t 0)) 32 true [4,3,2,0,1],
 ag 38 (.len (.t 37)) 32 true [9,4,3,2,0,1],
 ag 39 (.slice 1 (.t 34) none (some (.t 36)) (some (.t 38))) 32 true [6,8,10,7,9,4,3,2,0,1],
 ag 40 (.mv (.t 6)) 32 true [4,3,2,0,1],
 ag 41 (.lit [(i64 0)] 1 [(0,(.t 40))]) 32 true [12,4,3,2,0,1],
 ag 42 (.app 1 8 (.t 39) (.t 41)) 32 true [11,13,6,8,10,7,9,12,4,3,2,0,1]] [
 ag 43 (.callv (.t 33) [(.t 42)]) 32 true [5,14,11,13,6,8,10,7,9,12,4,3,2,0,1],
 ag 44 (.un .not (.t 43)) 32 true [15,5,14,11,13,6,8,10,7,9,12,4,3,2,0,1],
 ap 45 (.pick (.t 32) (.t 44) (.c (.bool false))) [16,15,5,14,11,13,6,8,10,7,9,12,4,3,2,0,1]]) [0,3,24,25,45]) (.cond (.t 45) (.seq (.region false [
 ao 5 (.mv (.c (.bool false)))] [5]) (.ret)) (.skip))))) (.region false [
 ao 46 (.bin .add (.t 25) (.c (i64 1))),
 ao 25 (.mv (.t 46))] [0,3,24,25])))
def b109l0:AC:= .loop [0,3,24,25] [288] d109l0
def b109:AC:=
 .seq (.region false [
 ao 5 (.mv (.c (.bool false)))] [0,1,2,3]) (.seq (.seq (.region false [
 ao 7 (.mv (.t 0)),
 ao 8 (.len (.t 7)),
 ao 9 (.load none (.t 1)),
 ao 10 (.nilck (.t 9)),
 ao 11 (.faddr 0 (.t 10)),
 ao 12 (.faddr 2 (.t 11)),
 ao 13 (.load none (.t 12)),
 ao 14 (.len (.t 13)),
 ao 15 (.bin .eql (.t 8) (.t 14))] [0,1,2,3,15]) (.cond (.t 15) (.seq (.region false [
 ao 16 (.load none (.t 2)),
 ao 17 (.mv (.t 0)),
 ao 18 (.callv (.t 16) [(.t 17)]),
 ao 5 (.mv (.t 18))] [5]) (.ret)) (.skip))) (.seq (.seq (.region false [
 ao 19 (.load none (.t 1)),
 ao 20 (.nilck (.t 19)),
 ao 21 (.faddr 0 (.t 20)),
 ao 22 (.faddr 3 (.t 21)),
 ao 23 (.load none (.t 22)),
 ao 24 (.len (.t 23)),
 ao 25 (.mv (.c (i64 0)))] [0,3,24,25]) (.block 0 (b109l0))) (.seq (.region false [
 ao 5 (.mv (.c (.bool true)))] [5]) (.ret))))
def a109:AFn:=⟨4,[.t 5],b109,false⟩
def n109:Ann:=⟨[[0,1,2,3],[0,1,2,3,15],[5],[0,3,24,25],[0,3,24,25,26],[0,3,6,24,25],[0,3,24,25,45],[5],[0,3,24,25],[5]],[⟨[],[0,3,24,25],[288]⟩],[],[],[],false,[]⟩
def b110:AC:=
 .seq (.region false [
 ao 4 (.mv (.c (.bool false)))] [0,1]) (.seq (.region false [
 ao 5 (.mv (.t 0)),
 ao 6 (.mv (.t 1)),
 ao 7 (.call 137 [(.t 5),(.t 6)]),
 ao 8 (.bin .geq (.t 7) (.c (i64 0))),
 ao 4 (.mv (.t 8))] [4]) (.ret))
def a110:AFn:=⟨2,[.t 4],b110,false⟩
def n110:Ann:=⟨[[0,1],[4]],[],[],[],[],false,[]⟩
def b111:AC:=
 .seq (.region false [
 ao 1 (.box (.t 0)),
 ao 2 (.mv (.c (i64 0)))] [1]) (.seq (.seq (.region false [
 ao 3 (.faddr 0 (.t 1)),
 ao 4 (.load (some 4) (.t 3)),
 ao 5 (.call 123 [(.t 4)]),
 ao 6 (.bin .neq (.t 5) (.c (i64 0))),
 ao 7 (.mv (.t 6)),
 ag 8 (.faddr 4 (.t 1)) 7 false [],
 ag 9 (.load none (.t 8)) 7 false [],
 ag 10 (.call 69 [(.t 9),(.c (i64 0)),(.c (i64 5))]) 7 false [],
 ag 11 (.un .not (.t 10)) 7 false [],
 ao 12 (.pick (.t 7) (.c (.bool true)) (.t 11)),
 ao 13 (.mv (.t 12)),
 ag 14 (.faddr 5 (.t 1)) 13 false [],
 ag 15 (.load none (.t 14)) 13 false [],
 ag 16 (.call 69 [(.t 15),(.c (i64 0)),(.c (i64 5))]) 13 false [],
 ag 17 (.un .not (.t 16)) 13 false [],
 ao 18 (.pick (.t 13) (.c (.bool true)) (.t 17)),
 ao 19 (.mv (.t 18)),
 ag 20 (.faddr 0 (.t 1)) 19 false [],
 ag 21 (.load (some 4) (.t 20)) 19 false [],
 ag 22 (.faddr 6 (.t 1)) 19 false [],
 ag 23 (.load none (.t 22)) 19 false [],
 ag 24 (.call 138 [(.t 21),(.t 23)]) 19 false [],
 ag 25 (.un .not (.t 24)) 19 false [],
 ao 26 (.pick (.t 19) (.c (.bool true)) (.t 25))] [26]) (.cond (.t 26) (.seq (.region false [
 ao 2 (.mv (.c (i64 110)))] [2]) (.ret)) (.skip))) (.seq (.region false [
 ao 2 (.mv (.c (i64 0)))] [2]) (.ret)))
def a111:AFn:=⟨1,[.t 2],b111,false⟩
def n111:Ann:=⟨[[1],[26],[2],[2]],[],[],[],[],false,[]⟩
def b112:AC:=
 .seq (.region false [
 ao 4 (.mv (.c (.bool false)))] [0,1]) (.seq (.region true (spl [
 ao 5 (.mv (.t 1)),
 ap 6 (.call 122 [(.t 5)]) [0],
 ao 7 (.mv (.t 0)),
 ap 8 (.nilck (.t 7)) [2],
 ap 9 (.faddr 0 (.t 8)) [3,2],
 ap 10 (.faddr 4 (.t 9)) [4,3,2],
 ap 11 (.load none (.t 10)) [5,4,3,2],
 ap 12 (.bin .leq (.t 6) (.t 11)) [1,6,0,5,4,3,2],
 ap 13 (.mv (.t 12)) [7,1,6,5,4,3,2,0],
 ag 14 (.mv (.t 1)) 13 true [8,7,1,6,5,4,3,2,0],
 ag 15 (.call 139 [(.t 14)]) 13 true [9,8,7,1,6,5,4,3,2,0],
 ag 16 (.mv (.t 0)) 13 true [8,7,1,6,5,4,3,2,0],
 ag 17 (.nilck (.t 16)) 13 true [11,8,7,1,6,5,4,3,2,0],
 ag 18 (.faddr 0 (.t 17)) 13 true [12,11,8,7,1,6,5,4,3,2,0],
 ag 19 (.faddr 5 (.t 18)) 13 true [13,12,11,8,7,1,6,5,4,3,2,0],
 ag 20 (.load none (.t 19)) 13 true [14,13,12,11,8,7,1,6,5,4,3,2,0],
 ag 21 (.bin .leq (.t 15) (.t 20)) 13 true [10,15,9,14,13,12,11,8,7,1,6,5,4,3,2,0],
 ap 22 (.pick (.t 13) (.t 21) (.c (.bool false))) [16,10,15,9,14,13,12,11,8,7,1,6,5,4,3,2,0],
 ap 23 (.mv (.t 22)) [17,16,10,15,14,13,12,11,9,8,7,1,6,5,4,3,2,0],
 ag 24 (.mv (.t 1)) 23 true [18,17,16,10,15,14,13,12,11,9,8,7,1,6,5,4,3,2,0],
 ag 25 (.mv (.t 0)) 23 true [18,17,16,10,15,14,13,12,11,9,8,7,1,6,5,4,3,2,0],
 ag 26 (.nilck (.t 25)) 23 true [20,18,17,16,10,15,14,13,12,11,9,8,7,1,6,5,4,3,2,0],
 ag 27 (.faddr 0 (.t 26)) 23 true [21,20,18,17,16,10,15,14,13,12,11,9,8,7,1,6,5,4,3,2,0],
 ag 28 (.faddr 6 (.t 27)) 23 true [22,21,20,18,17,16,10,15,14,13,12,11,9,8,7,1,6,5,4,3,2,0],
 ag 29 (.load none (.t 28)) 23 true [23,22,21,20,18,17,16,10,15,14,13,12,11,9,8,7,1,6,5,4,3,2,0],
 ag 30 (.call 140 [(.t 29)]) 23 true [24,23,22,21,20,18,17,16,10,15,14,13,12,11,9,8,7,1,6,5,4,3,2,0]] [
 ag 31 (.bin .and (.t 24) (.t 30)) 23 true [19,25,24,23,22,21,20,18,17,16,10,15,14,13,12,11,9,8,7,1,6,5,4,3,2,0],
 ag 32 (.bin .eql (.t 31) (.c (.int .u64 0))) 23 true [26,19,25,24,23,22,21,20,18,17,16,10,15,14,13,12,11,9,8,7,1,6,5,4,3,2,0],
 ap 33 (.pick (.t 23) (.t 32) (.c (.bool false))) [27,26,19,25,24,23,22,21,20,18,17,16,10,15,14,13,12,11,9,8,7,1,6,5,4,3,2,0],
 ap 4 (.mv (.t 33)) [28,27,26,19,25,24,23,22,21,20,18,17,16,10,15,14,13,12,11,9,8,7,1,6,5,4,3,2,0]]) [4]) (.ret))
def a112:AFn:=⟨2,[.t 4],b112,false⟩
def n112:Ann:=⟨[[0,1],[4]],[],[],[],[],false,[]⟩
@[simp] def d113l0:AC:=
 .seq (.region false [
 ao 22 (.bin .lss (.t 21) (.t 20))] [1,4,5,19,20,21,22]) (.seq (.cond (.t 22) (.skip) (.exit 0)) (.seq (.block 1 (.seq (.region false [
 ao 23 (.mv (.t 21)),
 ao 24 (.idxs 4 (.t 19) (.t 21)),
 ao 25 (.load (some 4) (.t 24)),
 ao 7 (.alloc [(i64 0),(i64 0),(i64 0),(i64 0)]),
 ao 6 (.mv (.t 23)),
 ⟨none, .store 4 (.t 7) (.t 25),none,[],[]⟩] [1,4,5,6,7,19,20,21]) (.seq (.region false [
 ao 26 (.mv (.t 1)),
 ao 27 (.mv (.t 6)),
 ao 28 (.callv (.t 26) [(.t 27)]),
 ao 29 (.un .not (.t 28))] [1,4,5,7,19,20,21,29]) (.cond (.t 29) (.region false [
 ao 30 (.faddr 3 (.t 5)),
 ao 31 (.load none (.t 30)),
 ao 32 (.load (some 4) (.t 7)),
 ao 33 (.lit [(i64 0),(i64 0),(i64 0),(i64 0)] 1 [(0,(.t 32))]),
 ao 34 (.app 4 32 (.t 31) (.t 33)),
 ao 35 (.faddr 3 (.t 5)),
 ⟨none, .store 1 (.t 35) (.t 34),none,[],[]⟩] [1,4,5,19,20,21]) (.skip))))) (.region false [
 ao 36 (.bin .add (.t 21) (.c (i64 1))),
 ao 21 (.mv (.t 36))] [1,4,5,19,20,21])))
def b113l0:AC:= .loop [1,4,5,19,20,21] [64,80,85] d113l0
def b113:AC:=
 .seq (.region false [
 ao 4 (.alloc [(i64 0),(i64 0),(.sl .full 1 []),(.sl .full 4 [])])] [0,1,4]) (.seq (.region false [
 ao 8 (.mv (.t 0)),
 ao 9 (.nilck (.t 8)),
 ao 10 (.faddr 0 (.t 9)),
 ao 11 (.faddr 0 (.t 10)),
 ao 12 (.load (some 4) (.t 11)),
 ao 5 (.alloc [(i64 0),(i64 0),(.sl .full 1 []),(.sl .full 4 [])]),
 ⟨none, .store 4 (.t 5) (.t 12),none,[],[]⟩] [0,1,4,5]) (.seq (.region false [
 ao 13 (.faddr 3 (.t 5)),
 ⟨none, .store 1 (.t 13) (.c (.sl .full 4 [])),none,[],[]⟩] [0,1,4,5]) (.seq (.seq (.region false [
 ao 14 (.mv (.t 0)),
 ao 15 (.nilck (.t 14)),
 ao 16 (.faddr 0 (.t 15)),
 ao 17 (.faddr 0 (.t 16)),
 ao 18 (.faddr 3 (.t 17)),
 ao 19 (.load none (.t 18)),
 ao 20 (.len (.t 19)),
 ao 21 (.mv (.c (i64 0)))] [1,4,5,19,20,21]) (.block 0 (.seq (.thawc 5 3 85 4) (b113l0)))) (.seq (.region false [
 ao 37 (.load (some 4) (.t 5)),
 ⟨none, .store 4 (.t 4) (.t 37),none,[],[]⟩] [4]) (.ret)))))
def a113:AFn:=⟨2,[.cell 4 (some 4)],b113,false⟩
def n113:Ann:=⟨[[0,1,4],[0,1,4,5],[0,1,4,5],[1,4,5,19,20,21],[1,4,5,19,20,21,22],[1,4,5,6,7,19,20,21],[1,4,5,7,19,20,21,29],[1,4,5,19,20,21],[1,4,5,19,20,21],[4]],[⟨[.c 5 3 85 4],[1,4,5,19,20,21],[64,80,85]⟩],[],[],[],false,[]⟩
def b114:AC:=
 .seq (.region false [
 ao 4 (.mv (.c (.bool false)))] [0,1,2]) (.seq (.region true (spl [
 ao 5 (.load none (.t 1)),
 ao 6 (.faddr 0 (.t 2)),
 ap 7 (.faddr 3 (.t 6)) [1],
 ap 8 (.load none (.t 7)) [2,1],
 ao 9 (.mv (.t 0)),
 ap 10 (.idxs 4 (.t 8) (.t 9)) [3,4,2,1],
 ap 11 (.faddr 0 (.t 10)) [5,3,4,2,1],
 ap 12 (.load none (.t 11)) [6,5,3,4,2,1]] [
 ap 13 (.call 115 [(.t 5),(.t 12)]) [0,7,6,5,3,4,2,1],
 ap 4 (.mv (.t 13)) [8,0,7,6,5,3,4,2,1]]) [4]) (.ret))
def a114:AFn:=⟨3,[.t 4],b114,false⟩
def n114:Ann:=⟨[[0,1,2],[4]],[],[],[],[],false,[(4,208)]⟩
def b115:AC:=
 .seq (.region false [
 ao 4 (.mv (.c (.bool false)))] [0,1]) (.seq (.region false [
 ao 5 (.mv (.t 0)),
 ao 6 (.mv (.t 1)),
 ao 7 (.bin .shr (.t 5) (.t 6)),
 ao 8 (.bin .and (.t 7) (.c (.int .u64 1))),
 ao 9 (.bin .eql (.t 8) (.c (.int .u64 1))),
 ao 4 (.mv (.t 9))] [4]) (.ret))
def a115:AFn:=⟨2,[.t 4],b115,false⟩
def n115:Ann:=⟨[[0,1],[4]],[],[],[],[],false,[]⟩
def b116:AC:=
 .seq (.region false [
 ao 1 (.box (.t 0)),
 ao 2 (.mv (.c (.bool false)))] [1]) (.seq (.region false [
 ao 6 (.load (some 4) (.t 1)),
 ao 7 (.call 141 [(.t 6)]),
 ao 5 (.mv (.t 7)),
 ao 8 (.ext (.t 5) 0),
 ao 9 (.ext (.t 5) 1),
 ao 3 (.mv (.t 8)),
 ao 4 (.mv (.t 9))] [4]) (.seq (.region false [
 ao 10 (.mv (.t 4)),
 ao 11 (.bin .eql (.t 10) (.c (i64 0))),
 ao 2 (.mv (.t 11))] [2]) (.ret)))
def a116:AFn:=⟨1,[.t 2],b116,false⟩
def n116:Ann:=⟨[[1],[4],[2]],[],[],[],[],false,[(10,112),(4,112),(3,112),(9,112),(8,112),(5,112)]⟩
def b117:AC:=
 .seq (.region false [
 ao 5 (.mv (.t 0)),
 ao 6 (.len (.t 5)),
 ao 4 (.mv (.t 6))] [0,1,4]) (.region false [
 ao 7 (.mv (.t 0)),
 ao 8 (.mv (.t 4)),
 ao 9 (.mv (.t 4)),
 ao 10 (.conv .u64 (.t 9)),
 ao 11 (.call 143 [(.t 10)]),
 ao 12 (.mv (.t 1)),
 ao 13 (.call 142 [(.t 7),(.c (i64 0)),(.t 8),(.t 11),(.t 12)])] [])
def a117:AFn:=⟨2,[],b117,false⟩
def n117:Ann:=⟨[[0,1,4],[]],[],[],[],[],false,[]⟩
def b118:AC:=
 .seq (.region false [
 ao 2 (.box (.t 0)),
 ao 3 (.box (.t 1)),
 ao 4 (.mv (.c (i64 0)))] [2,3]) (.seq (.region true (spl [
 ao 7 (.faddr 0 (.t 2)),
 ap 8 (.load none (.t 7)) [0],
 ap 9 (.call 119 [(.t 8)]) [1,0],
 ao 10 (.faddr 0 (.t 3)),
 ap 11 (.load none (.t 10)) [3]] [
 ap 12 (.call 119 [(.t 11)]) [4,2,3,1,0],
 ap 5 (.mv (.t 9)) [5,4,2,3,1,0],
 ap 6 (.mv (.t 12)) [6,5,4,2,3,1,0]]) [5,6]) (.seq (.region false [
 ao 13 (.mv (.t 5)),
 ao 14 (.len (.t 13)),
 ao 15 (.mv (.t 6)),
 ao 16 (.len (.t 15)),
 ao 17 (.bin .sub (.t 14) (.t 16)),
 ao 18 (.mv (.t 5)),
 ao 19 (.mv (.t 6)),
 ao 20 (.call 121 [(.t 18),(.t 19)]),
 ao 21 (.lit [(i64 0)] 2 [(0,(.t 17)),(1,(.t 20))]),
 ao 22 (.call 120 [(.t 21)]),
 ao 4 (.mv (.t 22))] [4]) (.ret)))
def a118:AFn:=⟨2,[.t 4],b118,false⟩
def n118:Ann:=⟨[[2,3],[5,6],[4]],[],[],[],[],false,[(4,352),(19,192),(18,144),(15,192),(13,144),(6,192),(5,144)]⟩
@[simp] def d119l0:AC:=
 .seq (.seq (.region false [
 ao 5 (.mv (.t 0)),
 ao 6 (.mv (.t 4)),
 ao 7 (.bin .shr (.t 5) (.t 6)),
 ao 8 (.bin .gtr (.t 7) (.c (.int .u64 0)))] [0,3,4,8]) (.cond (.t 8) (.skip) (.exit 0))) (.seq (.block 1 (.seq (.region false [
 ao 11 (.mv (.t 0)),
 ao 12 (.mv (.t 4)),
 ao 13 (.call 115 [(.t 11),(.t 12)])] [0,3,4,13]) (.cond (.t 13) (.region false [
 ao 14 (.mv (.t 3)),
 ao 15 (.mv (.t 4)),
 ao 16 (.lit [(i64 0)] 1 [(0,(.t 15))]),
 ao 17 (.app 1 8 (.t 14) (.t 16)),
 ao 3 (.mv (.t 17))] [0,3,4]) (.skip)))) (.region false [
 ao 9 (.mv (.t 4)),
 ao 10 (.bin .add (.t 9) (.c (i64 1))),
 ao 4 (.mv (.t 10))] [0,3,4]))
def b119l0:AC:= .loop [0,3,4] [49] d119l0
def b119:AC:=
 .seq (.region false [
 ao 2 (.mv (.c (.sl .full 1 [])))] [0]) (.seq (.region false [
 ao 3 (.mv (.c (.sl .full 1 [])))] [0,3]) (.seq (.seq (.region false [
 ao 4 (.mv (.c (i64 0)))] [0,3,4]) (.block 0 (.seq (.thaw 3 49 1) (b119l0)))) (.seq (.region false [
 ao 18 (.mv (.t 3)),
 ao 2 (.mv (.t 18))] [2]) (.ret))))
def a119:AFn:=⟨1,[.t 2],b119,false⟩
def n119:Ann:=⟨[[0],[0,3],[0,3,4],[0,3,4,8],[0,3,4,13],[0,3,4],[0,3,4],[2]],[⟨[.t 3 49 1],[0,3,4],[49]⟩],[],[],[],false,[]⟩
@[simp] def d120l0:AC:=
 .seq (.region false [
 ao 9 (.bin .lss (.t 8) (.t 7))] [3,6,7,8,9]) (.seq (.cond (.t 9) (.skip) (.exit 0)) (.seq (.block 1 (.seq (.region false [
 ao 10 (.idxs 1 (.t 6) (.t 8)),
 ao 11 (.load none (.t 10)),
 ao 5 (.mv (.t 11))] [3,5,6,7,8]) (.seq (.region false [
 ao 12 (.mv (.t 5)),
 ao 13 (.mv (.t 3)),
 ao 14 (.bin .neq (.t 12) (.t 13))] [3,5,6,7,8,14]) (.cond (.t 14) (.seq (.region false [
 ao 15 (.mv (.t 5)),
 ao 2 (.mv (.t 15))] [2]) (.ret)) (.skip))))) (.region false [
 ao 16 (.bin .add (.t 8) (.c (i64 1))),
 ao 8 (.mv (.t 16))] [3,6,7,8])))
def b120l0:AC:= .loop [3,6,7,8] [] d120l0
def b120:AC:=
 .seq (.region false [
 ao 2 (.mv (.c (i64 0)))] [0]) (.seq (.region false [
 ao 3 (.mv (.c (i64 0)))] [0,3]) (.seq (.seq (.region false [
 ao 6 (.mv (.t 0)),
 ao 7 (.len (.t 6)),
 ao 8 (.mv (.c (i64 0)))] [3,6,7,8]) (.block 0 (b120l0))) (.seq (.region false [
 ao 17 (.mv (.t 3)),
 ao 2 (.mv (.t 17))] [2]) (.ret))))
def a120:AFn:=⟨1,[.t 2],b120,false⟩
def n120:Ann:=⟨[[0],[0,3],[3,6,7,8],[3,6,7,8,9],[3,5,6,7,8],[3,5,6,7,8,14],[2],[3,6,7,8],[2]],[⟨[],[3,6,7,8],[]⟩],[],[],[],false,[]⟩
@[simp] def d121l0:AC:=
 .seq (.region false [
 ao 12 (.bin .lss (.t 11) (.t 10))] [0,1,9,10,11,12]) (.seq (.cond (.t 12) (.skip) (.exit 0)) (.seq (.block 1 (.seq (.region false [
 ao 13 (.mv (.t 11)),
 ao 14 (.idxs 1 (.t 9) (.t 11)),
 ao 15 (.load none (.t 14)),
 ao 5 (.mv (.t 13)),
 ao 6 (.mv (.t 15))] [0,1,5,6,9,10,11]) (.seq (.seq (.region false [
 ao 16 (.mv (.t 5)),
 ao 17 (.mv (.t 1)),
 ao 18 (.len (.t 17)),
 ao 19 (.bin .geq (.t 16) (.t 18))] [0,1,5,6,9,10,11,19]) (.cond (.t 19) (.seq (.region false [
 ao 4 (.mv (.c (i64 1)))] [4]) (.ret)) (.skip))) (.seq (.region false [
 ao 20 (.mv (.t 1)),
 ao 21 (.mv (.t 5)),
 ao 22 (.idxs 1 (.t 20) (.t 21)),
 ao 23 (.load none (.t 22)),
 ao 7 (.mv (.t 23))] [0,1,6,7,9,10,11]) (.seq (.region false [
 ao 24 (.mv (.t 6)),
 ao 25 (.mv (.t 7)),
 ao 26 (.call 144 [(.t 24),(.t 25)]),
 ao 8 (.mv (.t 26))] [0,1,8,9,10,11]) (.seq (.region false [
 ao 27 (.mv (.t 8)),
 ao 28 (.bin .neq (.t 27) (.c (i64 0)))] [0,1,8,9,10,11,28]) (.cond (.t 28) (.seq (.region false [
 ao 29 (.mv (.t 8)),
 ao 4 (.mv (.t 29))] [4]) (.ret)) (.skip)))))))) (.region false [
 ao 30 (.bin .add (.t 11) (.c (i64 1))),
 ao 11 (.mv (.t 30))] [0,1,9,10,11])))
def b121l0:AC:= .loop [0,1,9,10,11] [] d121l0
def b121:AC:=
 .seq (.region false [
 ao 4 (.mv (.c (i64 0)))] [0,1]) (.seq (.seq (.region false [
 ao 9 (.mv (.t 0)),
 ao 10 (.len (.t 9)),
 ao 11 (.mv (.c (i64 0)))] [0,1,9,10,11]) (.block 0 (b121l0))) (.seq (.seq (.region false [
 ao 31 (.mv (.t 0)),
 ao 32 (.len (.t 31)),
 ao 33 (.mv (.t 1)),
 ao 34 (.len (.t 33)),
 ao 35 (.bin .lss (.t 32) (.t 34))] [35]) (.cond (.t 35) (.seq (.region false [
 ao 4 (.mv (.c (i64 (-1))))] [4]) (.ret)) (.skip))) (.seq (.region false [
 ao 4 (.mv (.c (i64 0)))] [4]) (.ret))))
def a121:AFn:=⟨2,[.t 4],b121,false⟩
def n121:Ann:=⟨[[0,1],[0,1,9,10,11],[0,1,9,10,11,12],[0,1,5,6,9,10,11],[0,1,5,6,9,10,11,19],[4],[0,1,6,7,9,10,11],[0,1,8,9,10,11],[0,1,8,9,10,11,28],[4],[0,1,9,10,11],[35],[4],[4]],[⟨[],[0,1,9,10,11],[]⟩],[],[],[],false,[(4,416),(29,416),(27,416),(8,416)]⟩
def b122:AC:=
 .seq (.region false [
 ao 2 (.mv (.c (i64 0)))] [0]) (.seq (.cond (.c (.bool false)) (.seq (.region false [
 ao 3 (.mv (.t 0)),
 ao 4 (.conv .u32 (.t 3)),
 ao 5 (.call 145 [(.t 4)]),
 ao 2 (.mv (.t 5))] [2]) (.ret)) (.skip)) (.seq (.region false [
 ao 6 (.mv (.t 0)),
 ao 7 (.call 146 [(.t 6)]),
 ao 2 (.mv (.t 7))] [2]) (.ret)))
def a122:AFn:=⟨1,[.t 2],b122,false⟩
def n122:Ann:=⟨[[0],[2],[2]],[],[],[],[],false,[(2,80)]⟩
@[simp] def d123l1:AC:=
 .seq (.region false [
 ao 42 (.bin .lss (.t 41) (.t 40))] [1,4,33,34,35,39,40,41,42]) (.seq (.cond (.t 42) (.skip) (.exit 2)) (.seq (.block 3 (.seq (.region false [
 ao 43 (.mv (.t 41)),
 ao 44 (.idxs 1 (.t 39) (.t 41)),
 ao 45 (.load none (.t 44)),
 ao 5 (.mv (.t 43)),
 ao 6 (.mv (.t 45))] [1,4,5,6,33,34,35,39,40,41]) (.seq (.region false [
 ao 46 (.mv (.t 6)),
 ao 47 (.faddr 0 (.t 1)),
 ao 48 (.load none (.t 47)),
 ao 49 (.bin .sub (.t 48) (.c (i64 1))),
 ao 50 (.call 96 [(.t 46),(.c (i64 0)),(.t 49)]),
 ao 51 (.un .not (.t 50)),
 ao 52 (.mv (.t 51)),
 ag 53 (.mv (.t 5)) 52 false [],
 ag 54 (.bin .gtr (.t 53) (.c (i64 0))) 52 false [],
 ag 55 (.mv (.t 54)) 52 false [],
 ag 56 (.mv (.t 6)) 55 true [],
 ag 57 (.mv (.t 4)) 55 true [],
 ag 58 (.mv (.t 5)) 55 true [],
 ag 59 (.bin .sub (.t 58) (.c (i64 1))) 55 true [],
 ag 60 (.idxs 1 (.t 57) (.t 59)) 55 true [],
 ag 61 (.load none (.t 60)) 55 true [],
 ag 62 (.bin .leq (.t 56) (.t 61)) 55 true [],
 ag 63 (.pick (.t 55) (.t 62) (.c (.bool false))) 52 false [],
 ao 64 (.pick (.t 52) (.c (.bool true)) (.t 63))] [1,4,33,34,35,39,40,41,64]) (.cond (.t 64) (.seq (.region false [
 ao 2 (.mv (.c (i64 10)))] [2]) (.ret)) (.skip))))) (.region false [
 ao 65 (.bin .add (.t 41) (.c (i64 1))),
 ao 41 (.mv (.t 65))] [1,4,33,34,35,39,40,41])))
def b123l1:AC:= .loop [1,4,33,34,35,39,40,41] [16,144,224,1120] d123l1
@[simp] def d123l0:AC:=
 .seq (.region false [
 ao 36 (.bin .lss (.t 35) (.t 34))] [1,33,34,35,36]) (.seq (.cond (.t 36) (.skip) (.exit 0)) (.seq (.block 1 (.seq (.region false [
 ao 37 (.idxs 1 (.t 33) (.t 35)),
 ao 38 (.load none (.t 37)),
 ao 4 (.mv (.t 38))] [1,4,33,34,35]) (.seq (.region false [
 ao 39 (.mv (.t 4)),
 ao 40 (.len (.t 39)),
 ao 41 (.mv (.c (i64 0)))] [1,4,33,34,35,39,40,41]) (.block 2 (b123l1))))) (.region false [
 ao 66 (.bin .add (.t 35) (.c (i64 1))),
 ao 35 (.mv (.t 66))] [1,33,34,35])))
def b123l0:AC:= .loop [1,33,34,35] [16,144,224,1120] d123l0
def b123:AC:=
 .seq (.region false [
 ao 1 (.box (.t 0)),
 ao 2 (.mv (.c (i64 0)))] [1]) (.seq (.seq (.region false [
 ao 7 (.faddr 0 (.t 1)),
 ao 8 (.load none (.t 7)),
 ao 9 (.call 96 [(.t 8),(.c (i64 1)),(.c (i64 4))]),
 ao 10 (.un .not (.t 9)),
 ao 11 (.mv (.t 10)),
 ag 12 (.faddr 1 (.t 1)) 11 false [],
 ag 13 (.load none (.t 12)) 11 false [],
 ag 14 (.call 96 [(.t 13),(.c (i64 1)),(.c (i64 5))]) 11 false [],
 ag 15 (.un .not (.t 14)) 11 false [],
 ao 16 (.pick (.t 11) (.c (.bool true)) (.t 15)),
 ao 17 (.mv (.t 16)),
 ag 18 (.faddr 2 (.t 1)) 17 false [],
 ag 19 (.load none (.t 18)) 17 false [],
 ag 20 (.len (.t 19)) 17 false [],
 ag 21 (.faddr 1 (.t 1)) 17 false [],
 ag 22 (.load none (.t 21)) 17 false [],
 ag 23 (.bin .sub (.t 22) (.c (i64 1))) 17 false [],
 ag 24 (.bin .neq (.t 20) (.t 23)) 17 false [],
 ao 25 (.pick (.t 17) (.c (.bool true)) (.t 24)),
 ao 26 (.mv (.t 25)),
 ag 27 (.faddr 3 (.t 1)) 26 false [],
 ag 28 (.load none (.t 27)) 26 false [],
 ag 29 (.len (.t 28)) 26 false [],
 ag 30 (.bin .gtr (.t 29) (.c (i64 8))) 26 false [],
 ao 31 (.pick (.t 26) (.c (.bool true)) (.t 30))] [1,31]) (.cond (.t 31) (.seq (.region false [
 ao 2 (.mv (.c (i64 10)))] [2]) (.ret)) (.skip))) (.seq (.seq (.region false [
 ao 32 (.faddr 2 (.t 1)),
 ao 33 (.load none (.t 32)),
 ao 34 (.len (.t 33)),
 ao 35 (.mv (.c (i64 0)))] [1,33,34,35]) (.block 0 (b123l0))) (.seq (.seq (.region false [
 ao 67 (.faddr 3 (.t 1)),
 ao 68 (.load none (.t 67)),
 ao 69 (.mkfn 148 [] [(.t 1)]),
 ao 70 (.call 147 [(.t 68),(.t 69)])] [70]) (.cond (.t 70) (.seq (.region false [
 ao 2 (.mv (.c (i64 10)))] [2]) (.ret)) (.skip))) (.seq (.region false [
 ao 2 (.mv (.c (i64 0)))] [2]) (.ret)))))
def a123:AFn:=⟨1,[.t 2],b123,false⟩
def n123:Ann:=⟨[[1],[1,31],[2],[1,33,34,35],[1,33,34,35,36],[1,4,33,34,35],[1,4,33,34,35,39,40,41],[1,4,33,34,35,39,40,41,42],[1,4,5,6,33,34,35,39,40,41],[1,4,33,34,35,39,40,41,64],[2],[1,4,33,34,35,39,40,41],[1,33,34,35],[70],[2],[2]],[⟨[],[1,33,34,35],[16,144,224,1120]⟩,⟨[],[1,4,33,34,35,39,40,41],[16,144,224,1120]⟩],[],[],[],false,[]⟩
@[simp] def d124l1:AC:=
 .seq (.region false [
 ao 23 (.bin .lss (.t 22) (.c (i64 21)))] [0,1,2,3,8,19,22,23]) (.seq (.cond (.t 23) (.skip) (.exit 2)) (.seq (.block 3 (.seq (.region false [
 ao 24 (.mv (.t 22)),
 ao 9 (.mv (.t 24))] [0,1,2,3,8,9,19,22]) (.region true (spl [
 ao 25 (.mv (.t 0)),
 ao 26 (.mv (.t 8)),
 ao 27 (.mv (.t 9)),
 ao 28 (.mv (.t 0)),
 ao 29 (.mv (.t 8)),
 ao 30 (.mv (.t 9)),
 ap 31 (.nilck (.t 28)) [3],
 ap 32 (.idxa 21 21 (.t 31) (.t 29)) [6,4,3],
 ap 33 (.idxa 21 1 (.t 32) (.t 30)) [7,5,6,4,3],
 ap 34 (.load none (.t 33)) [8,7,5,6,4,3],
 ao 35 (.mv (.t 0)),
 ao 36 (.mv (.t 8)),
 ao 37 (.mv (.t 1)),
 ap 38 (.nilck (.t 35)) [10],
 ap 39 (.idxa 21 21 (.t 38) (.t 36)) [13,11,10],
 ap 40 (.idxa 21 1 (.t 39) (.t 37)) [14,12,13,11,10],
 ap 41 (.load none (.t 40)) [15,14,12,13,11,10],
 ao 42 (.mv (.t 3)),
 ap 43 (.bin .add (.t 41) (.t 42)) [16,17,15,14,12,13,11,10],
 ao 44 (.mv (.t 0)),
 ao 45 (.mv (.t 2)),
 ao 46 (.mv (.t 9)),
 ap 47 (.nilck (.t 44)) [19],
 ap 48 (.idxa 21 21 (.t 47) (.t 45)) [22,20,19],
 ap 49 (.idxa 21 1 (.t 48) (.t 46)) [23,21,22,20,19],
 ap 50 (.load none (.t 49)) [24,23,21,22,20,19],
 ap 51 (.bin .add (.t 43) (.t 50)) [18,25,16,17,15,14,12,13,11,10,24,23,21,22,20,19],
 ap 52 (.mm false (.t 34) (.t 51)) [9,26,8,7,5,6,4,3,18,25,16,17,15,14,12,13,11,10,24,23,21,22,20,19],
 ap 53 (.nilck (.t 25)) [0],
 ap 54 (.idxa 21 21 (.t 53) (.t 26)) [28,1,0]] [
 ap 55 (.idxa 21 1 (.t 54) (.t 27)) [29,2,27,28,1,0,9,26,8,7,5,6,4,3,18,25,16,17,15,14,12,13,11,10,24,23,21,22,20,19],
 ⟨none, .store 1 (.t 55) (.t 52),none,[30,29,2,27,28,1,0,9,26,8,7,5,6,4,3,18,25,16,17,15,14,12,13,11,10,24,23,21,22,20,19],[]⟩]) [0,1,2,3,8,19,22]))) (.region false [
 ao 56 (.bin .add (.t 22) (.c (i64 1))),
 ao 22 (.mv (.t 56))] [0,1,2,3,8,19,22])))
def b124l1:AC:= .loop [0,1,2,3,8,19,22] [] d124l1
@[simp] def d124l0:AC:=
 .seq (.region false [
 ao 20 (.bin .lss (.t 19) (.c (i64 21)))] [0,1,2,3,19,20]) (.seq (.cond (.t 20) (.skip) (.exit 0)) (.seq (.block 1 (.seq (.region false [
 ao 21 (.mv (.t 19)),
 ao 8 (.mv (.t 21))] [0,1,2,3,8,19]) (.seq (.region false [
 ao 22 (.mv (.c (i64 0)))] [0,1,2,3,8,19,22]) (.block 2 (b124l1))))) (.region false [
 ao 57 (.bin .add (.t 19) (.c (i64 1))),
 ao 19 (.mv (.t 57))] [0,1,2,3,19])))
def b124l0:AC:= .loop [0,1,2,3,19] [] d124l0
def b124:AC:=
 .seq (.seq (.region false [
 ao 10 (.mv (.t 3)),
 ao 11 (.mv (.t 0)),
 ao 12 (.mv (.t 1)),
 ao 13 (.mv (.t 2)),
 ao 14 (.nilck (.t 11)),
 ao 15 (.idxa 21 21 (.t 14) (.t 12)),
 ao 16 (.idxa 21 1 (.t 15) (.t 13)),
 ao 17 (.load none (.t 16)),
 ao 18 (.bin .geq (.t 10) (.t 17))] [0,1,2,3,18]) (.cond (.t 18) (.ret) (.skip))) (.seq (.region false [
 ao 19 (.mv (.c (i64 0)))] [0,1,2,3,19]) (.block 0 (b124l0)))
def a124:AFn:=⟨4,[],b124,false⟩
def n124:Ann:=⟨[[0,1,2,3,18],[0,1,2,3,19],[0,1,2,3,19,20],[0,1,2,3,8,19],[0,1,2,3,8,19,22],[0,1,2,3,8,19,22,23],[0,1,2,3,8,9,19,22],[0,1,2,3,8,19,22],[0,1,2,3,8,19,22],[0,1,2,3,19]],[⟨[],[0,1,2,3,19],[]⟩,⟨[],[0,1,2,3,8,19,22],[]⟩],[],[],[],false,[]⟩
def b125:AC:=
 .seq (.region false [
 ao 3 (.box (.t 1))] [0,3]) (.region true (spl [
 ao 4 (.mv (.t 0)),
 ap 5 (.nilck (.t 4)) [0],
 ap 6 (.faddr 4 (.t 5)) [1,0],
 ao 7 (.mv (.t 0)),
 ao 8 (.faddr 0 (.t 3)),
 ap 9 (.load none (.t 8)) [4],
 ao 10 (.faddr 1 (.t 3)),
 ap 11 (.load none (.t 10)) [6],
 ap 12 (.bin .add (.t 11) (.c (i64 1))) [7,6],
 ap 13 (.call 98 [(.t 7),(.t 9),(.t 12)]) [3,5,8,4,7,6],
 ao 14 (.mv (.t 0)),
 ao 15 (.faddr 0 (.t 3)),
 ap 16 (.load none (.t 15)) [11],
 ao 17 (.faddr 1 (.t 3)),
 ap 18 (.load none (.t 17)) [13],
 ap 19 (.call 98 [(.t 14),(.t 16),(.t 18)]) [10,12,14,9,11,13,3,5,8,4,7,6],
 ao 20 (.faddr 2 (.t 3)),
 ap 21 (.load none (.t 20)) [16],
 ao 22 (.faddr 3 (.t 3)),
 ap 23 (.load none (.t 22)) [18],
 ap 24 (.build [(i64 0),(i64 0)] [(0,1,(.t 21)),(1,1,(.t 23))]) [17,19,16,18]] [
 ap 25 (.call 150 [(.t 6),(.t 13),(.t 19),(.t 24)]) [2,20,15,1,0,17,19,16,18,10,12,14,9,11,13,3,5,8,4,7,6]]) [])
def a125:AFn:=⟨2,[],b125,false⟩
def n125:Ann:=⟨[[0,3],[]],[],[],[],[],false,[]⟩
@[simp] def d137l0:AC:=
 .seq (.region false [
 ao 9 (.bin .lss (.t 8) (.t 7))] [0,1,7,8,9]) (.seq (.cond (.t 9) (.skip) (.exit 0)) (.seq (.block 1 (.seq (.region false [
 ao 10 (.mv (.t 8)),
 ao 5 (.mv (.t 10))] [0,1,5,7,8]) (.seq (.region false [
 ao 11 (.mv (.t 1)),
 ao 12 (.mv (.t 0)),
 ao 13 (.mv (.t 5)),
 ao 14 (.idxs 1 (.t 12) (.t 13)),
 ao 15 (.load none (.t 14)),
 ao 16 (.bin .eql (.t 11) (.t 15))] [0,1,5,7,8,16]) (.cond (.t 16) (.seq (.region false [
 ao 17 (.mv (.t 5)),
 ao 4 (.mv (.t 17))] [4]) (.ret)) (.skip))))) (.region false [
 ao 18 (.bin .add (.t 8) (.c (i64 1))),
 ao 8 (.mv (.t 18))] [0,1,7,8])))
def b137l0:AC:= .loop [0,1,7,8] [] d137l0
def b137:AC:=
 .seq (.region false [
 ao 4 (.mv (.c (i64 0)))] [0,1]) (.seq (.seq (.region false [
 ao 6 (.mv (.t 0)),
 ao 7 (.len (.t 6)),
 ao 8 (.mv (.c (i64 0)))] [0,1,7,8]) (.block 0 (b137l0))) (.seq (.region false [
 ao 4 (.mv (.c (i64 (-1))))] [4]) (.ret)))
def a137:AFn:=⟨2,[.t 4],b137,false⟩
def n137:Ann:=⟨[[0,1],[0,1,7,8],[0,1,7,8,9],[0,1,5,7,8],[0,1,5,7,8,16],[4],[0,1,7,8],[4]],[⟨[],[0,1,7,8],[]⟩],[],[],[],false,[]⟩
@[simp] def d138l0:AC:=
 .seq (.region false [
 ao 10 (.bin .lss (.t 9) (.t 8))] [1,2,7,8,9,10]) (.seq (.cond (.t 10) (.skip) (.exit 0)) (.seq (.block 1 (.seq (.region false [
 ao 11 (.mv (.t 9)),
 ao 12 (.idxs 1 (.t 7) (.t 9)),
 ao 13 (.load none (.t 12)),
 ao 5 (.mv (.t 11)),
 ao 6 (.mv (.t 13))] [1,2,5,6,7,8,9]) (.seq (.region false [
 ao 14 (.mv (.t 6)),
 ao 15 (.faddr 1 (.t 2)),
 ao 16 (.load none (.t 15)),
 ao 17 (.bin .sub (.t 16) (.c (i64 1))),
 ao 18 (.call 69 [(.t 14),(.c (i64 0)),(.t 17)]),
 ao 19 (.un .not (.t 18)),
 ao 20 (.mv (.t 19)),
 ag 21 (.mv (.t 5)) 20 false [],
 ag 22 (.bin .gtr (.t 21) (.c (i64 0))) 20 false [],
 ag 23 (.mv (.t 22)) 20 false [],
 ag 24 (.mv (.t 6)) 23 true [],
 ag 25 (.mv (.t 1)) 23 true [],
 ag 26 (.mv (.t 5)) 23 true [],
 ag 27 (.bin .sub (.t 26) (.c (i64 1))) 23 true [],
 ag 28 (.idxs 1 (.t 25) (.t 27)) 23 true [],
 ag 29 (.load none (.t 28)) 23 true [],
 ag 30 (.bin .leq (.t 24) (.t 29)) 23 true [],
 ag 31 (.pick (.t 23) (.t 30) (.c (.bool false))) 20 false [],
 ao 32 (.pick (.t 20) (.c (.bool true)) (.t 31))] [1,2,7,8,9,32]) (.cond (.t 32) (.seq (.region false [
 ao 4 (.mv (.c (.bool false)))] [4]) (.ret)) (.skip))))) (.region false [
 ao 33 (.bin .add (.t 9) (.c (i64 1))),
 ao 9 (.mv (.t 33))] [1,2,7,8,9])))
def b138l0:AC:= .loop [1,2,7,8,9] [32] d138l0
def b138:AC:=
 .seq (.region false [
 ao 2 (.box (.t 0)),
 ao 4 (.mv (.c (.bool false)))] [1,2]) (.seq (.seq (.region false [
 ao 7 (.mv (.t 1)),
 ao 8 (.len (.t 7)),
 ao 9 (.mv (.c (i64 0)))] [1,2,7,8,9]) (.block 0 (b138l0))) (.seq (.region false [
 ao 4 (.mv (.c (.bool true)))] [4]) (.ret)))
def a138:AFn:=⟨2,[.t 4],b138,false⟩
def n138:Ann:=⟨[[1,2],[1,2,7,8,9],[1,2,7,8,9,10],[1,2,5,6,7,8,9],[1,2,7,8,9,32],[4],[1,2,7,8,9],[4]],[⟨[],[1,2,7,8,9],[32]⟩],[],[],[],false,[]⟩
@[simp] def d139l0:AC:=
 .seq (.seq (.region false [
 ao 4 (.mv (.t 0)),
 ao 5 (.bin .neq (.t 4) (.c (.int .u64 0)))] [0,3,5]) (.cond (.t 5) (.skip) (.exit 0))) (.seq (.block 1 (.region false [
 ao 8 (.mv (.t 0)),
 ao 9 (.mv (.t 0)),
 ao 10 (.bin .shl (.t 9) (.c (.int .u64 1))),
 ao 11 (.bin .and (.t 8) (.t 10)),
 ao 0 (.mv (.t 11))] [0,3])) (.region false [
 ao 6 (.mv (.t 3)),
 ao 7 (.bin .add (.t 6) (.c (i64 1))),
 ao 3 (.mv (.t 7))] [0,3]))
def b139l0:AC:= .loop [0,3] [] d139l0
def b139:AC:=
 .seq (.region false [
 ao 2 (.mv (.c (i64 0)))] [0]) (.seq (.region false [
 ao 3 (.mv (.c (i64 0)))] [0,3]) (.seq (.block 0 (b139l0)) (.seq (.region false [
 ao 12 (.mv (.t 3)),
 ao 2 (.mv (.t 12))] [2]) (.ret))))
def a139:AFn:=⟨1,[.t 2],b139,false⟩
def n139:Ann:=⟨[[0],[0,3],[0,3,5],[0,3],[0,3],[2]],[⟨[],[0,3],[]⟩],[],[],[],false,[]⟩
@[simp] def d140l0:AC:=
 .seq (.region false [
 ao 8 (.bin .lss (.t 7) (.t 6))] [2,5,6,7,8]) (.seq (.cond (.t 8) (.skip) (.exit 0)) (.seq (.block 1 (.seq (.region false [
 ao 9 (.idxs 1 (.t 5) (.t 7)),
 ao 10 (.load none (.t 9)),
 ao 4 (.mv (.t 10))] [2,4,5,6,7]) (.region false [
 ao 11 (.mv (.t 2)),
 ao 12 (.mv (.t 4)),
 ao 13 (.bin .shl (.c (.int .u64 1)) (.t 12)),
 ao 14 (.bin .or (.t 11) (.t 13)),
 ao 2 (.mv (.t 14))] [2,5,6,7]))) (.region false [
 ao 15 (.bin .add (.t 7) (.c (i64 1))),
 ao 7 (.mv (.t 15))] [2,5,6,7])))
def b140l0:AC:= .loop [2,5,6,7] [] d140l0
def b140:AC:=
 .seq (.region false [
 ao 2 (.mv (.c (.int .u64 0)))] [0,2]) (.seq (.seq (.region false [
 ao 5 (.mv (.t 0)),
 ao 6 (.len (.t 5)),
 ao 7 (.mv (.c (i64 0)))] [2,5,6,7]) (.block 0 (b140l0))) (.seq (.region false [
 ao 16 (.mv (.t 2)),
 ao 2 (.mv (.t 16))] [2]) (.ret)))
def a140:AFn:=⟨1,[.t 2],b140,false⟩
def n140:Ann:=⟨[[0,2],[2,5,6,7],[2,5,6,7,8],[2,4,5,6,7],[2,5,6,7],[2,5,6,7],[2]],[⟨[],[2,5,6,7],[]⟩],[],[],[],false,[]⟩
@[simp] def d141l1:AC:=
 .seq (.region false [
 ao 35 (.bin .lss (.t 34) (.t 33))] [4,6,7,8,22,23,33,34,35]) (.seq (.cond (.t 35) (.skip) (.exit 2)) (.seq (.block 3 (.seq (.region false [
 ao 36 (.mv (.t 34)),
 ao 9 (.mv (.t 36))] [4,6,7,8,9,22,23,33,34]) (.region true (spl [
 ao 37 (.mv (.t 8)),
 ao 38 (.mv (.t 9)),
 ao 39 (.mv (.t 4)),
 ap 40 (.nilck (.t 39)) [2],
 ap 41 (.faddr 4 (.t 40)) [3,2],
 ao 42 (.mv (.t 4)),
 ao 43 (.mv (.t 7)),
 ao 44 (.mv (.t 9)),
 ap 45 (.call 98 [(.t 42),(.t 43),(.t 44)]) [5,6,7],
 ap 46 (.call 97 [(.t 41),(.c (i64 0)),(.t 45)]) [4,8,3,2,5,6,7],
 ap 47 (.field none 0 (.t 46)) [9,4,8,3,2,5,6,7],
 ao 48 (.mv (.t 4)),
 ap 49 (.nilck (.t 48)) [11],
 ap 50 (.faddr 4 (.t 49)) [12,11],
 ao 51 (.mv (.t 4)),
 ao 52 (.mv (.t 7)),
 ao 53 (.mv (.t 9)),
 ap 54 (.bin .add (.t 53) (.c (i64 1))) [16],
 ap 55 (.call 98 [(.t 51),(.t 52),(.t 54)]) [14,15,17,9,16,4,8,3,2,5,6,7],
 ap 56 (.call 97 [(.t 50),(.c (i64 0)),(.t 55)]) [13,18,12,11,14,15,17,9,16,4,8,3,2,5,6,7],
 ap 57 (.field none 0 (.t 56)) [19,13,18,12,11,14,15,17,9,16,4,8,3,2,5,6,7],
 ap 58 (.bin .sub (.t 47) (.t 57)) [10,20,19,13,18,12,11,14,15,17,9,16,4,8,3,2,5,6,7]] [
 ap 59 (.idxs 1 (.t 37) (.t 38)) [0,1,21,10,20,19,13,18,12,11,14,15,17,9,16,4,8,3,2,5,6,7],
 ⟨none, .store 1 (.t 59) (.t 58),none,[22,0,1,21,10,20,19,13,18,12,11,14,15,17,9,16,4,8,3,2,5,6,7],[]⟩]) [4,6,7,8,22,23,33,34]))) (.region false [
 ao 60 (.bin .add (.t 34) (.c (i64 1))),
 ao 34 (.mv (.t 60))] [4,6,7,8,22,23,33,34])))
def b141l1:AC:= .loop [4,6,7,8,22,23,33,34] [16,97,192,496,1008,1024] d141l1
@[simp] def d141l0:AC:=
 .seq (.region false [
 ao 24 (.bin .lss (.t 23) (.t 22))] [4,6,22,23,24]) (.seq (.cond (.t 24) (.skip) (.exit 0)) (.seq (.block 1 (.seq (.region false [
 ao 25 (.mv (.t 23)),
 ao 7 (.mv (.t 25))] [4,6,7,22,23]) (.seq (.region false [
 ao 26 (.mv (.t 4)),
 ao 27 (.nilck (.t 26)),
 ao 28 (.faddr 0 (.t 27)),
 ao 29 (.faddr 0 (.t 28)),
 ao 30 (.load none (.t 29)),
 ao 31 (.mksl [(i64 0)] 8 (.t 30) (.t 30)),
 ao 8 (.mv (.t 31))] [4,6,7,8,22,23]) (.seq (.seq (.region false [
 ao 32 (.mv (.t 8)),
 ao 33 (.len (.t 32)),
 ao 34 (.mv (.c (i64 0)))] [4,6,7,8,22,23,33,34]) (.block 2 (b141l1))) (.seq (.freeze [496]) (.region false [
 ao 61 (.mv (.t 6)),
 ao 62 (.mv (.t 8)),
 ao 63 (.lit [(.sl .full 1 [])] 1 [(0,(.t 62))]),
 ao 64 (.app 1 24 (.t 61) (.t 63)),
 ao 6 (.mv (.t 64))] [4,6,22,23])))))) (.region false [
 ao 65 (.bin .add (.t 23) (.c (i64 1))),
 ao 23 (.mv (.t 65))] [4,6,22,23])))
def b141l0:AC:= .loop [4,6,22,23] [16,97,192] d141l0
def b141:AC:=
 .seq (.region false [
 ao 1 (.box (.t 0)),
 ao 2 (.mv (.c (.sl .full 1 []))),
 ao 3 (.mv (.c (i64 0)))] [1]) (.seq (.region false [
 ao 11 (.load (some 4) (.t 1)),
 ao 12 (.call 80 [(.t 11),(.c (.bool true))]),
 ao 10 (.mv (.t 12)),
 ao 13 (.ext (.t 10) 0),
 ao 14 (.ext (.t 10) 1),
 ao 4 (.mv (.t 13)),
 ao 5 (.mv (.t 14))] [4,5]) (.seq (.seq (.region false [
 ao 15 (.mv (.t 5)),
 ao 16 (.bin .neq (.t 15) (.c (i64 0)))] [4,5,16]) (.cond (.t 16) (.seq (.region false [
 ao 17 (.mv (.t 5)),
 ao 2 (.mv (.c (.sl .full 1 []))),
 ao 3 (.mv (.t 17))] [2,3]) (.ret)) (.skip))) (.seq (.region false [
 ao 6 (.mv (.c (.sl .full 1 [])))] [4,6]) (.seq (.seq (.region false [
 ao 18 (.mv (.t 4)),
 ao 19 (.nilck (.t 18)),
 ao 20 (.faddr 0 (.t 19)),
 ao 21 (.faddr 1 (.t 20)),
 ao 22 (.load none (.t 21)),
 ao 23 (.mv (.c (i64 0)))] [4,6,22,23]) (.block 0 (.seq (.thaw 6 97 1) (b141l0)))) (.seq (.region false [
 ao 66 (.mv (.t 6)),
 ao 2 (.mv (.t 66)),
 ao 3 (.mv (.c (i64 0)))] [2,3]) (.ret))))))
def a141:AFn:=⟨1,[.t 2, .t 3],b141,false⟩
def n141:Ann:=⟨[[1],[4,5],[4,5,16],[2,3],[4,6],[4,6,22,23],[4,6,22,23,24],[4,6,7,22,23],[4,6,7,8,22,23],[4,6,7,8,22,23,33,34],[4,6,7,8,22,23,33,34,35],[4,6,7,8,9,22,23,33,34],[4,6,7,8,22,23,33,34],[4,6,7,8,22,23,33,34],[4,6,22,23],[4,6,22,23],[2,3]],[⟨[.t 6 97 1],[4,6,22,23],[16,97,192]⟩,⟨[],[4,6,7,8,22,23,33,34],[16,97,192,496,1008,1024]⟩],[],[[],[],[],[],[],[],[],[],[],[],[],[],[],[],[496],[],[]],[],false,[(51,192),(48,192),(42,192),(39,192),(26,192),(18,192),(3,192),(17,192),(15,192),(5,192),(4,192),(14,192),(13,192),(10,192)]⟩
@[simp] def d142l0:AC:=
 .block 1 (.seq (.region false [
 ao 21 (.mv (.t 2)),
 ao 22 (.mv (.t 1)),
 ao 23 (.bin .sub (.t 21) (.t 22)),
 ao 12 (.mv (.t 23))] [0,1,2,3,4,10,11,12]) (.seq (.seq (.region false [
 ao 24 (.mv (.t 12)),
 ao 25 (.bin .leq (.t 24) (.c (i64 12)))] [0,1,2,3,4,10,11,12,25]) (.cond (.t 25) (.seq (.region false [
 ao 26 (.mv (.t 0)),
 ao 27 (.mv (.t 1)),
 ao 28 (.mv (.t 2)),
 ao 29 (.mv (.t 4)),
 ao 30 (.call 154 [(.t 26),(.t 27),(.t 28),(.t 29)])] []) (.ret)) (.skip))) (.seq (.seq (.region false [
 ao 31 (.mv (.t 3)),
 ao 32 (.bin .eql (.t 31) (.c (i64 0)))] [0,1,2,3,4,10,11,12,32]) (.cond (.t 32) (.seq (.region false [
 ao 33 (.mv (.t 0)),
 ao 34 (.mv (.t 1)),
 ao 35 (.mv (.t 2)),
 ao 36 (.mv (.t 4)),
 ao 37 (.call 155 [(.t 33),(.t 34),(.t 35),(.t 36)])] []) (.ret)) (.skip))) (.seq (.seq (.region false [
 ao 38 (.mv (.t 10)),
 ao 39 (.un .not (.t 38))] [0,1,2,3,4,10,11,12,39]) (.cond (.t 39) (.seq (.region false [
 ao 40 (.mv (.t 0)),
 ao 41 (.mv (.t 1)),
 ao 42 (.mv (.t 2)),
 ao 43 (.mv (.t 4)),
 ao 44 (.call 156 [(.t 40),(.t 41),(.t 42),(.t 43)])] [0,1,2,3,4,10,11,12]) (.region false [
 ao 45 (.mv (.t 3)),
 ao 46 (.bin .sub (.t 45) (.c (i64 1))),
 ao 3 (.mv (.t 46))] [0,1,2,3,4,10,11,12])) (.skip))) (.seq (.region false [
 ao 48 (.mv (.t 0)),
 ao 49 (.mv (.t 1)),
 ao 50 (.mv (.t 2)),
 ao 51 (.mv (.t 4)),
 ao 52 (.call 157 [(.t 48),(.t 49),(.t 50),(.t 51)]),
 ao 47 (.mv (.t 52)),
 ao 53 (.ext (.t 47) 0),
 ao 54 (.ext (.t 47) 1),
 ao 13 (.mv (.t 53)),
 ao 14 (.mv (.t 54))] [0,1,2,3,4,10,11,12,13,14]) (.seq (.seq (.region false [
 ao 55 (.mv (.t 14)),
 ao 56 (.bin .eql (.t 55) (.c (i64 2)))] [0,1,2,3,4,10,11,12,13,14,56]) (.cond (.t 56) (.seq (.region false [
 ao 57 (.mv (.t 0)),
 ao 58 (.mv (.t 1)),
 ao 59 (.mv (.t 2)),
 ao 60 (.mv (.t 4)),
 ao 61 (.call 158 [(.t 57),(.t 58),(.t 59),(.t 60)])] [0,1,2,3,4,10,11,12,13]) (.seq (.region false [
 ao 62 (.mv (.t 2)),
 ao 63 (.bin .sub (.t 62) (.c (i64 1))),
 ao 64 (.mv (.t 13)),
 ao 65 (.mv (.t 1)),
 ao 66 (.bin .sub (.t 64) (.t 65)),
 ao 67 (.bin .sub (.t 63) (.t 66)),
 ao 13 (.mv (.t 67))] [0,1,2,3,4,10,11,12,13]) (.region false [
 ao 14 (.mv (.c (i64 1)))] [0,1,2,3,4,10,11,12,13,14]))) (.skip))) (.seq (.seq (.region false [
 ao 68 (.mv (.t 10)),
 ao 69 (.mv (.t 68)),
 ag 70 (.mv (.t 11)) 69 true [],
 ao 71 (.pick (.t 69) (.t 70) (.c (.bool false))),
 ao 72 (.mv (.t 71)),
 ag 73 (.mv (.t 14)) 72 true [],
 ag 74 (.bin .eql (.t 73) (.c (i64 1))) 72 true [],
 ao 75 (.pick (.t 72) (.t 74) (.c (.bool false)))] [0,1,2,3,4,10,11,12,13,75]) (.cond (.t 75) (.seq (.region false [
 ao 76 (.mv (.t 0)),
 ao 77 (.mv (.t 1)),
 ao 78 (.mv (.t 2)),
 ao 79 (.mv (.t 4)),
 ao 80 (.call 159 [(.t 76),(.t 77),(.t 78),(.t 79)])] [0,1,2,3,4,10,11,12,13,80]) (.cond (.t 80) (.ret) (.skip))) (.skip))) (.seq (.seq (.region true (spl [
 ao 81 (.mv (.t 1)),
 ap 82 (.bin .gtr (.t 81) (.c (i64 0))) [0],
 ap 83 (.mv (.t 82)) [1,0],
 ag 84 (.mv (.t 4)) 83 true [2,1,0],
 ag 85 (.mv (.t 0)) 83 true [2,1,0],
 ag 86 (.mv (.t 1)) 83 true [2,1,0],
 ag 87 (.bin .sub (.t 86) (.c (i64 1))) 83 true [5,2,1,0],
 ag 88 (.idxs 5 (.t 85) (.t 87)) 83 true [4,6,5,2,1,0],
 ag 89 (.load (some 5) (.t 88)) 83 true [7,4,6,5,2,1,0],
 ag 90 (.mv (.t 0)) 83 true [2,1,0],
 ag 91 (.mv (.t 13)) 83 true [2,1,0],
 ag 92 (.idxs 5 (.t 90) (.t 91)) 83 true [9,10,2,1,0],
 ag 93 (.load (some 5) (.t 92)) 83 true [11,9,10,2,1,0]] [
 ag 94 (.callv (.t 84) [(.t 89),(.t 93)]) 83 true [3,8,12,7,4,6,5,11,9,10,2,1,0],
 ag 95 (.bin .lss (.t 94) (.c (i64 0))) 83 true [13,3,8,12,7,4,6,5,11,9,10,2,1,0],
 ag 96 (.un .not (.t 95)) 83 true [14,13,3,8,12,7,4,6,5,11,9,10,2,1,0],
 ap 97 (.pick (.t 83) (.t 96) (.c (.bool false))) [15,14,13,3,8,12,7,4,6,5,11,9,10,2,1,0]]) [0,1,2,3,4,10,11,12,13,97]) (.cond (.t 97) (.seq (.region false [
 ao 98 (.mv (.t 0)),
 ao 99 (.mv (.t 1)),
 ao 100 (.mv (.t 2)),
 ao 101 (.mv (.t 13)),
 ao 102 (.mv (.t 4)),
 ao 103 (.call 160 [(.t 98),(.t 99),(.t 100),(.t 101),(.t 102)]),
 ao 15 (.mv (.t 103))] [0,2,3,4,10,11,15]) (.seq (.region false [
 ao 104 (.mv (.t 15)),
 ao 1 (.mv (.t 104))] [0,1,2,3,4,10,11]) (.exit 1))) (.skip))) (.seq (.region false [
 ao 106 (.mv (.t 0)),
 ao 107 (.mv (.t 1)),
 ao 108 (.mv (.t 2)),
 ao 109 (.mv (.t 13)),
 ao 110 (.mv (.t 4)),
 ao 111 (.call 161 [(.t 106),(.t 107),(.t 108),(.t 109),(.t 110)]),
 ao 105 (.mv (.t 111)),
 ao 112 (.ext (.t 105) 0),
 ao 113 (.ext (.t 105) 1),
 ao 16 (.mv (.t 112)),
 ao 17 (.mv (.t 113))] [0,1,2,3,4,12,16,17]) (.seq (.region false [
 ao 114 (.mv (.t 17)),
 ao 11 (.mv (.t 114))] [0,1,2,3,4,11,12,16]) (.seq (.region false [
 ao 115 (.mv (.t 16)),
 ao 116 (.mv (.t 1)),
 ao 117 (.bin .sub (.t 115) (.t 116)),
 ao 118 (.mv (.t 2)),
 ao 119 (.mv (.t 16)),
 ao 120 (.bin .sub (.t 118) (.t 119)),
 ao 18 (.mv (.t 117)),
 ao 19 (.mv (.t 120))] [0,1,2,3,4,11,12,16,18,19]) (.seq (.region false [
 ao 121 (.mv (.t 12)),
 ao 122 (.bin .quo (.t 121) (.c (i64 8))),
 ao 20 (.mv (.t 122))] [0,1,2,3,4,11,16,18,19,20]) (.seq (.region false [
 ao 123 (.mv (.t 18)),
 ao 124 (.mv (.t 19)),
 ao 125 (.bin .lss (.t 123) (.t 124))] [0,1,2,3,4,11,16,18,19,20,125]) (.cond (.t 125) (.seq (.region false [
 ao 126 (.mv (.t 18)),
 ao 127 (.mv (.t 20)),
 ao 128 (.bin .geq (.t 126) (.t 127)),
 ao 10 (.mv (.t 128))] [0,1,2,3,4,10,11,16]) (.seq (.region false [
 ao 129 (.mv (.t 0)),
 ao 130 (.mv (.t 1)),
 ao 131 (.mv (.t 16)),
 ao 132 (.mv (.t 3)),
 ao 133 (.mv (.t 4)),
 ao 134 (.call 142 [(.t 129),(.t 130),(.t 131),(.t 132),(.t 133)])] [0,2,3,4,10,11,16]) (.region false [
 ao 135 (.mv (.t 16)),
 ao 136 (.bin .add (.t 135) (.c (i64 1))),
 ao 1 (.mv (.t 136))] [0,1,2,3,4,10,11]))) (.seq (.region false [
 ao 137 (.mv (.t 19)),
 ao 138 (.mv (.t 20)),
 ao 139 (.bin .geq (.t 137) (.t 138)),
 ao 10 (.mv (.t 139))] [0,1,2,3,4,10,11,16]) (.seq (.region false [
 ao 140 (.mv (.t 0)),
 ao 141 (.mv (.t 16)),
 ao 142 (.bin .add (.t 141) (.c (i64 1))),
 ao 143 (.mv (.t 2)),
 ao 144 (.mv (.t 3)),
 ao 145 (.mv (.t 4)),
 ao 146 (.call 142 [(.t 140),(.t 142),(.t 143),(.t 144),(.t 145)])] [0,1,3,4,10,11,16]) (.region false [
 ao 147 (.mv (.t 16)),
 ao 2 (.mv (.t 147))] [0,1,2,3,4,10,11])))))))))))))))))
def b142l0:AC:= .loop [0,1,2,3,4,10,11] [] d142l0
def b142:AC:=
 .seq (.region false [
 ao 10 (.mv (.c (.bool true)))] [0,1,2,3,4,10]) (.seq (.region false [
 ao 11 (.mv (.c (.bool true)))] [0,1,2,3,4,10,11]) (.block 0 (b142l0)))
def a142:AFn:=⟨5,[],b142,false⟩
def n142:Ann:=⟨[[0,1,2,3,4,10],[0,1,2,3,4,10,11],[0,1,2,3,4,10,11,12],[0,1,2,3,4,10,11,12,25],[],[0,1,2,3,4,10,11,12,32],[],[0,1,2,3,4,10,11,12,39],[0,1,2,3,4,10,11,12],[0,1,2,3,4,10,11,12],[0,1,2,3,4,10,11,12,13,14],[0,1,2,3,4,10,11,12,13,14,56],[0,1,2,3,4,10,11,12,13],[0,1,2,3,4,10,11,12,13],[0,1,2,3,4,10,11,12,13,14],[0,1,2,3,4,10,11,12,13,75],[0,1,2,3,4,10,11,12,13,80],[0,1,2,3,4,10,11,12,13,97],[0,2,3,4,10,11,15],[0,1,2,3,4,10,11],[0,1,2,3,4,12,16,17],[0,1,2,3,4,11,12,16],[0,1,2,3,4,11,12,16,18,19],[0,1,2,3,4,11,16,18,19,20],[0,1,2,3,4,11,16,18,19,20,125],[0,1,2,3,4,10,11,16],[0,2,3,4,10,11,16],[0,1,2,3,4,10,11],[0,1,2,3,4,10,11,16],[0,1,3,4,10,11,16],[0,1,2,3,4,10,11]],[⟨[],[0,1,2,3,4,10,11],[]⟩],[],[],[],false,[(143,1776),(118,1776),(108,1776),(100,1776),(99,1648),(86,1648),(81,1648),(78,1776),(77,1648),(70,1776),(65,1648),(62,1776),(59,1776),(58,1648),(50,1776),(49,1648),(42,1776),(41,1648),(35,1776),(34,1648),(28,1776),(27,1648),(22,1648),(21,1776),(2,1776),(147,1776),(141,1776),(135,1776),(131,1776),(130,1648),(119,1776),(116,1648),(115,1776),(11,1776),(114,1776),(17,1776),(16,1776),(113,1776),(112,1776),(105,1776),(109,832),(107,1648),(1,1648),(104,1648),(15,1648),(101,832),(91,832),(73,832),(64,832),(55,832),(14,832),(13,832),(54,832),(53,832),(47,832)]⟩
def b143:AC:=
 .seq (.region false [
 ao 2 (.mv (.c (i64 0)))] [0]) (.seq (.cond (.c (.bool false)) (.seq (.region false [
 ao 3 (.mv (.t 0)),
 ao 4 (.conv .u32 (.t 3)),
 ao 5 (.call 162 [(.t 4)]),
 ao 2 (.mv (.t 5))] [2]) (.ret)) (.skip)) (.seq (.region false [
 ao 6 (.mv (.t 0)),
 ao 7 (.call 163 [(.t 6)]),
 ao 2 (.mv (.t 7))] [2]) (.ret)))
def a143:AFn:=⟨1,[.t 2],b143,false⟩
def n143:Ann:=⟨[[0],[2],[2]],[],[],[],[],false,[(2,80)]⟩
def b144:AC:=
 .seq (.region false [
 ao 4 (.mv (.c (i64 0)))] [0,1]) (.seq (.region false [
 ao 7 (.mv (.t 0)),
 ao 8 (.call 164 [(.t 7)]),
 ao 5 (.mv (.t 8))] [0,1,5]) (.seq (.region false [
 ao 9 (.mv (.t 1)),
 ao 10 (.call 164 [(.t 9)]),
 ao 6 (.mv (.t 10))] [0,1,5,6]) (.seq (.seq (.region false [
 ao 11 (.mv (.t 5))] [0,1,6,11]) (.cond (.t 11) (.seq (.seq (.region false [
 ao 12 (.mv (.t 6))] [12]) (.cond (.t 12) (.seq (.region false [
 ao 4 (.mv (.c (i64 0)))] [4]) (.ret)) (.skip))) (.seq (.region false [
 ao 4 (.mv (.c (i64 (-1))))] [4]) (.ret))) (.skip))) (.seq (.seq (.region false [
 ao 13 (.mv (.t 6))] [0,1,13]) (.cond (.t 13) (.seq (.region false [
 ao 4 (.mv (.c (i64 1)))] [4]) (.ret)) (.skip))) (.seq (.seq (.region false [
 ao 14 (.mv (.t 0)),
 ao 15 (.mv (.t 1)),
 ao 16 (.bin .lss (.t 14) (.t 15))] [0,1,16]) (.cond (.t 16) (.seq (.region false [
 ao 4 (.mv (.c (i64 (-1))))] [4]) (.ret)) (.skip))) (.seq (.seq (.region false [
 ao 17 (.mv (.t 0)),
 ao 18 (.mv (.t 1)),
 ao 19 (.bin .gtr (.t 17) (.t 18))] [19]) (.cond (.t 19) (.seq (.region false [
 ao 4 (.mv (.c (i64 1)))] [4]) (.ret)) (.skip))) (.seq (.region false [
 ao 4 (.mv (.c (i64 0)))] [4]) (.ret))))))))
def a144:AFn:=⟨2,[.t 4],b144,false⟩
def n144:Ann:=⟨[[0,1],[0,1,5],[0,1,5,6],[0,1,6,11],[12],[4],[4],[0,1,13],[4],[0,1,16],[4],[19],[4],[4]],[],[],[],[],false,[(13,160),(12,160),(11,128),(6,160),(5,128)]⟩
def b145:AC:=
 .seq (.region false [
 ao 2 (.mv (.c (i64 0)))] [0]) (.seq (.region true (spl [
 ao 3 (.mv (.t 0)),
 ap 4 (.bin .shr (.t 3) (.c (.int .u64 24))) [0],
 ap 5 (.strix [0,1,1,2,1,2,2,3,1,2,2,3,2,3,3,4,1,2,2,3,2,3,3,4,2,3,3,4,3,4,4,5,1,2,2,3,2,3,3,4,2,3,3,4,3,4,4,5,2,3,3,4,3,4,4,5,3,4,4,5,4,5,5,6,1,2,2,3,2,3,3,4,2,3,3,4,3,4,4,5,2,3,3,4,3,4,4,5,3,4,4,5,4,5,5,6,2,3,3,4,3,4,4,5,3,4,4,5,4,5,5,6,3,4,4,5,4,5,5,6,4,5,5,6,5,6,6,7,1,2,2,3,2,3,3,4,2,3,3,4,3,4,4,5,2,3,3,4,3,4,4,5,3,4,4,5,4,5,5,6,2,3,3,4,3,4,4,5,3,4,4,5,4,5,5,6,3,4,4,5,4,5,5,6,4,5,5,6,5,6,6,7,2,3,3,4,3,4,4,5,3,4,4,5,4,5,5,6,3,4,4,5,4,5,5,6,4,5,5,6,5,6,6,7,3,4,4,5,4,5,5,6,4,5,5,6,5,6,6,7,4,5,5,6,5,6,6,7,5,6,6,7,6,7,7,8] (.t 4)) [1,0],
 ao 6 (.mv (.t 0)),
 ap 7 (.bin .shr (.t 6) (.c (.int .u64 16))) [3],
 ap 8 (.bin .and (.t 7) (.c (.int .u32 255))) [4,3],
 ap 9 (.strix [0,1,1,2,1,2,2,3,1,2,2,3,2,3,3,4,1,2,2,3,2,3,3,4,2,3,3,4,3,4,4,5,1,2,2,3,2,3,3,4,2,3,3,4,3,4,4,5,2,3,3,4,3,4,4,5,3,4,4,5,4,5,5,6,1,2,2,3,2,3,3,4,2,3,3,4,3,4,4,5,2,3,3,4,3,4,4,5,3,4,4,5,4,5,5,6,2,3,3,4,3,4,4,5,3,4,4,5,4,5,5,6,3,4,4,5,4,5,5,6,4,5,5,6,5,6,6,7,1,2,2,3,2,3,3,4,2,3,3,4,3,4,4,5,2,3,3,4,3,4,4,5,3,4,4,5,4,5,5,6,2,3,3,4,3,4,4,5,3,4,4,5,4,5,5,6,3,4,4,5,4,5,5,6,4,5,5,6,5,6,6,7,2,3,3,4,3,4,4,5,3,4,4,5,4,5,5,6,3,4,4,5,4,5,5,6,4,5,5,6,5,6,6,7,3,4,4,5,4,5,5,6,4,5,5,6,5,6,6,7,4,5,5,6,5,6,6,7,5,6,6,7,6,7,7,8] (.t 8)) [5,4,3],
 ap 10 (.bin .add (.t 5) (.t 9)) [2,6,1,0,5,4,3],
 ao 11 (.mv (.t 0)),
 ap 12 (.bin .shr (.t 11) (.c (.int .u64 8))) [8],
 ap 13 (.bin .and (.t 12) (.c (.int .u32 255))) [9,8],
 ap 14 (.strix [0,1,1,2,1,2,2,3,1,2,2,3,2,3,3,4,1,2,2,3,2,3,3,4,2,3,3,4,3,4,4,5,1,2,2,3,2,3,3,4,2,3,3,4,3,4,4,5,2,3,3,4,3,4,4,5,3,4,4,5,4,5,5,6,1,2,2,3,2,3,3,4,2,3,3,4,3,4,4,5,2,3,3,4,3,4,4,5,3,4,4,5,4,5,5,6,2,3,3,4,3,4,4,5,3,4,4,5,4,5,5,6,3,4,4,5,4,5,5,6,4,5,5,6,5,6,6,7,1,2,2,3,2,3,3,4,2,3,3,4,3,4,4,5,2,3,3,4,3,4,4,5,3,4,4,5,4,5,5,6,2,3,3,4,3,4,4,5,3,4,4,5,4,5,5,6,3,4,4,5,4,5,5,6,4,5,5,6,5,6,6,7,2,3,3,4,3,4,4,5,3,4,4,5,4,5,5,6,3,4,4,5,4,5,5,6,4,5,5,6,5,6,6,7,3,4,4,5,4,5,5,6,4,5,5,6,5,6,6,7,4,5,5,6,5,6,6,7,5,6,6,7,6,7,7,8] (.t 13)) [10,9,8],
 ap 15 (.bin .add (.t 10) (.t 14)) [7,11,2,6,1,0,5,4,3,10,9,8],
 ao 16 (.mv (.t 0)),
 ap 17 (.bin .and (.t 16) (.c (.int .u32 255))) [13],
 ap 18 (.strix [0,1,1,2,1,2,2,3,1,2,2,3,2,3,3,4,1,2,2,3,2,3,3,4,2,3,3,4,3,4,4,5,1,2,2,3,2,3,3,4,2,3,3,4,3,4,4,5,2,3,3,4,3,4,4,5,3,4,4,5,4,5,5,6,1,2,2,3,2,3,3,4,2,3,3,4,3,4,4,5,2,3,3,4,3,4,4,5,3,4,4,5,4,5,5,6,2,3,3,4,3,4,4,5,3,4,4,5,4,5,5,6,3,4,4,5,4,5,5,6,4,5,5,6,5,6,6,7,1,2,2,3,2,3,3,4,2,3,3,4,3,4,4,5,2,3,3,4,3,4,4,5,3,4,4,5,4,5,5,6,2,3,3,4,3,4,4,5,3,4,4,5,4,5,5,6,3,4,4,5,4,5,5,6,4,5,5,6,5,6,6,7,2,3,3,4,3,4,4,5,3,4,4,5,4,5,5,6,3,4,4,5,4,5,5,6,4,5,5,6,5,6,6,7,3,4,4,5,4,5,5,6,4,5,5,6,5,6,6,7,4,5,5,6,5,6,6,7,5,6,6,7,6,7,7,8] (.t 17)) [14,13]] [
 ap 19 (.bin .add (.t 15) (.t 18)) [12,15,7,11,2,6,1,0,5,4,3,10,9,8,14,13],
 ap 20 (.conv .i64 (.t 19)) [16,12,15,7,11,2,6,1,0,5,4,3,10,9,8,14,13],
 ap 2 (.mv (.t 20)) [17,16,12,15,7,11,2,6,1,0,5,4,3,10,9,8,14,13]]) [2]) (.ret))
def a145:AFn:=⟨1,[.t 2],b145,false⟩
def n145:Ann:=⟨[[0],[2]],[],[],[],[],false,[]⟩
def b146:AC:=
 .seq (.region false [
 ao 2 (.mv (.c (i64 0)))] [0]) (.seq (.region false [
 ao 3 (.mv (.t 0)),
 ao 4 (.bin .shr (.t 3) (.c (.int .u64 1))),
 ao 5 (.bin .and (.t 4) (.c (.int .u64 6148914691236517205))),
 ao 6 (.mv (.t 0)),
 ao 7 (.bin .and (.t 6) (.c (.int .u64 6148914691236517205))),
 ao 8 (.bin .add (.t 5) (.t 7)),
 ao 0 (.mv (.t 8))] [0]) (.seq (.region false [
 ao 9 (.mv (.t 0)),
 ao 10 (.bin .shr (.t 9) (.c (.int .u64 2))),
 ao 11 (.bin .and (.t 10) (.c (.int .u64 3689348814741910323))),
 ao 12 (.mv (.t 0)),
 ao 13 (.bin .and (.t 12) (.c (.int .u64 3689348814741910323))),
 ao 14 (.bin .add (.t 11) (.t 13)),
 ao 0 (.mv (.t 14))] [0]) (.seq (.region false [
 ao 15 (.mv (.t 0)),
 ao 16 (.bin .shr (.t 15) (.c (.int .u64 4))),
 ao 17 (.mv (.t 0)),
 ao 18 (.bin .add (.t 16) (.t 17)),
 ao 19 (.bin .and (.t 18) (.c (.int .u64 1085102592571150095))),
 ao 0 (.mv (.t 19))] [0]) (.seq (.region false [
 ao 20 (.mv (.t 0)),
 ao 21 (.mv (.t 0)),
 ao 22 (.bin .shr (.t 21) (.c (.int .u64 8))),
 ao 23 (.bin .add (.t 20) (.t 22)),
 ao 0 (.mv (.t 23))] [0]) (.seq (.region false [
 ao 24 (.mv (.t 0)),
 ao 25 (.mv (.t 0)),
 ao 26 (.bin .shr (.t 25) (.c (.int .u64 16))),
 ao 27 (.bin .add (.t 24) (.t 26)),
 ao 0 (.mv (.t 27))] [0]) (.seq (.region false [
 ao 28 (.mv (.t 0)),
 ao 29 (.mv (.t 0)),
 ao 30 (.bin .shr (.t 29) (.c (.int .u64 32))),
 ao 31 (.bin .add (.t 28) (.t 30)),
 ao 0 (.mv (.t 31))] [0]) (.seq (.region false [
 ao 32 (.mv (.t 0)),
 ao 33 (.conv .i64 (.t 32)),
 ao 34 (.bin .and (.t 33) (.c (i64 127))),
 ao 2 (.mv (.t 34))] [2]) (.ret))))))))
def a146:AFn:=⟨1,[.t 2],b146,false⟩
def n146:Ann:=⟨[[0],[0],[0],[0],[0],[0],[0],[2]],[],[],[],[],false,[]⟩
def b147:AC:=
 .seq (.region false [
 ao 4 (.mv (.c (.bool false)))] [0,1]) (.seq (.region false [
 ao 5 (.mv (.t 0)),
 ao 6 (.mv (.t 1)),
 ao 7 (.call 165 [(.t 5),(.t 6)]),
 ao 8 (.bin .geq (.t 7) (.c (i64 0))),
 ao 4 (.mv (.t 8))] [4]) (.ret))
def a147:AFn:=⟨2,[.t 4],b147,false⟩
def n147:Ann:=⟨[[0,1],[4]],[],[],[],[],false,[]⟩
def b148:AC:=
 .seq (.region false [
 ao 2 (.box (.t 0)),
 ao 3 (.mv (.c (.bool false)))] [1,2]) (.seq (.region false [
 ao 4 (.load (some 4) (.t 1)),
 ao 5 (.load (some 4) (.t 2)),
 ao 6 (.call 149 [(.t 4),(.t 5)]),
 ao 7 (.un .not (.t 6)),
 ao 3 (.mv (.t 7))] [3]) (.ret))
def a148:AFn:=⟨2,[.t 3],b148,false⟩
def n148:Ann:=⟨[[1,2],[3]],[],[],[],[],false,[]⟩
def b149:AC:=
 .seq (.region false [
 ao 2 (.box (.t 0)),
 ao 3 (.box (.t 1)),
 ao 4 (.mv (.c (.bool false)))] [2,3]) (.seq (.region false [
 ao 5 (.load (some 4) (.t 2)),
 ao 6 (.faddr 0 (.t 3)),
 ao 7 (.load none (.t 6)),
 ao 8 (.faddr 1 (.t 3)),
 ao 9 (.load none (.t 8)),
 ao 10 (.call 81 [(.t 5),(.t 7),(.t 9)]),
 ao 11 (.mv (.t 10)),
 ag 12 (.faddr 2 (.t 3)) 11 true [],
 ag 13 (.load none (.t 12)) 11 true [],
 ag 14 (.faddr 3 (.t 3)) 11 true [],
 ag 15 (.load none (.t 14)) 11 true [],
 ag 16 (.call 96 [(.t 13),(.c (i64 0)),(.t 15)]) 11 true [],
 ao 17 (.pick (.t 11) (.t 16) (.c (.bool false))),
 ao 18 (.mv (.t 17)),
 ag 19 (.faddr 3 (.t 3)) 18 true [],
 ag 20 (.load none (.t 19)) 18 true [],
 ag 21 (.bin .leq (.t 20) (.c (i64 40))) 18 true [],
 ao 22 (.pick (.t 18) (.t 21) (.c (.bool false))),
 ao 4 (.mv (.t 22))] [4]) (.ret))
def a149:AFn:=⟨2,[.t 4],b149,false⟩
def n149:Ann:=⟨[[2,3],[4]],[],[],[],[],false,[(11,160)]⟩
def b150:AC:=
 .seq (.region false [
 ao 7 (.box (.t 3))] [0,1,2,7]) (.seq (.region false [
 ao 8 (.mv (.t 0)),
 ao 9 (.mv (.t 1)),
 ao 10 (.mv (.t 2)),
 ao 11 (.faddr 1 (.t 7)),
 ao 12 (.load none (.t 11)),
 ao 13 (.call 124 [(.t 8),(.t 9),(.t 10),(.t 12)])] [0,1,2,7]) (.region false [
 ao 14 (.mv (.t 0)),
 ao 15 (.mv (.t 2)),
 ao 16 (.mv (.t 1)),
 ao 17 (.faddr 0 (.t 7)),
 ao 18 (.load none (.t 17)),
 ao 19 (.un .neg (.t 18)),
 ao 20 (.call 124 [(.t 14),(.t 15),(.t 16),(.t 19)])] []))
def a150:AFn:=⟨4,[],b150,false⟩
def n150:Ann:=⟨[[0,1,2,7],[0,1,2,7],[]],[],[],[],[],false,[]⟩
@[simp] def d154l1:AC:=
 .seq (.seq (.region true (spl [
 ao 18 (.mv (.t 9)),
 ao 19 (.mv (.t 1)),
 ap 20 (.bin .gtr (.t 18) (.t 19)) [0,1],
 ap 21 (.mv (.t 20)) [2,0,1],
 ag 22 (.mv (.t 3)) 21 true [3,2,0,1],
 ag 23 (.mv (.t 0)) 21 true [3,2,0,1],
 ag 24 (.mv (.t 9)) 21 true [3,2,0,1],
 ag 25 (.idxs 5 (.t 23) (.t 24)) 21 true [5,6,3,2,0,1],
 ag 26 (.load (some 5) (.t 25)) 21 true [7,5,6,3,2,0,1],
 ag 27 (.mv (.t 0)) 21 true [3,2,0,1],
 ag 28 (.mv (.t 9)) 21 true [3,2,0,1],
 ag 29 (.bin .sub (.t 28) (.c (i64 1))) 21 true [10,3,2,0,1],
 ag 30 (.idxs 5 (.t 27) (.t 29)) 21 true [9,11,10,3,2,0,1],
 ag 31 (.load (some 5) (.t 30)) 21 true [12,9,11,10,3,2,0,1]] [
 ag 32 (.callv (.t 22) [(.t 26),(.t 31)]) 21 true [4,8,13,7,5,6,12,9,11,10,3,2,0,1],
 ag 33 (.bin .lss (.t 32) (.c (i64 0))) 21 true [14,4,8,13,7,5,6,12,9,11,10,3,2,0,1],
 ap 34 (.pick (.t 21) (.t 33) (.c (.bool false))) [15,14,4,8,13,7,5,6,12,9,11,10,3,2,0,1]]) [0,1,2,3,8,9,34]) (.cond (.t 34) (.skip) (.exit 2))) (.seq (.block 3 (.region true (spl [
 ao 37 (.mv (.t 0)),
 ao 38 (.mv (.t 9)),
 ⟨(some 39), .mv (.t 0),none,[],[816]⟩,
 ⟨(some 40), .mv (.t 9),none,[],[816]⟩,
 ⟨(some 41), .bin .sub (.t 40) (.c (i64 1)),none,[3],[816]⟩,
 ao 42 (.mv (.t 0)),
 ao 43 (.mv (.t 9)),
 ap 44 (.bin .sub (.t 43) (.c (i64 1))) [6],
 ap 45 (.idxs 5 (.t 42) (.t 44)) [5,7,6],
 ap 46 (.load (some 5) (.t 45)) [8,5,7,6],
 ao 47 (.mv (.t 0)),
 ao 48 (.mv (.t 9)),
 ap 49 (.idxs 5 (.t 47) (.t 48)) [10,11],
 ap 50 (.load (some 5) (.t 49)) [12,10,11],
 ap 51 (.idxs 5 (.t 37) (.t 38)) [0,1,9,13,8,5,7,6,12,10,11],
 ⟨none, .store 5 (.t 51) (.t 46),none,[14,0,1,9,13,8,5,7,6,12,10,11],[]⟩] [
 ap 52 (.idxs 5 (.t 39) (.t 41)) [2,4,15,3,14,0,1,9,13,8,5,7,6,12,10,11],
 ⟨none, .store 5 (.t 52) (.t 50),none,[16,2,4,15,3,14,0,1,9,13,8,5,7,6,12,10,11],[]⟩]) [0,1,2,3,8,9])) (.region false [
 ao 35 (.mv (.t 9)),
 ao 36 (.bin .sub (.t 35) (.c (i64 1))),
 ao 9 (.mv (.t 36))] [0,1,2,3,8,9]))
def b154l1:AC:= .loop [0,1,2,3,8,9] [] d154l1
@[simp] def d154l0:AC:=
 .seq (.seq (.region false [
 ao 12 (.mv (.t 8)),
 ao 13 (.mv (.t 2)),
 ao 14 (.bin .lss (.t 12) (.t 13))] [0,1,2,3,8,14]) (.cond (.t 14) (.skip) (.exit 0))) (.seq (.block 1 (.seq (.region false [
 ao 17 (.mv (.t 8)),
 ao 9 (.mv (.t 17))] [0,1,2,3,8,9]) (.block 2 (b154l1)))) (.region false [
 ao 15 (.mv (.t 8)),
 ao 16 (.bin .add (.t 15) (.c (i64 1))),
 ao 8 (.mv (.t 16))] [0,1,2,3,8]))
def b154l0:AC:= .loop [0,1,2,3,8] [] d154l0
def b154:AC:=
 .seq (.region false [
 ao 10 (.mv (.t 1)),
 ao 11 (.bin .add (.t 10) (.c (i64 1))),
 ao 8 (.mv (.t 11))] [0,1,2,3,8]) (.block 0 (b154l0))
def a154:AFn:=⟨4,[],b154,false⟩
def n154:Ann:=⟨[[0,1,2,3,8],[0,1,2,3,8,14],[0,1,2,3,8,9],[0,1,2,3,8,9,34],[0,1,2,3,8,9],[0,1,2,3,8,9],[0,1,2,3,8]],[⟨[],[0,1,2,3,8],[]⟩,⟨[],[0,1,2,3,8,9],[]⟩],[],[],[],false,[]⟩
def b163:AC:=
 .seq (.region false [
 ao 2 (.mv (.c (i64 0)))] [0,2]) (.seq (.seq (.region false [
 ao 3 (.mv (.t 0)),
 ao 4 (.bin .geq (.t 3) (.c (.int .u64 4294967296)))] [0,2,4]) (.cond (.t 4) (.seq (.region false [
 ao 5 (.mv (.t 0)),
 ao 6 (.bin .shr (.t 5) (.c (.int .u64 32))),
 ao 0 (.mv (.t 6))] [0]) (.region false [
 ao 2 (.mv (.c (i64 32)))] [0,2])) (.skip))) (.seq (.seq (.region false [
 ao 7 (.mv (.t 0)),
 ao 8 (.bin .geq (.t 7) (.c (.int .u64 65536)))] [0,2,8]) (.cond (.t 8) (.seq (.region false [
 ao 9 (.mv (.t 0)),
 ao 10 (.bin .shr (.t 9) (.c (.int .u64 16))),
 ao 0 (.mv (.t 10))] [0,2]) (.region false [
 ao 11 (.mv (.t 2)),
 ao 12 (.bin .add (.t 11) (.c (i64 16))),
 ao 2 (.mv (.t 12))] [0,2])) (.skip))) (.seq (.seq (.region false [
 ao 13 (.mv (.t 0)),
 ao 14 (.bin .geq (.t 13) (.c (.int .u64 256)))] [0,2,14]) (.cond (.t 14) (.seq (.region false [
 ao 15 (.mv (.t 0)),
 ao 16 (.bin .shr (.t 15) (.c (.int .u64 8))),
 ao 0 (.mv (.t 16))] [0,2]) (.region false [
 ao 17 (.mv (.t 2)),
 ao 18 (.bin .add (.t 17) (.c (i64 8))),
 ao 2 (.mv (.t 18))] [0,2])) (.skip))) (.seq (.region false [
 ao 19 (.mv (.t 2)),
 ao 20 (.mv (.t 0)),
 ao 21 (.conv .u8 (.t 20)),
 ao 22 (.strix [0,1,2,2,3,3,3,3,4,4,4,4,4,4,4,4,5,5,5,5,5,5,5,5,5,5,5,5,5,5,5,5,6,6,6,6,6,6,6,6,6,6,6,6,6,6,6,6,6,6,6,6,6,6,6,6,6,6,6,6,6,6,6,6,7,7,7,7,7,7,7,7,7,7,7,7,7,7,7,7,7,7,7,7,7,7,7,7,7,7,7,7,7,7,7,7,7,7,7,7,7,7,7,7,7,7,7,7,7,7,7,7,7,7,7,7,7,7,7,7,7,7,7,7,7,7,7,7,8,8,8,8,8,8,8,8,8,8,8,8,8,8,8,8,8,8,8,8,8,8,8,8,8,8,8,8,8,8,8,8,8,8,8,8,8,8,8,8,8,8,8,8,8,8,8,8,8,8,8,8,8,8,8,8,8,8,8,8,8,8,8,8,8,8,8,8,8,8,8,8,8,8,8,8,8,8,8,8,8,8,8,8,8,8,8,8,8,8,8,8,8,8,8,8,8,8,8,8,8,8,8,8,8,8,8,8,8,8,8,8,8,8,8,8,8,8,8,8,8,8,8,8,8,8,8,8] (.t 21)),
 ao 23 (.conv .i64 (.t 22)),
 ao 24 (.bin .add (.t 19) (.t 23)),
 ao 2 (.mv (.t 24))] [2]) (.ret)))))
def a163:AFn:=⟨1,[.t 2],b163,false⟩
def n163:Ann:=⟨[[0,2],[0,2,4],[0],[0,2],[0,2,8],[0,2],[0,2],[0,2,14],[0,2],[0,2],[2]],[],[],[],[],false,[]⟩
def b164:AC:=
 .seq (.region false [
 ao 2 (.mv (.c (.bool false)))] [0]) (.seq (.region false [
 ao 3 (.mv (.t 0)),
 ao 4 (.mv (.t 0)),
 ao 5 (.bin .neq (.t 3) (.t 4)),
 ao 2 (.mv (.t 5))] [2]) (.ret))
def a164:AFn:=⟨1,[.t 2],b164,false⟩
def n164:Ann:=⟨[[0],[2]],[],[],[],[],false,[]⟩
@[simp] def d165l0:AC:=
 .seq (.region false [
 ao 9 (.bin .lss (.t 8) (.t 7))] [0,1,7,8,9]) (.seq (.cond (.t 9) (.skip) (.exit 0)) (.seq (.block 1 (.seq (.region false [
 ao 10 (.mv (.t 8)),
 ao 5 (.mv (.t 10))] [0,1,5,7,8]) (.seq (.region false [
 ao 11 (.mv (.t 1)),
 ao 12 (.mv (.t 0)),
 ao 13 (.mv (.t 5)),
 ao 14 (.idxs 4 (.t 12) (.t 13)),
 ao 15 (.load (some 4) (.t 14)),
 ao 16 (.callv (.t 11) [(.t 15)])] [0,1,5,7,8,16]) (.cond (.t 16) (.seq (.region false [
 ao 17 (.mv (.t 5)),
 ao 4 (.mv (.t 17))] [4]) (.ret)) (.skip))))) (.region false [
 ao 18 (.bin .add (.t 8) (.c (i64 1))),
 ao 8 (.mv (.t 18))] [0,1,7,8])))
def b165l0:AC:= .loop [0,1,7,8] [] d165l0
def b165:AC:=
 .seq (.region false [
 ao 4 (.mv (.c (i64 0)))] [0,1]) (.seq (.seq (.region false [
 ao 6 (.mv (.t 0)),
 ao 7 (.len (.t 6)),
 ao 8 (.mv (.c (i64 0)))] [0,1,7,8]) (.block 0 (b165l0))) (.seq (.region false [
 ao 4 (.mv (.c (i64 (-1))))] [4]) (.ret)))
def a165:AFn:=⟨2,[.t 4],b165,false⟩
def n165:Ann:=⟨[[0,1],[0,1,7,8],[0,1,7,8,9],[0,1,5,7,8],[0,1,5,7,8,16],[4],[0,1,7,8],[4]],[⟨[],[0,1,7,8],[]⟩],[],[],[],false,[]⟩
end Go.Proofs.YtoedpegjoccnlaaGreat
