/-
  MADE BY PROGRAM (mkt.py, out of what Gen.lean prints): the functions' code for the evaluator.
-/
import Derived.Test.YtoedpegjoccnlaaGreatAb7
set_option linter.unusedSimpArgs false
set_option linter.unusedVariables false
namespace Go.Proofs.YtoedpegjoccnlaaGreat
open Go.Ab
def zeroV(n:Nat):List V:=List.replicate n (i64 0)
@[simp] def d4l0:AC:=
 .seq (.seq (.region false [
 ao 69 (.mv (.t 10)),
 ao 70 (.faddr 1 (.t 3)),
 ao 71 (.load none (.t 70)),
 ao 72 (.bin .lss (.t 69) (.t 71))] [3,4,5,7,8,9,10,72]) (.cond (.t 72) (.skip) (.exit 0))) (.seq (.block 1 (.seq (.region true (spl [
 ao 75 (.faddr 1 (.t 5)),
 ap 76 (.load none (.t 75)) [0],
 ao 77 (.faddr 0 (.t 5)),
 ap 78 (.load none (.t 77)) [2],
 ao 79 (.mv (.t 10)),
 ap 80 (.idxs 1 (.t 78) (.t 79)) [3,4,2],
 ap 81 (.load none (.t 80)) [5,3,4,2],
 ao 82 (.faddr 0 (.t 3)),
 ap 83 (.load none (.t 82)) [7],
 ap 84 (.bin .sub (.t 83) (.c (i64 1))) [8,7],
 ap 85 (.idxs 1 (.t 81) (.t 84)) [6,9,5,3,4,2,8,7],
 ap 86 (.load none (.t 85)) [10,6,9,5,3,4,2,8,7]] [
 ap 87 (.bin .mul (.t 76) (.t 86)) [1,11,0,10,6,9,5,3,4,2,8,7],
 ap 11 (.mv (.t 87)) [12,1,11,0,10,6,9,5,3,4,2,8,7]]) [3,4,5,7,8,9,10,11]) (.region false [
 ao 88 (.faddr 14 (.t 9)),
 ao 89 (.load none (.t 88)),
 ao 90 (.mv (.t 11)),
 ao 91 (.mv (.t 11)),
 ao 92 (.build [(i64 0),(i64 0)] [(0,1,(.t 90)),(1,1,(.t 91))]),
 ao 93 (.lit [(i64 0),(i64 0)] 1 [(0,(.t 92))]),
 ao 94 (.app 2 16 (.t 89) (.t 93)),
 ao 95 (.faddr 14 (.t 9)),
 ⟨none, .store 1 (.t 95) (.t 94),none,[],[]⟩] [3,4,5,7,8,9,10]))) (.region false [
 ao 73 (.mv (.t 10)),
 ao 74 (.bin .add (.t 73) (.c (i64 1))),
 ao 10 (.mv (.t 74))] [3,4,5,7,8,9,10]))
def b4l0:AC:= .loop [3,4,5,7,8,9,10] [48,64,80,112,144,160,224,240,288,320,368,416,496,560,752,864,912,1008,1072,1552,1584,1824,1856,1920,1952,2048,2072,2096,2192,2256,2304,2384,3072,3104,4072,5072,6072,7072,8072,9072] d4l0
def b4:AC:=
 .seq (.region false [
 ao 3 (.box (.t 0)),
 ao 4 (.box (.t 1)),
 ao 5 (.box (.t 2)),
 ao 6 (.mv (.c (.bool false)))] [3,4,5]) (.seq (.seq (.region false [
 ao 22 (.load (some 4) (.t 3)),
 ao 23 (.call 20 [(.t 22)]),
 ao 24 (.mv (.t 23)),
 ag 25 (.load (some 4) (.t 3)) 24 false [],
 ag 26 (.call 21 [(.t 25)]) 24 false [],
 ag 27 (.bin .neq (.t 26) (.c (i64 0))) 24 false [],
 ao 28 (.pick (.t 24) (.c (.bool true)) (.t 27)),
 ao 29 (.mv (.t 28)),
 ag 30 (.load (some 15) (.t 4)) 29 false [],
 ag 31 (.call 22 [(.t 30)]) 29 false [],
 ao 32 (.pick (.t 29) (.c (.bool true)) (.t 31)),
 ao 33 (.mv (.t 32)),
 ag 34 (.load (some 15) (.t 4)) 33 false [],
 ag 35 (.call 23 [(.t 34)]) 33 false [],
 ag 36 (.bin .neq (.t 35) (.c (i64 0))) 33 false [],
 ao 37 (.pick (.t 33) (.c (.bool true)) (.t 36)),
 ao 38 (.mv (.t 37)),
 ag 39 (.faddr 0 (.t 5)) 38 false [],
 ag 40 (.load none (.t 39)) 38 false [],
 ag 41 (.len (.t 40)) 38 false [],
 ag 42 (.bin .gtr (.t 41) (.c (i64 40))) 38 false [],
 ao 43 (.pick (.t 38) (.c (.bool true)) (.t 42)),
 ao 44 (.mv (.t 43)),
 ag 45 (.faddr 1 (.t 5)) 44 false [],
 ag 46 (.load none (.t 45)) 44 false [],
 ag 47 (.call 9 [(.t 46),(.c (i64 0)),(.c (i64 50))]) 44 false [],
 ag 48 (.un .not (.t 47)) 44 false [],
 ao 49 (.pick (.t 44) (.c (.bool true)) (.t 48)),
 ao 50 (.mv (.t 49)),
 ag 51 (.load (some 4) (.t 3)) 50 false [],
 ag 52 (.faddr 0 (.t 5)) 50 false [],
 ag 53 (.load none (.t 52)) 50 false [],
 ag 54 (.call 11 [(.t 51),(.t 53)]) 50 false [],
 ag 55 (.un .not (.t 54)) 50 false [],
 ao 56 (.pick (.t 50) (.c (.bool true)) (.t 55))] [3,4,5,56]) (.cond (.t 56) (.seq (.region false [
 ao 57 (.call 24 []),
 ao 6 (.mv (.t 57))] [6]) (.ret)) (.skip))) (.seq (.region false [
 ao 59 (.load (some 15) (.t 4)),
 ao 60 (.load (some 4) (.t 3)),
 ao 61 (.faddr 1 (.t 5)),
 ao 62 (.load none (.t 61)),
 ao 63 (.call 25 [(.t 59),(.t 60),(.t 62)]),
 ao 58 (.mv (.t 63)),
 ao 64 (.ext (.t 58) 0),
 ao 65 (.ext (.t 58) 1),
 ao 7 (.alloc [(i64 0),(i64 0),(i64 0),(i64 0),(.sl .full 2 []),(.sl .full 2 []),(.sl .full 5 []),(i64 0),(i64 0),(.sl .full 2 []),(.sl .full 2 []),(.sl .full 4 []),(.sl .full 1 []),(.sl .full 1 []),(.sl .full 2 [])]),
 ⟨none, .store 15 (.t 7) (.t 64),none,[],[]⟩,
 ao 8 (.mv (.t 65))] [3,4,5,7,8]) (.seq (.region false [
 ao 66 (.load (some 15) (.t 4)),
 ao 67 (.call 26 [(.t 66)]),
 ao 9 (.alloc [(i64 0),(i64 0),(i64 0),(i64 0),(.sl .full 2 []),(.sl .full 2 []),(.sl .full 5 []),(i64 0),(i64 0),(.sl .full 2 []),(.sl .full 2 []),(.sl .full 4 []),(.sl .full 1 []),(.sl .full 1 []),(.sl .full 2 [])]),
 ⟨none, .store 15 (.t 9) (.t 67),none,[],[]⟩] [3,4,5,7,8,9]) (.seq (.seq (.freeze [1072,2072,3072,4072,5072,6072,7072,8072,9072]) (.region false [
 ao 68 (.faddr 14 (.t 9)),
 ⟨none, .store 1 (.t 68) (.c (.sl .full 2 [])),none,[],[]⟩] [3,4,5,7,8,9])) (.seq (.seq (.region false [
 ao 10 (.mv (.c (i64 0)))] [3,4,5,7,8,9,10]) (.block 0 (.seq (.thawc 9 14 160 2) (b4l0)))) (.seq (.region true (spl [
 ao 96 (.load (some 15) (.t 7)),
 ap 97 (.call 27 [(.t 96)]) [0],
 ao 98 (.load (some 15) (.t 9))] [
 ap 99 (.call 27 [(.t 98)]) [2,1,0],
 ap 12 (.mv (.t 97)) [3,2,1,0],
 ap 13 (.mv (.t 99)) [4,3,2,1,0]]) [3,4,5,7,8,12,13]) (.seq (.seq (.region false [
 ao 100 (.mv (.t 8)),
 ao 101 (.un .not (.t 100)),
 ao 102 (.mv (.t 101)),
 ag 103 (.mv (.t 12)) 102 false [],
 ag 104 (.bin .lss (.t 103) (.c (i64 0))) 102 false [],
 ao 105 (.pick (.t 102) (.c (.bool true)) (.t 104)),
 ao 106 (.mv (.t 105)),
 ag 107 (.mv (.t 12)) 106 false [],
 ag 108 (.mv (.t 13)) 106 false [],
 ag 109 (.bin .gtr (.t 107) (.t 108)) 106 false [],
 ao 110 (.pick (.t 106) (.c (.bool true)) (.t 109))] [3,4,5,7,12,13,110]) (.cond (.t 110) (.seq (.region false [
 ao 6 (.mv (.c (.bool false)))] [6]) (.ret)) (.skip))) (.seq (.seq (.region false [
 ao 111 (.load (some 4) (.t 3)),
 ao 112 (.faddr 2 (.t 5)),
 ao 113 (.load (some 4) (.t 112)),
 ao 114 (.call 28 [(.t 111),(.t 113)]),
 ao 115 (.un .not (.t 114))] [3,4,5,7,12,13,115]) (.cond (.t 115) (.seq (.region false [
 ao 116 (.call 24 []),
 ao 6 (.mv (.t 116))] [6]) (.ret)) (.skip))) (.seq (.region false [
 ao 117 (.load (some 4) (.t 3)),
 ao 118 (.faddr 2 (.t 5)),
 ao 119 (.load (some 4) (.t 118)),
 ao 120 (.call 29 [(.t 117),(.t 119)]),
 ao 14 (.alloc [(i64 0),(i64 0),(.sl .full 1 []),(.sl .full 4 [])]),
 ⟨none, .store 4 (.t 14) (.t 120),none,[],[]⟩] [4,5,7,12,13,14]) (.seq (.seq (.region false [
 ao 121 (.load (some 4) (.t 14)),
 ao 122 (.call 21 [(.t 121)]),
 ao 123 (.bin .neq (.t 122) (.c (i64 0))),
 ao 124 (.mv (.t 123)),
 ag 125 (.load (some 4) (.t 14)) 124 false [],
 ag 126 (.faddr 0 (.t 5)) 124 false [],
 ag 127 (.load none (.t 126)) 124 false [],
 ag 128 (.call 11 [(.t 125),(.t 127)]) 124 false [],
 ag 129 (.un .not (.t 128)) 124 false [],
 ao 130 (.pick (.t 124) (.c (.bool true)) (.t 129))] [4,5,7,12,13,14,130]) (.cond (.t 130) (.seq (.region false [
 ao 131 (.call 24 []),
 ao 6 (.mv (.t 131))] [6]) (.ret)) (.skip))) (.seq (.region false [
 ao 133 (.load (some 15) (.t 4)),
 ao 134 (.load (some 4) (.t 14)),
 ao 135 (.faddr 1 (.t 5)),
 ao 136 (.load none (.t 135)),
 ao 137 (.call 25 [(.t 133),(.t 134),(.t 136)]),
 ao 132 (.mv (.t 137)),
 ao 138 (.ext (.t 132) 0),
 ao 139 (.ext (.t 132) 1),
 ao 15 (.alloc [(i64 0),(i64 0),(i64 0),(i64 0),(.sl .full 2 []),(.sl .full 2 []),(.sl .full 5 []),(i64 0),(i64 0),(.sl .full 2 []),(.sl .full 2 []),(.sl .full 4 []),(.sl .full 1 []),(.sl .full 1 []),(.sl .full 2 [])]),
 ⟨none, .store 15 (.t 15) (.t 138),none,[],[]⟩,
 ao 16 (.mv (.t 139))] [7,12,13,15,16]) (.seq (.region false [
 ao 140 (.load (some 15) (.t 15)),
 ao 141 (.call 27 [(.t 140)]),
 ao 17 (.mv (.t 141))] [7,12,13,15,16,17]) (.seq (.region false [
 ao 143 (.load (some 15) (.t 7)),
 ao 144 (.call 30 [(.t 143)]),
 ao 142 (.mv (.t 144)),
 ao 145 (.ext (.t 142) 0),
 ao 146 (.ext (.t 142) 1),
 ao 18 (.alloc [(i64 0),(i64 0)]),
 ⟨none, .store 2 (.t 18) (.t 145),none,[],[]⟩,
 ao 19 (.mv (.t 146))] [12,13,15,16,17,18,19]) (.seq (.region false [
 ao 148 (.load (some 15) (.t 15)),
 ao 149 (.call 30 [(.t 148)]),
 ao 147 (.mv (.t 149)),
 ao 150 (.ext (.t 147) 0),
 ao 151 (.ext (.t 147) 1),
 ao 20 (.alloc [(i64 0),(i64 0)]),
 ⟨none, .store 2 (.t 20) (.t 150),none,[],[]⟩,
 ao 21 (.mv (.t 151))] [12,13,16,17,18,19,20,21]) (.seq (.seq (.region false [
 ao 152 (.mv (.t 16)),
 ao 153 (.un .not (.t 152)),
 ao 154 (.mv (.t 153)),
 ag 155 (.mv (.t 17)) 154 false [],
 ag 156 (.mv (.t 12)) 154 false [],
 ag 157 (.bin .lss (.t 155) (.t 156)) 154 false [],
 ao 158 (.pick (.t 154) (.c (.bool true)) (.t 157)),
 ao 159 (.mv (.t 158)),
 ag 160 (.mv (.t 17)) 159 false [],
 ag 161 (.mv (.t 13)) 159 false [],
 ag 162 (.bin .gtr (.t 160) (.t 161)) 159 false [],
 ao 163 (.pick (.t 159) (.c (.bool true)) (.t 162)),
 ao 164 (.mv (.t 163)),
 ag 165 (.mv (.t 19)) 164 false [],
 ag 166 (.bin .neq (.t 165) (.c (i64 0))) 164 false [],
 ag 167 (.mv (.t 166)) 164 false [],
 ag 168 (.mv (.t 19)) 167 true [],
 ag 169 (.bin .neq (.t 168) (.c (i64 3))) 167 true [],
 ag 170 (.pick (.t 167) (.t 169) (.c (.bool false))) 164 false [],
 ao 171 (.pick (.t 164) (.c (.bool true)) (.t 170)),
 ao 172 (.mv (.t 171)),
 ag 173 (.mv (.t 19)) 172 false [],
 ag 174 (.bin .eql (.t 173) (.c (i64 0))) 172 false [],
 ag 175 (.mv (.t 174)) 172 false [],
 ag 176 (.mv (.t 21)) 175 true [],
 ag 177 (.bin .neq (.t 176) (.c (i64 0))) 175 true [],
 ag 178 (.mv (.t 177)) 175 true [],
 ag 179 (.faddr 0 (.t 20)) 178 false [],
 ag 180 (.load none (.t 179)) 178 false [],
 ag 181 (.faddr 0 (.t 18)) 178 false [],
 ag 182 (.load none (.t 181)) 178 false [],
 ag 183 (.bin .gtr (.t 180) (.t 182)) 178 false [],
 ag 184 (.pick (.t 178) (.c (.bool true)) (.t 183)) 175 true [],
 ag 185 (.mv (.t 184)) 175 true [],
 ag 186 (.faddr 1 (.t 20)) 185 false [],
 ag 187 (.load none (.t 186)) 185 false [],
 ag 188 (.faddr 1 (.t 18)) 185 false [],
 ag 189 (.load none (.t 188)) 185 false [],
 ag 190 (.bin .gtr (.t 187) (.t 189)) 185 false [],
 ag 191 (.pick (.t 185) (.c (.bool true)) (.t 190)) 175 true [],
 ag 192 (.pick (.t 175) (.t 191) (.c (.bool false))) 172 false [],
 ao 193 (.pick (.t 172) (.c (.bool true)) (.t 192))] [193]) (.cond (.t 193) (.seq (.region false [
 ao 6 (.mv (.c (.bool false)))] [6]) (.ret)) (.skip))) (.seq (.region false [
 ao 194 (.call 24 []),
 ao 6 (.mv (.t 194))] [6]) (.ret)))))))))))))))))
def a4:AFn:=⟨3,[.t 6],b4,false⟩
def n4:Ann:=⟨[[3,4,5],[3,4,5,56],[6],[3,4,5,7,8],[3,4,5,7,8,9],[3,4,5,7,8,9],[3,4,5,7,8,9,10],[3,4,5,7,8,9,10,72],[3,4,5,7,8,9,10,11],[3,4,5,7,8,9,10],[3,4,5,7,8,9,10],[3,4,5,7,8,12,13],[3,4,5,7,12,13,110],[6],[3,4,5,7,12,13,115],[6],[4,5,7,12,13,14],[4,5,7,12,13,14,130],[6],[7,12,13,15,16],[7,12,13,15,16,17],[12,13,15,16,17,18,19],[12,13,16,17,18,19,20,21],[193],[6],[6]],[⟨[.c 9 14 160 2],[3,4,5,7,8,9,10],[48,64,80,112,144,160,224,240,288,320,368,416,496,560,752,864,912,1008,1072,1552,1584,1824,1856,1920,1952,2048,2072,2096,2192,2256,2304,2384,3072,3104,4072,5072,6072,7072,8072,9072]⟩],[],[[],[],[],[],[],[1072,2072,3072,4072,5072,6072,7072,8072,9072],[],[],[],[],[],[],[],[],[],[],[],[],[],[],[],[],[],[],[],[]],[],false,[(176,2384),(173,2304),(168,2304),(165,2304),(161,1584),(160,2256),(156,1552),(155,2256),(152,2192),(21,2384),(151,2384),(150,2384),(147,2384),(19,2304),(146,2304),(145,2304),(142,2304),(17,2256),(16,2192),(139,2192),(138,2192),(132,2192),(108,1584),(107,1552),(103,1552),(100,1008),(13,1584),(12,1552),(8,1008),(65,1008),(64,1008),(58,1008),(6,912),(24,368)]⟩
def b7:AC:=
 .seq (.region false [
 ao 1 (.box (.t 0)),
 ao 2 (.mv (.c (.bool false)))] [1]) (.seq (.region false [
 ao 3 (.faddr 2 (.t 1)),
 ao 4 (.load none (.t 3)),
 ao 5 (.len (.t 4)),
 ao 6 (.bin .gtr (.t 5) (.c (i64 40))),
 ao 7 (.mv (.t 6)),
 ag 8 (.faddr 3 (.t 1)) 7 false [],
 ag 9 (.load none (.t 8)) 7 false [],
 ag 10 (.len (.t 9)) 7 false [],
 ag 11 (.bin .gtr (.t 10) (.c (i64 40))) 7 false [],
 ao 12 (.pick (.t 7) (.c (.bool true)) (.t 11)),
 ao 2 (.mv (.t 12))] [2]) (.ret))
def a7:AFn:=⟨1,[.t 2],b7,false⟩
def n7:Ann:=⟨[[1],[2]],[],[],[],[],false,[]⟩
@[simp] def d8l0:AC:=
 .seq (.seq (.region false [
 ao 24 (.mv (.t 5)),
 ao 25 (.faddr 2 (.t 1)),
 ao 26 (.load none (.t 25)),
 ao 27 (.len (.t 26)),
 ao 28 (.bin .lss (.t 24) (.t 27))] [1,3,4,5,28]) (.cond (.t 28) (.skip) (.exit 0))) (.seq (.block 1 (.seq (.seq (.region false [
 ao 31 (.faddr 2 (.t 1)),
 ao 32 (.load none (.t 31)),
 ao 33 (.mv (.t 5)),
 ao 34 (.idxs 2 (.t 32) (.t 33)),
 ao 35 (.load (some 2) (.t 34)),
 ao 36 (.call 34 [(.t 35),(.c (i64 12))]),
 ao 37 (.un .not (.t 36))] [1,3,4,5,37]) (.cond (.t 37) (.seq (.region false [
 ao 2 (.mv (.c (i64 50)))] [2]) (.ret)) (.skip))) (.region true (spl [
 ao 38 (.mv (.t 3)),
 ao 39 (.faddr 2 (.t 1)),
 ap 40 (.load none (.t 39)) [1],
 ao 41 (.mv (.t 5)),
 ap 42 (.idxs 2 (.t 40) (.t 41)) [2,3,1],
 ap 43 (.faddr 0 (.t 42)) [4,2,3,1],
 ap 44 (.load none (.t 43)) [5,4,2,3,1],
 ap 45 (.bin .add (.t 38) (.t 44)) [0,6,5,4,2,3,1],
 ao 46 (.mv (.t 4)),
 ao 47 (.faddr 2 (.t 1)),
 ap 48 (.load none (.t 47)) [9],
 ao 49 (.mv (.t 5)),
 ap 50 (.idxs 2 (.t 48) (.t 49)) [10,11,9],
 ap 51 (.faddr 1 (.t 50)) [12,10,11,9],
 ap 52 (.load none (.t 51)) [13,12,10,11,9],
 ap 53 (.bin .add (.t 46) (.t 52)) [8,14,13,12,10,11,9],
 ap 3 (.mv (.t 45)) [7,0,6,5,4,2,3,1]] [
 ap 4 (.mv (.t 53)) [15,16,8,14,13,12,10,11,9,7,0,6,5,4,2,3,1]]) [1,3,4,5]))) (.region false [
 ao 29 (.mv (.t 5)),
 ao 30 (.bin .add (.t 29) (.c (i64 1))),
 ao 5 (.mv (.t 30))] [1,3,4,5]))
def b8l0:AC:= .loop [1,3,4,5] [16,112,160,1088,1168] d8l0
@[simp] def d8l1:AC:=
 .seq (.seq (.region false [
 ao 54 (.mv (.t 6)),
 ao 55 (.faddr 3 (.t 1)),
 ao 56 (.load none (.t 55)),
 ao 57 (.len (.t 56)),
 ao 58 (.bin .lss (.t 54) (.t 57))] [1,3,4,6,58]) (.cond (.t 58) (.skip) (.exit 2))) (.seq (.block 3 (.seq (.region false [
 ao 61 (.faddr 3 (.t 1)),
 ao 62 (.load none (.t 61)),
 ao 63 (.mv (.t 6)),
 ao 64 (.idxs 2 (.t 62) (.t 63)),
 ao 65 (.load (some 2) (.t 64)),
 ao 7 (.alloc [(i64 0),(i64 0)]),
 ⟨none, .store 2 (.t 7) (.t 65),none,[],[]⟩] [1,3,4,6,7]) (.seq (.region false [
 ao 66 (.faddr 0 (.t 7)),
 ao 67 (.load none (.t 66)),
 ao 68 (.call 35 [(.t 67),(.c (i64 0)),(.c (i64 999))]),
 ao 69 (.un .not (.t 68)),
 ao 70 (.mv (.t 69)),
 ag 71 (.faddr 1 (.t 7)) 70 false [],
 ag 72 (.load none (.t 71)) 70 false [],
 ag 73 (.call 35 [(.t 72),(.c (i64 0)),(.c (i64 99))]) 70 false [],
 ag 74 (.un .not (.t 73)) 70 false [],
 ao 75 (.pick (.t 70) (.c (.bool true)) (.t 74))] [1,3,4,6,75]) (.cond (.t 75) (.seq (.region false [
 ao 2 (.mv (.c (i64 50)))] [2]) (.ret)) (.skip))))) (.region false [
 ao 59 (.mv (.t 6)),
 ao 60 (.bin .add (.t 59) (.c (i64 1))),
 ao 6 (.mv (.t 60))] [1,3,4,6]))
def b8l1:AC:= .loop [1,3,4,6] [16,160,576] d8l1
def b8:AC:=
 .seq (.region false [
 ao 1 (.box (.t 0)),
 ao 2 (.mv (.c (i64 0)))] [1]) (.seq (.seq (.region false [
 ao 8 (.faddr 0 (.t 1)),
 ao 9 (.load (some 2) (.t 8)),
 ao 10 (.call 34 [(.t 9),(.c (i64 2000))]),
 ao 11 (.un .not (.t 10)),
 ao 12 (.mv (.t 11)),
 ag 13 (.faddr 2 (.t 1)) 12 false [],
 ag 14 (.load none (.t 13)) 12 false [],
 ag 15 (.len (.t 14)) 12 false [],
 ag 16 (.bin .gtr (.t 15) (.c (i64 4))) 12 false [],
 ao 17 (.pick (.t 12) (.c (.bool true)) (.t 16)),
 ao 18 (.mv (.t 17)),
 ag 19 (.faddr 3 (.t 1)) 18 false [],
 ag 20 (.load none (.t 19)) 18 false [],
 ag 21 (.len (.t 20)) 18 false [],
 ag 22 (.bin .gtr (.t 21) (.c (i64 6))) 18 false [],
 ao 23 (.pick (.t 18) (.c (.bool true)) (.t 22))] [1,23]) (.cond (.t 23) (.seq (.region false [
 ao 2 (.mv (.c (i64 50)))] [2]) (.ret)) (.skip))) (.seq (.region false [
 ao 3 (.mv (.c (i64 0))),
 ao 4 (.mv (.c (i64 0)))] [1,3,4]) (.seq (.seq (.region false [
 ao 5 (.mv (.c (i64 0)))] [1,3,4,5]) (.block 0 (b8l0))) (.seq (.seq (.region false [
 ao 6 (.mv (.c (i64 0)))] [1,3,4,6]) (.block 2 (b8l1))) (.seq (.seq (.region false [
 ao 76 (.mv (.t 3)),
 ao 77 (.bin .gtr (.t 76) (.c (i64 12))),
 ao 78 (.mv (.t 77)),
 ag 79 (.mv (.t 4)) 78 false [],
 ag 80 (.bin .lss (.t 79) (.c (i64 12))) 78 false [],
 ao 81 (.pick (.t 78) (.c (.bool true)) (.t 80))] [81]) (.cond (.t 81) (.seq (.region false [
 ao 2 (.mv (.c (i64 50)))] [2]) (.ret)) (.skip))) (.seq (.region false [
 ao 2 (.mv (.c (i64 0)))] [2]) (.ret)))))))
def a8:AFn:=⟨1,[.t 2],b8,false⟩
def n8:Ann:=⟨[[1],[1,23],[2],[1,3,4],[1,3,4,5],[1,3,4,5,28],[1,3,4,5,37],[2],[1,3,4,5],[1,3,4,5],[1,3,4,6],[1,3,4,6,58],[1,3,4,6,7],[1,3,4,6,75],[2],[1,3,4,6],[81],[2],[2]],[⟨[],[1,3,4,5],[16,112,160,1088,1168]⟩,⟨[],[1,3,4,6],[16,160,576]⟩],[],[],[],false,[]⟩
def b9:AC:=
 .seq (.region false [
 ao 6 (.mv (.c (.bool false)))] [0,1,2]) (.seq (.region false [
 ao 7 (.mv (.t 1)),
 ao 8 (.mv (.t 0)),
 ao 9 (.bin .leq (.t 7) (.t 8)),
 ao 10 (.mv (.t 9)),
 ag 11 (.mv (.t 0)) 10 true [],
 ag 12 (.mv (.t 2)) 10 true [],
 ag 13 (.bin .leq (.t 11) (.t 12)) 10 true [],
 ao 14 (.pick (.t 10) (.t 13) (.c (.bool false))),
 ao 6 (.mv (.t 14))] [6]) (.ret))
def a9:AFn:=⟨3,[.t 6],b9,false⟩
def n9:Ann:=⟨[[0,1,2],[6]],[],[],[],[],false,[]⟩
@[simp] def d11l1:AC:=
 .seq (.seq (.region false [
 ao 30 (.mv (.t 6)),
 ao 31 (.mv (.t 1)),
 ao 32 (.mv (.t 5)),
 ao 33 (.idxs 1 (.t 31) (.t 32)),
 ao 34 (.load none (.t 33)),
 ao 35 (.len (.t 34)),
 ao 36 (.bin .lss (.t 30) (.t 35))] [1,2,5,6,36]) (.cond (.t 36) (.skip) (.exit 2))) (.seq (.block 3 (.seq (.region false [
 ao 39 (.mv (.t 1)),
 ao 40 (.mv (.t 5)),
 ao 41 (.idxs 1 (.t 39) (.t 40)),
 ao 42 (.load none (.t 41)),
 ao 43 (.mv (.t 6)),
 ao 44 (.idxs 1 (.t 42) (.t 43)),
 ao 45 (.load none (.t 44)),
 ao 46 (.call 9 [(.t 45),(.c (i64 0)),(.c (i64 40))]),
 ao 47 (.un .not (.t 46))] [1,2,5,6,47]) (.cond (.t 47) (.seq (.region false [
 ao 4 (.mv (.c (.bool false)))] [4]) (.ret)) (.skip)))) (.region false [
 ao 37 (.mv (.t 6)),
 ao 38 (.bin .add (.t 37) (.c (i64 1))),
 ao 6 (.mv (.t 38))] [1,2,5,6]))
def b11l1:AC:= .loop [1,2,5,6] [32] d11l1
@[simp] def d11l2:AC:=
 .seq (.seq (.region false [
 ao 54 (.mv (.t 7)),
 ao 55 (.faddr 0 (.t 2)),
 ao 56 (.load none (.t 55)),
 ao 57 (.bin .lss (.t 54) (.t 56)),
 ao 58 (.mv (.t 57)),
 ag 59 (.mv (.t 5)) 58 true [],
 ag 60 (.bin .gtr (.t 59) (.c (i64 0))) 58 true [],
 ao 61 (.pick (.t 58) (.t 60) (.c (.bool false)))] [1,2,5,7,61]) (.cond (.t 61) (.skip) (.exit 4))) (.seq (.block 5 (.seq (.region true (spl [
 ao 64 (.mv (.t 1)),
 ao 65 (.mv (.t 5)),
 ap 66 (.idxs 1 (.t 64) (.t 65)) [0,1],
 ap 67 (.load none (.t 66)) [2,0,1],
 ao 68 (.mv (.t 7)),
 ap 69 (.call 36 [(.t 67),(.t 68)]) [3,4,2,0,1],
 ao 70 (.mv (.t 1)),
 ao 71 (.mv (.t 5)),
 ap 72 (.bin .sub (.t 71) (.c (i64 1))) [7],
 ap 73 (.idxs 1 (.t 70) (.t 72)) [6,8,7],
 ap 74 (.load none (.t 73)) [9,6,8,7],
 ao 75 (.mv (.t 7))] [
 ap 76 (.call 36 [(.t 74),(.t 75)]) [10,11,5,9,6,8,7,3,4,2,0,1],
 ap 77 (.bin .sub (.t 69) (.t 76)) [12,10,11,5,9,6,8,7,3,4,2,0,1],
 ap 8 (.mv (.t 77)) [13,12,10,11,5,9,6,8,7,3,4,2,0,1]]) [1,2,5,7,8]) (.seq (.region false [
 ao 78 (.mv (.t 8)),
 ao 79 (.bin .lss (.t 78) (.c (i64 0))),
 ao 80 (.mv (.t 79)),
 ag 81 (.mv (.t 8)) 80 false [],
 ag 82 (.bin .gtr (.t 81) (.c (i64 0))) 80 false [],
 ag 83 (.mv (.t 82)) 80 false [],
 ag 84 (.faddr 2 (.t 2)) 83 true [],
 ag 85 (.load none (.t 84)) 83 true [],
 ag 86 (.mv (.t 5)) 83 true [],
 ag 87 (.bin .sub (.t 86) (.c (i64 1))) 83 true [],
 ag 88 (.idxs 1 (.t 85) (.t 87)) 83 true [],
 ag 89 (.load none (.t 88)) 83 true [],
 ag 90 (.mv (.t 7)) 83 true [],
 ag 91 (.call 18 [(.t 89),(.t 90)]) 83 true [],
 ag 92 (.un .not (.t 91)) 83 true [],
 ag 93 (.pick (.t 83) (.t 92) (.c (.bool false))) 80 false [],
 ao 94 (.pick (.t 80) (.c (.bool true)) (.t 93))] [1,2,5,7,94]) (.cond (.t 94) (.seq (.region false [
 ao 4 (.mv (.c (.bool false)))] [4]) (.ret)) (.skip))))) (.region false [
 ao 62 (.mv (.t 7)),
 ao 63 (.bin .add (.t 62) (.c (i64 1))),
 ao 7 (.mv (.t 63))] [1,2,5,7]))
def b11l2:AC:= .loop [1,2,5,7] [32] d11l2
@[simp] def d11l0:AC:=
 .seq (.seq (.region false [
 ao 16 (.mv (.t 5)),
 ao 17 (.mv (.t 1)),
 ao 18 (.len (.t 17)),
 ao 19 (.bin .lss (.t 16) (.t 18))] [1,2,5,19]) (.cond (.t 19) (.skip) (.exit 0))) (.seq (.block 1 (.seq (.seq (.region true (spl [
 ao 22 (.mv (.t 1)),
 ao 23 (.mv (.t 5)),
 ap 24 (.idxs 1 (.t 22) (.t 23)) [0,1],
 ap 25 (.load none (.t 24)) [2,0,1],
 ap 26 (.len (.t 25)) [3,2,0,1],
 ao 27 (.faddr 0 (.t 2)),
 ap 28 (.load none (.t 27)) [5]] [
 ap 29 (.bin .neq (.t 26) (.t 28)) [4,6,3,2,0,1,5]]) [1,2,5,29]) (.cond (.t 29) (.seq (.region false [
 ao 4 (.mv (.c (.bool false)))] [4]) (.ret)) (.skip))) (.seq (.seq (.region false [
 ao 6 (.mv (.c (i64 0)))] [1,2,5,6]) (.block 2 (b11l1))) (.seq (.seq (.region false [
 ao 48 (.mv (.t 1)),
 ao 49 (.mv (.t 5)),
 ao 50 (.idxs 1 (.t 48) (.t 49)),
 ao 51 (.load none (.t 50)),
 ao 52 (.call 36 [(.t 51),(.c (i64 0))]),
 ao 53 (.bin .gtr (.t 52) (.c (i64 40)))] [1,2,5,53]) (.cond (.t 53) (.seq (.region false [
 ao 4 (.mv (.c (.bool false)))] [4]) (.ret)) (.skip))) (.seq (.region false [
 ao 7 (.mv (.c (i64 0)))] [1,2,5,7]) (.block 4 (b11l2))))))) (.region false [
 ao 20 (.mv (.t 5)),
 ao 21 (.bin .add (.t 20) (.c (i64 1))),
 ao 5 (.mv (.t 21))] [1,2,5]))
def b11l0:AC:= .loop [1,2,5] [32] d11l0
@[simp] def d11l3:AC:=
 .seq (.seq (.region false [
 ao 95 (.mv (.t 9)),
 ao 96 (.faddr 3 (.t 2)),
 ao 97 (.load none (.t 96)),
 ao 98 (.len (.t 97)),
 ao 99 (.bin .lss (.t 95) (.t 98))] [1,2,9,99]) (.cond (.t 99) (.skip) (.exit 6))) (.seq (.block 7 (.seq (.region false [
 ao 102 (.faddr 3 (.t 2)),
 ao 103 (.load none (.t 102)),
 ao 104 (.mv (.t 9)),
 ao 105 (.idxs 4 (.t 103) (.t 104)),
 ao 106 (.load (some 4) (.t 105)),
 ao 10 (.alloc [(i64 0),(i64 0),(i64 0),(i64 0)]),
 ⟨none, .store 4 (.t 10) (.t 106),none,[],[]⟩] [1,2,9,10]) (.seq (.region true (spl [
 ao 107 (.mv (.t 1)),
 ao 108 (.faddr 0 (.t 10)),
 ap 109 (.load none (.t 108)) [1],
 ap 110 (.idxs 1 (.t 107) (.t 109)) [0,2,1],
 ap 111 (.load none (.t 110)) [3,0,2,1],
 ao 112 (.faddr 1 (.t 10)),
 ap 113 (.load none (.t 112)) [5],
 ap 114 (.idxs 1 (.t 111) (.t 113)) [4,6,3,0,2,1,5],
 ap 115 (.load none (.t 114)) [7,4,6,3,0,2,1,5],
 ao 116 (.faddr 2 (.t 10)),
 ap 117 (.load none (.t 116)) [9],
 ao 118 (.faddr 3 (.t 10)),
 ap 119 (.load none (.t 118)) [11]] [
 ap 120 (.call 9 [(.t 115),(.t 117),(.t 119)]) [8,10,12,7,4,6,3,0,2,1,5,9,11],
 ap 121 (.un .not (.t 120)) [13,8,10,12,7,4,6,3,0,2,1,5,9,11]]) [1,2,9,121]) (.cond (.t 121) (.seq (.region false [
 ao 4 (.mv (.c (.bool false)))] [4]) (.ret)) (.skip))))) (.region false [
 ao 100 (.mv (.t 9)),
 ao 101 (.bin .add (.t 100) (.c (i64 1))),
 ao 9 (.mv (.t 101))] [1,2,9]))
def b11l3:AC:= .loop [1,2,9] [32] d11l3
def b11:AC:=
 .seq (.region false [
 ao 2 (.box (.t 0)),
 ao 4 (.mv (.c (.bool false)))] [1,2]) (.seq (.seq (.region false [
 ao 11 (.mv (.t 1)),
 ao 12 (.len (.t 11)),
 ao 13 (.faddr 1 (.t 2)),
 ao 14 (.load none (.t 13)),
 ao 15 (.bin .neq (.t 12) (.t 14))] [1,2,15]) (.cond (.t 15) (.seq (.region false [
 ao 4 (.mv (.c (.bool false)))] [4]) (.ret)) (.skip))) (.seq (.seq (.region false [
 ao 5 (.mv (.c (i64 0)))] [1,2,5]) (.block 0 (b11l0))) (.seq (.seq (.region false [
 ao 9 (.mv (.c (i64 0)))] [1,2,9]) (.block 6 (b11l3))) (.seq (.region false [
 ao 4 (.mv (.c (.bool true)))] [4]) (.ret)))))
def a11:AFn:=⟨2,[.t 4],b11,false⟩
def n11:Ann:=⟨[[1,2],[1,2,15],[4],[1,2,5],[1,2,5,19],[1,2,5,29],[4],[1,2,5,6],[1,2,5,6,36],[1,2,5,6,47],[4],[1,2,5,6],[1,2,5,53],[4],[1,2,5,7],[1,2,5,7,61],[1,2,5,7,8],[1,2,5,7,94],[4],[1,2,5,7],[1,2,5],[1,2,9],[1,2,9,99],[1,2,9,10],[1,2,9,121],[4],[1,2,9],[4]],[⟨[],[1,2,5],[32]⟩,⟨[],[1,2,5,6],[32]⟩,⟨[],[1,2,5,7],[32]⟩,⟨[],[1,2,9],[32]⟩],[],[],[],false,[]⟩
@[simp] def d18l0:AC:=
 .seq (.seq (.region false [
 ao 6 (.mv (.t 5)),
 ao 7 (.mv (.t 0)),
 ao 8 (.len (.t 7)),
 ao 9 (.bin .lss (.t 6) (.t 8))] [0,1,5,9]) (.cond (.t 9) (.skip) (.exit 0))) (.seq (.block 1 (.seq (.region false [
 ao 12 (.mv (.t 0)),
 ao 13 (.mv (.t 5)),
 ao 14 (.idxs 1 (.t 12) (.t 13)),
 ao 15 (.load none (.t 14)),
 ao 16 (.mv (.t 1)),
 ao 17 (.bin .eql (.t 15) (.t 16))] [0,1,5,17]) (.cond (.t 17) (.seq (.region false [
 ao 4 (.mv (.c (.bool true)))] [4]) (.ret)) (.skip)))) (.region false [
 ao 10 (.mv (.t 5)),
 ao 11 (.bin .add (.t 10) (.c (i64 1))),
 ao 5 (.mv (.t 11))] [0,1,5]))
def b18l0:AC:= .loop [0,1,5] [] d18l0
def b18:AC:=
 .seq (.region false [
 ao 4 (.mv (.c (.bool false)))] [0,1]) (.seq (.seq (.region false [
 ao 5 (.mv (.c (i64 0)))] [0,1,5]) (.block 0 (b18l0))) (.seq (.region false [
 ao 4 (.mv (.c (.bool false)))] [4]) (.ret)))
def a18:AFn:=⟨2,[.t 4],b18,false⟩
def n18:Ann:=⟨[[0,1],[0,1,5],[0,1,5,9],[0,1,5,17],[4],[0,1,5],[4]],[⟨[],[0,1,5],[]⟩],[],[],[],false,[]⟩
def b20:AC:=
 .seq (.region false [
 ao 1 (.box (.t 0)),
 ao 2 (.mv (.c (.bool false)))] [1]) (.seq (.region false [
 ao 3 (.load (some 4) (.t 1)),
 ao 4 (.call 46 [(.t 3)]),
 ao 5 (.mv (.t 4)),
 ag 6 (.faddr 0 (.t 1)) 5 false [],
 ag 7 (.load none (.t 6)) 5 false [],
 ag 8 (.bin .gtr (.t 7) (.c (i64 3))) 5 false [],
 ag 9 (.mv (.t 8)) 5 false [],
 ag 10 (.faddr 1 (.t 1)) 9 false [],
 ag 11 (.load none (.t 10)) 9 false [],
 ag 12 (.bin .gtr (.t 11) (.c (i64 3))) 9 false [],
 ag 13 (.pick (.t 9) (.c (.bool true)) (.t 12)) 5 false [],
 ag 14 (.mv (.t 13)) 5 false [],
 ag 15 (.load (some 4) (.t 1)) 14 true [],
 ag 16 (.call 21 [(.t 15)]) 14 true [],
 ag 17 (.bin .eql (.t 16) (.c (i64 0))) 14 true [],
 ag 18 (.pick (.t 14) (.t 17) (.c (.bool false))) 5 false [],
 ao 19 (.pick (.t 5) (.c (.bool true)) (.t 18)),
 ao 2 (.mv (.t 19))] [2]) (.ret))
def a20:AFn:=⟨1,[.t 2],b20,false⟩
def n20:Ann:=⟨[[1],[2]],[],[],[],[],false,[(5,64)]⟩
@[simp] def d21l0:AC:=
 .seq (.seq (.region false [
 ao 30 (.mv (.t 3)),
 ao 31 (.faddr 2 (.t 1)),
 ao 32 (.load none (.t 31)),
 ao 33 (.len (.t 32)),
 ao 34 (.bin .lss (.t 30) (.t 33))] [1,3,34]) (.cond (.t 34) (.skip) (.exit 0))) (.seq (.block 1 (.seq (.region true (spl [
 ao 37 (.faddr 2 (.t 1)),
 ap 38 (.load none (.t 37)) [0],
 ao 39 (.mv (.t 3)),
 ap 40 (.idxs 1 (.t 38) (.t 39)) [1,2,0],
 ap 41 (.load none (.t 40)) [3,1,2,0],
 ao 42 (.faddr 0 (.t 1)),
 ap 43 (.load none (.t 42)) [5],
 ap 44 (.bin .sub (.t 43) (.c (i64 1))) [6,5]] [
 ap 45 (.call 33 [(.t 41),(.c (i64 0)),(.t 44)]) [4,7,3,1,2,0,6,5],
 ap 46 (.un .not (.t 45)) [8,4,7,3,1,2,0,6,5]]) [1,3,46]) (.cond (.t 46) (.seq (.region false [
 ao 2 (.mv (.c (i64 10)))] [2]) (.ret)) (.skip)))) (.region false [
 ao 35 (.mv (.t 3)),
 ao 36 (.bin .add (.t 35) (.c (i64 1))),
 ao 3 (.mv (.t 36))] [1,3]))
def b21l0:AC:= .loop [1,3] [16,112,192,960] d21l0
@[simp] def d21l1:AC:=
 .seq (.seq (.region false [
 ao 47 (.mv (.t 4)),
 ao 48 (.faddr 3 (.t 1)),
 ao 49 (.load none (.t 48)),
 ao 50 (.len (.t 49)),
 ao 51 (.bin .lss (.t 47) (.t 50))] [1,4,51]) (.cond (.t 51) (.skip) (.exit 2))) (.seq (.block 3 (.seq (.region true (spl [
 ao 54 (.load (some 4) (.t 1)),
 ao 55 (.faddr 3 (.t 1)),
 ap 56 (.load none (.t 55)) [1],
 ao 57 (.mv (.t 4)),
 ap 58 (.idxs 4 (.t 56) (.t 57)) [2,3,1],
 ap 59 (.load (some 4) (.t 58)) [4,2,3,1]] [
 ap 60 (.call 28 [(.t 54),(.t 59)]) [0,5,4,2,3,1],
 ap 61 (.un .not (.t 60)) [6,0,5,4,2,3,1]]) [1,4,61]) (.cond (.t 61) (.seq (.region false [
 ao 2 (.mv (.c (i64 10)))] [2]) (.ret)) (.skip)))) (.region false [
 ao 52 (.mv (.t 4)),
 ao 53 (.bin .add (.t 52) (.c (i64 1))),
 ao 4 (.mv (.t 53))] [1,4]))
def b21l1:AC:= .loop [1,4] [16,112,192,720] d21l1
def b21:AC:=
 .seq (.region false [
 ao 1 (.box (.t 0)),
 ao 2 (.mv (.c (i64 0)))] [1]) (.seq (.seq (.region false [
 ao 5 (.faddr 0 (.t 1)),
 ao 6 (.load none (.t 5)),
 ao 7 (.call 9 [(.t 6),(.c (i64 1)),(.c (i64 4))]),
 ao 8 (.un .not (.t 7)),
 ao 9 (.mv (.t 8)),
 ag 10 (.faddr 1 (.t 1)) 9 false [],
 ag 11 (.load none (.t 10)) 9 false [],
 ag 12 (.call 9 [(.t 11),(.c (i64 1)),(.c (i64 5))]) 9 false [],
 ag 13 (.un .not (.t 12)) 9 false [],
 ao 14 (.pick (.t 9) (.c (.bool true)) (.t 13)),
 ao 15 (.mv (.t 14)),
 ag 16 (.faddr 2 (.t 1)) 15 false [],
 ag 17 (.load none (.t 16)) 15 false [],
 ag 18 (.len (.t 17)) 15 false [],
 ag 19 (.faddr 1 (.t 1)) 15 false [],
 ag 20 (.load none (.t 19)) 15 false [],
 ag 21 (.bin .sub (.t 20) (.c (i64 1))) 15 false [],
 ag 22 (.bin .neq (.t 18) (.t 21)) 15 false [],
 ao 23 (.pick (.t 15) (.c (.bool true)) (.t 22)),
 ao 24 (.mv (.t 23)),
 ag 25 (.faddr 3 (.t 1)) 24 false [],
 ag 26 (.load none (.t 25)) 24 false [],
 ag 27 (.len (.t 26)) 24 false [],
 ag 28 (.bin .gtr (.t 27) (.c (i64 8))) 24 false [],
 ao 29 (.pick (.t 24) (.c (.bool true)) (.t 28))] [1,29]) (.cond (.t 29) (.seq (.region false [
 ao 2 (.mv (.c (i64 10)))] [2]) (.ret)) (.skip))) (.seq (.seq (.region false [
 ao 3 (.mv (.c (i64 0)))] [1,3]) (.block 0 (b21l0))) (.seq (.seq (.region false [
 ao 4 (.mv (.c (i64 0)))] [1,4]) (.block 2 (b21l1))) (.seq (.region false [
 ao 2 (.mv (.c (i64 0)))] [2]) (.ret)))))
def a21:AFn:=⟨1,[.t 2],b21,false⟩
def n21:Ann:=⟨[[1],[1,29],[2],[1,3],[1,3,34],[1,3,46],[2],[1,3],[1,4],[1,4,51],[1,4,61],[2],[1,4],[2]],[⟨[],[1,3],[16,112,192,960]⟩,⟨[],[1,4],[16,112,192,720]⟩],[],[],[],false,[]⟩
@[simp] def d22l0:AC:=
 .seq (.seq (.region false [
 ao 20 (.mv (.t 4)),
 ao 21 (.faddr 11 (.t 1)),
 ao 22 (.load none (.t 21)),
 ao 23 (.len (.t 22)),
 ao 24 (.bin .lss (.t 20) (.t 23))] [1,3,4,24]) (.cond (.t 24) (.skip) (.exit 0))) (.seq (.block 1 (.region false [
 ao 27 (.mv (.t 3)),
 ao 28 (.mv (.t 27)),
 ag 29 (.load (some 15) (.t 1)) 28 false [],
 ag 30 (.mv (.t 4)) 28 false [],
 ag 31 (.call 49 [(.t 29),(.t 30)]) 28 false [],
 ag 32 (.call 48 [(.t 31)]) 28 false [],
 ao 33 (.pick (.t 28) (.c (.bool true)) (.t 32)),
 ao 3 (.mv (.t 33))] [1,3,4])) (.region false [
 ao 25 (.mv (.t 4)),
 ao 26 (.bin .add (.t 25) (.c (i64 1))),
 ao 4 (.mv (.t 26))] [1,3,4]))
def b22l0:AC:= .loop [1,3,4] [16,96,128] d22l0
def b22:AC:=
 .seq (.region false [
 ao 1 (.box (.t 0)),
 ao 2 (.mv (.c (.bool false)))] [1]) (.seq (.seq (.region false [
 ao 5 (.load (some 15) (.t 1)),
 ao 6 (.call 47 [(.t 5)])] [1,6]) (.cond (.t 6) (.seq (.region false [
 ao 2 (.mv (.c (.bool true)))] [2]) (.ret)) (.skip))) (.seq (.seq (.region false [
 ao 7 (.load (some 15) (.t 1)),
 ao 8 (.call 23 [(.t 7)]),
 ao 9 (.bin .neq (.t 8) (.c (i64 0)))] [1,9]) (.cond (.t 9) (.seq (.region false [
 ao 2 (.mv (.c (.bool false)))] [2]) (.ret)) (.skip))) (.seq (.region false [
 ao 10 (.faddr 11 (.t 1)),
 ao 11 (.load none (.t 10)),
 ao 12 (.len (.t 11)),
 ao 13 (.bin .gtr (.t 12) (.c (i64 3))),
 ao 14 (.mv (.t 13)),
 ag 15 (.faddr 14 (.t 1)) 14 false [],
 ag 16 (.load none (.t 15)) 14 false [],
 ag 17 (.len (.t 16)) 14 false [],
 ag 18 (.bin .gtr (.t 17) (.c (i64 4))) 14 false [],
 ao 19 (.pick (.t 14) (.c (.bool true)) (.t 18)),
 ao 3 (.mv (.t 19))] [1,3]) (.seq (.seq (.region false [
 ao 4 (.mv (.c (i64 0)))] [1,3,4]) (.block 0 (b22l0))) (.seq (.region false [
 ao 34 (.mv (.t 3)),
 ao 2 (.mv (.t 34))] [2]) (.ret))))))
def a22:AFn:=⟨1,[.t 2],b22,false⟩
def n22:Ann:=⟨[[1],[1,6],[2],[1,9],[2],[1,3],[1,3,4],[1,3,4,24],[1,3,4],[1,3,4],[2]],[⟨[],[1,3,4],[16,96,128]⟩],[],[],[],false,[]⟩
@[simp] def d23l0:AC:=
 .seq (.seq (.region false [
 ao 44 (.mv (.t 3)),
 ao 45 (.faddr 11 (.t 1)),
 ao 46 (.load none (.t 45)),
 ao 47 (.len (.t 46)),
 ao 48 (.bin .lss (.t 44) (.t 47))] [1,3,48]) (.cond (.t 48) (.skip) (.exit 0))) (.seq (.block 1 (.seq (.region true (spl [
 ao 51 (.faddr 11 (.t 1)),
 ap 52 (.load none (.t 51)) [0],
 ao 53 (.mv (.t 3)),
 ap 54 (.idxs 4 (.t 52) (.t 53)) [1,2,0],
 ap 55 (.faddr 0 (.t 54)) [3,1,2,0],
 ap 56 (.load (some 2) (.t 55)) [4,3,1,2,0],
 ap 57 (.call 53 [(.t 56),(.c (i64 20))]) [5,4,3,1,2,0],
 ap 58 (.un .not (.t 57)) [6,5,4,3,1,2,0],
 ap 59 (.mv (.t 58)) [7,6,5,4,3,1,2,0],
 ag 60 (.faddr 11 (.t 1)) 59 false [8,7,6,5,4,3,1,2,0],
 ag 61 (.load none (.t 60)) 59 false [9,8,7,6,5,4,3,1,2,0],
 ag 62 (.mv (.t 3)) 59 false [8,7,6,5,4,3,1,2,0],
 ag 63 (.idxs 4 (.t 61) (.t 62)) 59 false [10,11,9,8,7,6,5,4,3,1,2,0],
 ag 64 (.faddr 2 (.t 63)) 59 false [12,10,11,9,8,7,6,5,4,3,1,2,0],
 ag 65 (.load (some 2) (.t 64)) 59 false [13,12,10,11,9,8,7,6,5,4,3,1,2,0],
 ag 66 (.call 53 [(.t 65),(.c (i64 20))]) 59 false [14,13,12,10,11,9,8,7,6,5,4,3,1,2,0],
 ag 67 (.un .not (.t 66)) 59 false [15,14,13,12,10,11,9,8,7,6,5,4,3,1,2,0],
 ap 68 (.pick (.t 59) (.c (.bool true)) (.t 67)) [16,15,14,13,12,10,11,9,8,7,6,5,4,3,1,2,0],
 ap 69 (.mv (.t 68)) [17,16,15,14,13,12,10,11,9,8,7,6,5,4,3,1,2,0],
 ag 70 (.load (some 15) (.t 1)) 69 false [18,17,16,15,14,13,12,10,11,9,8,7,6,5,4,3,1,2,0],
 ag 71 (.faddr 12 (.t 1)) 69 false [18,17,16,15,14,13,12,10,11,9,8,7,6,5,4,3,1,2,0],
 ag 72 (.load none (.t 71)) 69 false [20,18,17,16,15,14,13,12,10,11,9,8,7,6,5,4,3,1,2,0],
 ag 73 (.mv (.t 3)) 69 false [18,17,16,15,14,13,12,10,11,9,8,7,6,5,4,3,1,2,0],
 ag 74 (.idxs 1 (.t 72) (.t 73)) 69 false [21,22,20,18,17,16,15,14,13,12,10,11,9,8,7,6,5,4,3,1,2,0],
 ag 75 (.load none (.t 74)) 69 false [23,21,22,20,18,17,16,15,14,13,12,10,11,9,8,7,6,5,4,3,1,2,0]] [
 ag 76 (.call 52 [(.t 70),(.t 75)]) 69 false [19,24,23,21,22,20,18,17,16,15,14,13,12,10,11,9,8,7,6,5,4,3,1,2,0],
 ag 77 (.un .not (.t 76)) 69 false [25,19,24,23,21,22,20,18,17,16,15,14,13,12,10,11,9,8,7,6,5,4,3,1,2,0],
 ap 78 (.pick (.t 69) (.c (.bool true)) (.t 77)) [26,25,19,24,23,21,22,20,18,17,16,15,14,13,12,10,11,9,8,7,6,5,4,3,1,2,0]]) [1,3,78]) (.cond (.t 78) (.seq (.region false [
 ao 2 (.mv (.c (i64 130)))] [2]) (.ret)) (.skip)))) (.region false [
 ao 49 (.mv (.t 3)),
 ao 50 (.bin .add (.t 49) (.c (i64 1))),
 ao 3 (.mv (.t 50))] [1,3]))
def b23l0:AC:= .loop [1,3] [16,112,192,304,560,1456] d23l0
@[simp] def d23l1:AC:=
 .seq (.seq (.region false [
 ao 79 (.mv (.t 4)),
 ao 80 (.faddr 14 (.t 1)),
 ao 81 (.load none (.t 80)),
 ao 82 (.len (.t 81)),
 ao 83 (.bin .lss (.t 79) (.t 82))] [1,4,83]) (.cond (.t 83) (.skip) (.exit 2))) (.seq (.block 3 (.seq (.region false [
 ao 86 (.faddr 14 (.t 1)),
 ao 87 (.load none (.t 86)),
 ao 88 (.mv (.t 4)),
 ao 89 (.idxs 2 (.t 87) (.t 88)),
 ao 90 (.load (some 2) (.t 89)),
 ao 91 (.call 53 [(.t 90),(.c (i64 2000))]),
 ao 92 (.un .not (.t 91))] [1,4,92]) (.cond (.t 92) (.seq (.region false [
 ao 2 (.mv (.c (i64 130)))] [2]) (.ret)) (.skip)))) (.region false [
 ao 84 (.mv (.t 4)),
 ao 85 (.bin .add (.t 84) (.c (i64 1))),
 ao 4 (.mv (.t 85))] [1,4]))
def b23l1:AC:= .loop [1,4] [16,112,192,304,560,912,1056,1216] d23l1
def b23:AC:=
 .seq (.region false [
 ao 1 (.box (.t 0)),
 ao 2 (.mv (.c (i64 0)))] [1]) (.seq (.seq (.region false [
 ao 5 (.faddr 0 (.t 1)),
 ao 6 (.load (some 7) (.t 5)),
 ao 7 (.call 50 [(.t 6)]),
 ao 8 (.bin .neq (.t 7) (.c (i64 0))),
 ao 9 (.mv (.t 8)),
 ag 10 (.faddr 7 (.t 1)) 9 false [],
 ag 11 (.load (some 4) (.t 10)) 9 false [],
 ag 12 (.call 8 [(.t 11)]) 9 false [],
 ag 13 (.bin .neq (.t 12) (.c (i64 0))) 9 false [],
 ao 14 (.pick (.t 9) (.c (.bool true)) (.t 13)),
 ao 15 (.mv (.t 14)),
 ag 16 (.faddr 11 (.t 1)) 15 false [],
 ag 17 (.load none (.t 16)) 15 false [],
 ag 18 (.len (.t 17)) 15 false [],
 ag 19 (.call 51 [(.t 18),(.c (i64 1)),(.c (i64 4))]) 15 false [],
 ag 20 (.un .not (.t 19)) 15 false [],
 ao 21 (.pick (.t 15) (.c (.bool true)) (.t 20)),
 ao 22 (.mv (.t 21)),
 ag 23 (.faddr 12 (.t 1)) 22 false [],
 ag 24 (.load none (.t 23)) 22 false [],
 ag 25 (.len (.t 24)) 22 false [],
 ag 26 (.faddr 11 (.t 1)) 22 false [],
 ag 27 (.load none (.t 26)) 22 false [],
 ag 28 (.len (.t 27)) 22 false [],
 ag 29 (.bin .neq (.t 25) (.t 28)) 22 false [],
 ao 30 (.pick (.t 22) (.c (.bool true)) (.t 29)),
 ao 31 (.mv (.t 30)),
 ag 32 (.load (some 15) (.t 1)) 31 false [],
 ag 33 (.faddr 13 (.t 1)) 31 false [],
 ag 34 (.load none (.t 33)) 31 false [],
 ag 35 (.call 52 [(.t 32),(.t 34)]) 31 false [],
 ag 36 (.un .not (.t 35)) 31 false [],
 ao 37 (.pick (.t 31) (.c (.bool true)) (.t 36)),
 ao 38 (.mv (.t 37)),
 ag 39 (.faddr 14 (.t 1)) 38 false [],
 ag 40 (.load none (.t 39)) 38 false [],
 ag 41 (.len (.t 40)) 38 false [],
 ag 42 (.bin .gtr (.t 41) (.c (i64 5))) 38 false [],
 ao 43 (.pick (.t 38) (.c (.bool true)) (.t 42))] [1,43]) (.cond (.t 43) (.seq (.region false [
 ao 2 (.mv (.c (i64 130)))] [2]) (.ret)) (.skip))) (.seq (.seq (.region false [
 ao 3 (.mv (.c (i64 0)))] [1,3]) (.block 0 (b23l0))) (.seq (.seq (.region false [
 ao 4 (.mv (.c (i64 0)))] [1,4]) (.block 2 (b23l1))) (.seq (.region false [
 ao 2 (.mv (.c (i64 0)))] [2]) (.ret)))))
def a23:AFn:=⟨1,[.t 2],b23,false⟩
def n23:Ann:=⟨[[1],[1,43],[2],[1,3],[1,3,48],[1,3,78],[2],[1,3],[1,4],[1,4,83],[1,4,92],[2],[1,4],[2]],[⟨[],[1,3],[16,112,192,304,560,1456]⟩,⟨[],[1,4],[16,112,192,304,560,912,1056,1216]⟩],[],[],[],false,[]⟩
def b24:AC:=
 .seq (.region false [
 ao 0 (.mv (.c (.bool false)))] []) (.seq (.region false [
 ao 8 (.call 54 []),
 ao 7 (.mv (.t 8)),
 ao 9 (.ext (.t 7) 0),
 ao 10 (.ext (.t 7) 1),
 ao 1 (.alloc [(i64 0),(i64 0),(.sl .full 1 []),(.sl .full 4 [])]),
 ao 2 (.alloc [(i64 0),(i64 0),(.sl .full 1 []),(.sl .full 4 [])]),
 ⟨none, .store 4 (.t 1) (.t 9),none,[],[]⟩,
 ⟨none, .store 4 (.t 2) (.t 10),none,[],[]⟩] [1]) (.seq (.region false [
 ao 12 (.load (some 4) (.t 1)),
 ao 13 (.call 55 [(.t 12),(.c (i64 2)),(.c (i64 1))]),
 ao 11 (.mv (.t 13)),
 ao 14 (.ext (.t 11) 0),
 ao 15 (.ext (.t 11) 1),
 ao 3 (.alloc [(i64 0),(i64 0)]),
 ⟨none, .store 2 (.t 3) (.t 14),none,[],[]⟩,
 ao 4 (.mv (.t 15))] [3,4]) (.seq (.region false [
 ao 17 (.call 57 []),
 ao 18 (.call 56 [(.t 17)]),
 ao 16 (.mv (.t 18)),
 ao 19 (.ext (.t 16) 0),
 ao 20 (.ext (.t 16) 1),
 ao 5 (.mv (.t 19)),
 ao 6 (.mv (.t 20))] [3,4,5,6]) (.seq (.region false [
 ao 21 (.mv (.t 4)),
 ao 22 (.bin .eql (.t 21) (.c (i64 0))),
 ao 23 (.mv (.t 22)),
 ag 24 (.mv (.t 6)) 23 true [],
 ag 25 (.bin .eql (.t 24) (.c (i64 0))) 23 true [],
 ao 26 (.pick (.t 23) (.t 25) (.c (.bool false))),
 ao 27 (.mv (.t 26)),
 ag 28 (.load (some 2) (.t 3)) 27 true [],
 ag 29 (.build [(i64 0),(i64 0)] [(0,1,(.c (i64 4))),(1,1,(.c (i64 10)))]) 27 true [],
 ag 30 (.eqa [true,true] false (.t 28) (.t 29)) 27 true [],
 ao 31 (.pick (.t 27) (.t 30) (.c (.bool false))),
 ao 32 (.mv (.t 31)),
 ag 33 (.mv (.t 5)) 32 true [],
 ag 34 (.bin .eql (.t 33) (.c (i64 60))) 32 true [],
 ao 35 (.pick (.t 32) (.t 34) (.c (.bool false))),
 ao 0 (.mv (.t 35))] [0]) (.ret)))))
def a24:AFn:=⟨0,[.t 0],b24,false⟩
def n24:Ann:=⟨[[],[1],[3,4],[3,4,5,6],[0]],[],[],[],[],false,[(33,288),(24,288),(21,208),(6,288),(5,288),(20,288),(19,288),(16,288),(4,208),(15,208),(14,208),(11,208),(10,128),(9,128),(7,128)]⟩
@[simp] def d25l0:AC:=
 .seq (.seq (.region false [
 ao 15 (.mv (.t 9)),
 ao 16 (.faddr 1 (.t 4)),
 ao 17 (.load none (.t 16)),
 ao 18 (.bin .lss (.t 15) (.t 17))] [2,4,6,8,9,18]) (.cond (.t 18) (.skip) (.exit 0))) (.seq (.block 1 (.seq (.region false [
 ao 22 (.load (some 4) (.t 4)),
 ao 23 (.mv (.t 9)),
 ao 24 (.faddr 0 (.t 4)),
 ao 25 (.load none (.t 24)),
 ao 26 (.bin .sub (.t 25) (.c (i64 1))),
 ao 27 (.call 55 [(.t 22),(.t 23),(.t 26)]),
 ao 21 (.mv (.t 27)),
 ao 28 (.ext (.t 21) 0),
 ao 29 (.ext (.t 21) 1),
 ao 10 (.alloc [(i64 0),(i64 0)]),
 ⟨none, .store 2 (.t 10) (.t 28),none,[],[]⟩,
 ao 11 (.mv (.t 29))] [2,4,6,8,9,10,11]) (.seq (.seq (.region false [
 ao 30 (.mv (.t 11)),
 ao 31 (.bin .neq (.t 30) (.c (i64 0))),
 ao 32 (.mv (.t 31)),
 ag 33 (.faddr 0 (.t 10)) 32 false [],
 ag 34 (.load none (.t 33)) 32 false [],
 ag 35 (.bin .lss (.t 34) (.c (i64 0))) 32 false [],
 ao 36 (.pick (.t 32) (.c (.bool true)) (.t 35)),
 ao 37 (.mv (.t 36)),
 ag 38 (.faddr 0 (.t 10)) 37 false [],
 ag 39 (.load none (.t 38)) 37 false [],
 ag 40 (.faddr 1 (.t 10)) 37 false [],
 ag 41 (.load none (.t 40)) 37 false [],
 ag 42 (.bin .gtr (.t 39) (.t 41)) 37 false [],
 ao 43 (.pick (.t 37) (.c (.bool true)) (.t 42)),
 ao 44 (.mv (.t 43)),
 ag 45 (.faddr 1 (.t 10)) 44 false [],
 ag 46 (.load none (.t 45)) 44 false [],
 ag 47 (.bin .gtr (.t 46) (.c (i64 40))) 44 false [],
 ao 48 (.pick (.t 44) (.c (.bool true)) (.t 47))] [2,4,6,8,9,10,48]) (.cond (.t 48) (.seq (.region false [
 ao 49 (.load (some 15) (.t 8)),
 ⟨none, .store 15 (.t 6) (.t 49),none,[],[]⟩,
 ao 7 (.mv (.c (.bool false)))] [6,7]) (.ret)) (.skip))) (.region false [
 ao 50 (.faddr 14 (.t 8)),
 ao 51 (.load none (.t 50)),
 ao 52 (.faddr 0 (.t 10)),
 ao 53 (.load none (.t 52)),
 ao 54 (.mv (.t 2)),
 ao 55 (.bin .mul (.t 53) (.t 54)),
 ao 56 (.faddr 1 (.t 10)),
 ao 57 (.load none (.t 56)),
 ao 58 (.mv (.t 2)),
 ao 59 (.bin .mul (.t 57) (.t 58)),
 ao 60 (.build [(i64 0),(i64 0)] [(0,1,(.t 55)),(1,1,(.t 59))]),
 ao 61 (.lit [(i64 0),(i64 0)] 1 [(0,(.t 60))]),
 ao 62 (.app 2 16 (.t 51) (.t 61)),
 ao 63 (.faddr 14 (.t 8)),
 ⟨none, .store 1 (.t 63) (.t 62),none,[],[]⟩] [2,4,6,8,9])))) (.region false [
 ao 19 (.mv (.t 9)),
 ao 20 (.bin .add (.t 19) (.c (i64 1))),
 ao 9 (.mv (.t 20))] [2,4,6,8,9]))
def b25l0:AC:= .loop [2,4,6,8,9] [48,64,96,128,144,208,1208,2208,3208,4208,5208,6208,7208,8208] d25l0
def b25:AC:=
 .seq (.region false [
 ao 3 (.box (.t 0)),
 ao 4 (.box (.t 1)),
 ao 6 (.alloc [(i64 0),(i64 0),(i64 0),(i64 0),(.sl .full 2 []),(.sl .full 2 []),(.sl .full 5 []),(i64 0),(i64 0),(.sl .full 2 []),(.sl .full 2 []),(.sl .full 4 []),(.sl .full 1 []),(.sl .full 1 []),(.sl .full 2 [])]),
 ao 7 (.mv (.c (.bool false)))] [2,3,4,6]) (.seq (.region false [
 ao 12 (.load (some 15) (.t 3)),
 ao 13 (.call 26 [(.t 12)]),
 ao 8 (.alloc [(i64 0),(i64 0),(i64 0),(i64 0),(.sl .full 2 []),(.sl .full 2 []),(.sl .full 5 []),(i64 0),(i64 0),(.sl .full 2 []),(.sl .full 2 []),(.sl .full 4 []),(.sl .full 1 []),(.sl .full 1 []),(.sl .full 2 [])]),
 ⟨none, .store 15 (.t 8) (.t 13),none,[],[]⟩] [2,4,6,8]) (.seq (.seq (.freeze [208,1208,2208,3208,4208,5208,6208,7208,8208]) (.region false [
 ao 14 (.faddr 14 (.t 8)),
 ⟨none, .store 1 (.t 14) (.c (.sl .full 2 [])),none,[],[]⟩] [2,4,6,8])) (.seq (.seq (.region false [
 ao 9 (.mv (.c (i64 0)))] [2,4,6,8,9]) (.block 0 (.seq (.thawc 8 14 144 2) (b25l0)))) (.seq (.region false [
 ao 64 (.load (some 15) (.t 8)),
 ⟨none, .store 15 (.t 6) (.t 64),none,[],[]⟩,
 ao 7 (.mv (.c (.bool true)))] [6,7]) (.ret)))))
def a25:AFn:=⟨3,[.cell 6 (some 15), .t 7],b25,false⟩
def n25:Ann:=⟨[[2,3,4,6],[2,4,6,8],[2,4,6,8],[2,4,6,8,9],[2,4,6,8,9,18],[2,4,6,8,9,10,11],[2,4,6,8,9,10,48],[6,7],[2,4,6,8,9],[2,4,6,8,9],[6,7]],[⟨[.c 8 14 144 2],[2,4,6,8,9],[48,64,96,128,144,208,1208,2208,3208,4208,5208,6208,7208,8208]⟩],[],[[],[],[208,1208,2208,3208,4208,5208,6208,7208,8208],[],[],[],[],[],[],[],[]],[],false,[(30,432),(11,432),(29,432),(28,432),(21,432)]⟩
@[simp] def d26l0:AC:=
 .seq (.seq (.region false [
 ao 24 (.mv (.t 4)),
 ao 25 (.faddr 12 (.t 1)),
 ao 26 (.load none (.t 25)),
 ao 27 (.len (.t 26)),
 ao 28 (.bin .lss (.t 24) (.t 27))] [1,2,3,4,28]) (.cond (.t 28) (.skip) (.exit 0))) (.seq (.block 1 (.region true (spl [
 ao 31 (.faddr 12 (.t 3)),
 ap 32 (.load none (.t 31)) [0],
 ao 33 (.lit [(i64 0)] 0 []),
 ao 34 (.faddr 12 (.t 1)),
 ap 35 (.load none (.t 34)) [3],
 ao 36 (.mv (.t 4)),
 ap 37 (.idxs 1 (.t 35) (.t 36)) [4,5,3],
 ap 38 (.load none (.t 37)) [6,4,5,3],
 ap 39 (.app 1 8 (.t 33) (.t 38)) [2,7,6,4,5,3],
 ap 40 (.lit [(.sl .full 1 [])] 1 [(0,(.t 39))]) [8,2,7,6,4,5,3]] [
 ap 41 (.app 1 24 (.t 32) (.t 40)) [1,9,0,8,2,7,6,4,5,3],
 ap 42 (.faddr 12 (.t 3)) [10,1,9,0,8,2,7,6,4,5,3],
 ⟨none, .store 1 (.t 42) (.t 41),none,[11,10,1,9,0,8,2,7,6,4,5,3],[]⟩]) [1,2,3,4])) (.region false [
 ao 29 (.mv (.t 4)),
 ao 30 (.bin .add (.t 29) (.c (i64 1))),
 ao 4 (.mv (.t 30))] [1,2,3,4]))
def b26l0:AC:= .loop [1,2,3,4] [16,32,48,62,112,160,176,224,240,288,304,352,1112,1160,2112,2160,3112,3160,4112,4160,5112,5160,6112,6160,7112,7160,8112,8160] d26l0
def b26:AC:=
 .seq (.region false [
 ao 1 (.box (.t 0)),
 ao 2 (.alloc [(i64 0),(i64 0),(i64 0),(i64 0),(.sl .full 2 []),(.sl .full 2 []),(.sl .full 5 []),(i64 0),(i64 0),(.sl .full 2 []),(.sl .full 2 []),(.sl .full 4 []),(.sl .full 1 []),(.sl .full 1 []),(.sl .full 2 [])])] [1,2]) (.seq (.region true (spl [
 ao 5 (.faddr 0 (.t 1)),
 ap 6 (.load (some 7) (.t 5)) [0],
 ap 7 (.call 58 [(.t 6)]) [1,0],
 ao 8 (.faddr 7 (.t 1)),
 ap 9 (.load (some 4) (.t 8)) [3],
 ap 10 (.call 42 [(.t 9)]) [4,2,3,1,0],
 ao 11 (.lit [(i64 0),(i64 0),(i64 0),(i64 0)] 0 []),
 ao 12 (.faddr 11 (.t 1)),
 ap 13 (.load none (.t 12)) [7],
 ap 14 (.appm 4 32 (.t 11) (.t 13)) [6,8,5,7,4,2,3,1,0],
 ao 15 (.lit [(i64 0)] 0 []),
 ao 16 (.faddr 13 (.t 1)),
 ap 17 (.load none (.t 16)) [11],
 ap 18 (.appm 1 8 (.t 15) (.t 17)) [10,12,9,11,6,8,5,7,4,2,3,1,0],
 ao 19 (.lit [(i64 0),(i64 0)] 0 []),
 ao 20 (.faddr 14 (.t 1)),
 ap 21 (.load none (.t 20)) [15],
 ap 22 (.appm 2 16 (.t 19) (.t 21)) [14,16,13,15,10,12,9,11,6,8,5,7,4,2,3,1,0],
 ap 23 (.build [(i64 0),(i64 0),(i64 0),(i64 0),(.sl .full 2 []),(.sl .full 2 []),(.sl .full 5 []),(i64 0),(i64 0),(.sl .full 2 []),(.sl .full 2 []),(.sl .full 4 []),(.sl .full 1 []),(.sl .full 1 []),(.sl .full 2 [])] [(0,7,(.t 7)),(7,4,(.t 10)),(11,1,(.t 14)),(13,1,(.t 18)),(14,1,(.t 22))]) [17,14,16,13,15,10,12,9,11,6,8,5,7,4,2,3,1,0],
 ao 3 (.alloc [(i64 0),(i64 0),(i64 0),(i64 0),(.sl .full 2 []),(.sl .full 2 []),(.sl .full 5 []),(i64 0),(i64 0),(.sl .full 2 []),(.sl .full 2 []),(.sl .full 4 []),(.sl .full 1 []),(.sl .full 1 []),(.sl .full 2 [])])] [
 ⟨none, .store 15 (.t 3) (.t 23),none,[18,19,17,14,16,13,15,10,12,9,11,6,8,5,7,4,2,3,1,0],[]⟩]) [1,2,3]) (.seq (.seq (.region false [
 ao 4 (.mv (.c (i64 0)))] [1,2,3,4]) (.block 0 (.seq (.thawc 3 12 62 101) (b26l0)))) (.seq (.region false [
 ao 43 (.load (some 15) (.t 3)),
 ⟨none, .store 15 (.t 2) (.t 43),none,[],[]⟩] [2]) (.ret))))
def a26:AFn:=⟨1,[.cell 2 (some 15)],b26,true⟩
def n26:Ann:=⟨[[1,2],[1,2,3],[1,2,3,4],[1,2,3,4,28],[1,2,3,4],[1,2,3,4],[2]],[⟨[.c 3 12 62 101],[1,2,3,4],[16,32,48,62,112,160,176,224,240,288,304,352,1112,1160,2112,2160,3112,3160,4112,4160,5112,5160,6112,6160,7112,7160,8112,8160]⟩],[],[],[14,18,22],true,[]⟩
def b27:AC:=
 .seq (.region false [
 ao 1 (.box (.t 0)),
 ao 2 (.mv (.c (i64 0)))] [1]) (.seq (.region false [
 ao 6 (.load (some 15) (.t 1)),
 ao 7 (.call 56 [(.t 6)]),
 ao 5 (.mv (.t 7)),
 ao 8 (.ext (.t 5) 0),
 ao 9 (.ext (.t 5) 1),
 ao 3 (.mv (.t 8)),
 ao 4 (.mv (.t 9))] [3,4]) (.seq (.seq (.region false [
 ao 10 (.mv (.t 4)),
 ao 11 (.bin .neq (.t 10) (.c (i64 0))),
 ao 12 (.mv (.t 11)),
 ag 13 (.mv (.t 3)) 12 false [],
 ag 14 (.bin .lss (.t 13) (.c (i64 0))) 12 false [],
 ao 15 (.pick (.t 12) (.c (.bool true)) (.t 14)),
 ao 16 (.mv (.t 15)),
 ag 17 (.mv (.t 3)) 16 false [],
 ag 18 (.bin .gtr (.t 17) (.c (i64 2000))) 16 false [],
 ao 19 (.pick (.t 16) (.c (.bool true)) (.t 18))] [3,19]) (.cond (.t 19) (.seq (.region false [
 ao 2 (.mv (.c (i64 (-1))))] [2]) (.ret)) (.skip))) (.seq (.region false [
 ao 20 (.mv (.t 3)),
 ao 2 (.mv (.t 20))] [2]) (.ret))))
def a27:AFn:=⟨1,[.t 2],b27,false⟩
def n27:Ann:=⟨[[1],[3,4],[3,19],[2],[2]],[],[],[],[],false,[(2,112),(20,112),(17,112),(13,112),(10,112),(4,112),(3,112),(9,112),(8,112),(5,112)]⟩
def b28:AC:=
 .seq (.region false [
 ao 2 (.box (.t 0)),
 ao 3 (.box (.t 1)),
 ao 4 (.mv (.c (.bool false)))] [2,3]) (.seq (.region false [
 ao 5 (.load (some 4) (.t 2)),
 ao 6 (.faddr 0 (.t 3)),
 ao 7 (.load none (.t 6)),
 ao 8 (.call 45 [(.t 5),(.t 7)]),
 ao 9 (.mv (.t 8)),
 ag 10 (.load (some 4) (.t 2)) 9 true [],
 ag 11 (.faddr 1 (.t 3)) 9 true [],
 ag 12 (.load none (.t 11)) 9 true [],
 ag 13 (.call 59 [(.t 10),(.t 12)]) 9 true [],
 ao 14 (.pick (.t 9) (.t 13) (.c (.bool false))),
 ao 15 (.mv (.t 14)),
 ag 16 (.faddr 3 (.t 3)) 15 true [],
 ag 17 (.load none (.t 16)) 15 true [],
 ag 18 (.call 9 [(.t 17),(.c (i64 0)),(.c (i64 40))]) 15 true [],
 ao 19 (.pick (.t 15) (.t 18) (.c (.bool false))),
 ao 20 (.mv (.t 19)),
 ag 21 (.faddr 2 (.t 3)) 20 true [],
 ag 22 (.load none (.t 21)) 20 true [],
 ag 23 (.faddr 3 (.t 3)) 20 true [],
 ag 24 (.load none (.t 23)) 20 true [],
 ag 25 (.call 9 [(.t 22),(.c (i64 0)),(.t 24)]) 20 true [],
 ao 26 (.pick (.t 20) (.t 25) (.c (.bool false))),
 ao 4 (.mv (.t 26))] [4]) (.ret))
def a28:AFn:=⟨2,[.t 4],b28,false⟩
def n28:Ann:=⟨[[2,3],[4]],[],[],[],[],false,[(9,128)]⟩
def b29:AC:=
 .seq (.region false [
 ao 2 (.box (.t 0)),
 ao 3 (.box (.t 1)),
 ao 4 (.alloc [(i64 0),(i64 0),(.sl .full 1 []),(.sl .full 4 [])])] [2,3,4]) (.seq (.region false [
 ao 6 (.load (some 4) (.t 2)),
 ao 7 (.call 37 [(.t 6)]),
 ao 5 (.alloc [(i64 0),(i64 0),(.sl .full 1 []),(.sl .full 4 [])]),
 ⟨none, .store 4 (.t 5) (.t 7),none,[],[]⟩] [3,4,5]) (.seq (.seq (.freeze [112,1112,2112,3112,4112,5112,6112,7112,8112]) (.region false [
 ao 8 (.faddr 3 (.t 5)),
 ao 9 (.load none (.t 8)),
 ao 10 (.load (some 4) (.t 3)),
 ao 11 (.lit [(i64 0),(i64 0),(i64 0),(i64 0)] 1 [(0,(.t 10))]),
 ao 12 (.app 4 32 (.t 9) (.t 11)),
 ao 13 (.faddr 3 (.t 5)),
 ⟨none, .store 1 (.t 13) (.t 12),none,[],[]⟩] [4,5])) (.seq (.region false [
 ao 14 (.load (some 4) (.t 5)),
 ⟨none, .store 4 (.t 4) (.t 14),none,[],[]⟩] [4]) (.ret))))
def a29:AFn:=⟨2,[.cell 4 (some 4)],b29,false⟩
def n29:Ann:=⟨[[2,3,4],[3,4,5],[4,5],[4]],[],[],[[],[],[112,1112,2112,3112,4112,5112,6112,7112,8112],[]],[],false,[]⟩
@[simp] def d30l0:AC:=
 .seq (.region false [
 ao 29 (.bin .lss (.t 28) (.t 27))] [2,3,4,6,26,27,28,29]) (.seq (.cond (.t 29) (.skip) (.exit 2)) (.seq (.block 3 (.seq (.region false [
 ao 30 (.mv (.t 28)),
 ao 31 (.idxs 1 (.t 26) (.t 28)),
 ao 32 (.load none (.t 31)),
 ao 8 (.mv (.t 30)),
 ao 9 (.mv (.t 32))] [2,3,4,6,8,9,26,27,28]) (.seq (.region false [
 ao 33 (.load none (.t 4)),
 ao 34 (.mv (.t 8)),
 ao 35 (.mv (.t 9)),
 ao 36 (.call 62 [(.t 33),(.t 34),(.t 35)])] [2,3,4,6,8,26,27,28,36]) (.cond (.t 36) (.seq (.region false [
 ao 37 (.faddr 0 (.t 6)),
 ao 38 (.load none (.t 37)),
 ao 39 (.mv (.t 8)),
 ao 40 (.mm false (.t 38) (.t 39)),
 ao 41 (.faddr 1 (.t 6)),
 ao 42 (.load none (.t 41)),
 ao 43 (.mv (.t 8)),
 ao 44 (.mm true (.t 42) (.t 43)),
 ao 45 (.build [(i64 0),(i64 0)] [(0,1,(.t 40)),(1,1,(.t 44))]),
 ⟨none, .store 2 (.t 6) (.t 45),none,[],[]⟩] [2,3,6]) (.exit 1)) (.skip))))) (.region false [
 ao 46 (.bin .add (.t 28) (.c (i64 1))),
 ao 28 (.mv (.t 46))] [2,3,4,6,26,27,28])))
def b30l0:AC:= .loop [2,3,4,6,26,27,28] [16,32,48,64,96,192] d30l0
def b30l1:AC:=
 .region false [
 ao 7 (.mv (.t 25))] [2,3,4,6,7]
def b30l2:AC:=
 .block 1 (.seq (.seq (.region false [
 ao 26 (.mv (.t 7)),
 ao 27 (.len (.t 26)),
 ao 28 (.mv (.c (i64 0)))] [2,3,4,6,26,27,28]) (.block 2 (b30l0))) (.seq (.region false [
 ao 47 (.build [(i64 0),(i64 0)] []),
 ⟨none, .store 2 (.t 2) (.t 47),none,[],[]⟩,
 ⟨none, .store 1 (.t 3) (.c (i64 3)),none,[],[]⟩] [2,3]) (.ret)))
def b30:AC:=
 .seq (.region false [
 ao 1 (.box (.t 0)),
 ao 2 (.alloc [(i64 0),(i64 0)]),
 ao 3 (.alloc [(i64 0)])] [1,2,3]) (.scope (.seq (.region false [
 ao 11 (.load (some 15) (.t 1)),
 ao 12 (.call 60 [(.t 11),(.c (.bool true))]),
 ao 10 (.mv (.t 12)),
 ao 13 (.ext (.t 10) 0),
 ao 14 (.ext (.t 10) 1),
 ao 4 (.alloc [.nilp]),
 ⟨none, .store 1 (.t 4) (.t 13),none,[],[]⟩,
 ao 5 (.mv (.t 14))] [1,2,3,4,5]) (.seq (.seq (.region false [
 ao 15 (.mv (.t 5)),
 ao 16 (.bin .neq (.t 15) (.c (i64 0)))] [1,2,3,4,5,16]) (.cond (.t 16) (.seq (.region false [
 ao 17 (.build [(i64 0),(i64 0)] []),
 ao 18 (.mv (.t 5)),
 ⟨none, .store 2 (.t 2) (.t 17),none,[],[]⟩,
 ⟨none, .store 1 (.t 3) (.t 18),none,[],[]⟩] [2,3]) (.ret)) (.skip))) (.seq (.region false [
 ao 19 (.faddr 14 (.t 1)),
 ao 20 (.load none (.t 19)),
 ao 21 (.len (.t 20)),
 ao 22 (.build [(i64 0),(i64 0)] [(0,1,(.t 21)),(1,1,(.c (i64 (-1))))]),
 ao 6 (.alloc [(i64 0),(i64 0)]),
 ⟨none, .store 2 (.t 6) (.t 22),none,[],[]⟩] [2,3,4,6]) (.seq (.label) (.seq (.seq (.region false [
 ao 23 (.load none (.t 4)),
 ao 24 (.mkfn 61 [(.t 23)] [])] [2,3,4,6,24]) (.block 0 (.rng 480 [25] b30l1 b30l2 (.t 24)))) (.seq (.region false [
 ao 48 (.load (some 2) (.t 6)),
 ⟨none, .store 2 (.t 2) (.t 48),none,[],[]⟩,
 ⟨none, .store 1 (.t 3) (.c (i64 0)),none,[],[]⟩] [2,3]) (.ret))))))))
def a30:AFn:=⟨1,[.cell 2 (some 2), .cell 3 none],b30,false⟩
def n30:Ann:=⟨[[1,2,3],[1,2,3,4,5],[1,2,3,4,5,16],[2,3],[2,3,4,6],[2,3,4,6,24],[2,3,4,6,7],[2,3,4,6,26,27,28],[2,3,4,6,26,27,28,29],[2,3,4,6,8,9,26,27,28],[2,3,4,6,8,26,27,28,36],[2,3,6],[2,3,4,6,26,27,28],[2,3],[2,3]],[⟨[],[2,3,4,6,26,27,28],[16,32,48,64,96,192]⟩],[480],[],[],false,[(18,192),(15,192),(5,192),(14,192),(13,192),(10,192)]⟩
@[simp] def d33l0:AC:=
 .seq (.seq (.region false [
 ao 8 (.mv (.t 7)),
 ao 9 (.mv (.t 0)),
 ao 10 (.len (.t 9)),
 ao 11 (.bin .lss (.t 8) (.t 10))] [0,1,2,7,11]) (.cond (.t 11) (.skip) (.exit 0))) (.seq (.block 1 (.seq (.region true (spl [
 ao 14 (.mv (.t 0)),
 ao 15 (.mv (.t 7)),
 ap 16 (.idxs 1 (.t 14) (.t 15)) [0,1],
 ap 17 (.load none (.t 16)) [2,0,1],
 ao 18 (.mv (.t 1)),
 ao 19 (.mv (.t 2)),
 ap 20 (.call 9 [(.t 17),(.t 18),(.t 19)]) [3,4,5,2,0,1],
 ap 21 (.un .not (.t 20)) [6,3,4,5,2,0,1],
 ap 22 (.mv (.t 21)) [7,6,3,4,5,2,0,1],
 ag 23 (.mv (.t 7)) 22 false [8,7,6,3,4,5,2,0,1],
 ag 24 (.bin .gtr (.t 23) (.c (i64 0))) 22 false [9,8,7,6,3,4,5,2,0,1],
 ag 25 (.mv (.t 24)) 22 false [10,9,8,7,6,3,4,5,2,0,1],
 ag 26 (.mv (.t 0)) 25 true [11,10,9,8,7,6,3,4,5,2,0,1],
 ag 27 (.mv (.t 7)) 25 true [11,10,9,8,7,6,3,4,5,2,0,1],
 ag 28 (.idxs 1 (.t 26) (.t 27)) 25 true [12,13,11,10,9,8,7,6,3,4,5,2,0,1],
 ag 29 (.load none (.t 28)) 25 true [14,12,13,11,10,9,8,7,6,3,4,5,2,0,1],
 ag 30 (.mv (.t 0)) 25 true [11,10,9,8,7,6,3,4,5,2,0,1],
 ag 31 (.mv (.t 7)) 25 true [11,10,9,8,7,6,3,4,5,2,0,1],
 ag 32 (.bin .sub (.t 31) (.c (i64 1))) 25 true [17,11,10,9,8,7,6,3,4,5,2,0,1],
 ag 33 (.idxs 1 (.t 30) (.t 32)) 25 true [16,18,17,11,10,9,8,7,6,3,4,5,2,0,1],
 ag 34 (.load none (.t 33)) 25 true [19,16,18,17,11,10,9,8,7,6,3,4,5,2,0,1]] [
 ag 35 (.bin .leq (.t 29) (.t 34)) 25 true [15,20,14,12,13,19,16,18,17,11,10,9,8,7,6,3,4,5,2,0,1],
 ag 36 (.pick (.t 25) (.t 35) (.c (.bool false))) 22 false [21,15,20,14,12,13,19,16,18,17,11,10,9,8,7,6,3,4,5,2,0,1],
 ap 37 (.pick (.t 22) (.c (.bool true)) (.t 36)) [22,21,15,20,14,12,13,19,16,18,17,11,10,9,8,7,6,3,4,5,2,0,1]]) [0,1,2,7,37]) (.cond (.t 37) (.seq (.region false [
 ao 6 (.mv (.c (.bool false)))] [6]) (.ret)) (.skip)))) (.region false [
 ao 12 (.mv (.t 7)),
 ao 13 (.bin .add (.t 12) (.c (i64 1))),
 ao 7 (.mv (.t 13))] [0,1,2,7]))
def b33l0:AC:= .loop [0,1,2,7] [] d33l0
def b33:AC:=
 .seq (.region false [
 ao 6 (.mv (.c (.bool false)))] [0,1,2]) (.seq (.seq (.region false [
 ao 7 (.mv (.c (i64 0)))] [0,1,2,7]) (.block 0 (b33l0))) (.seq (.region false [
 ao 6 (.mv (.c (.bool true)))] [6]) (.ret)))
def a33:AFn:=⟨3,[.t 6],b33,false⟩
def n33:Ann:=⟨[[0,1,2],[0,1,2,7],[0,1,2,7,11],[0,1,2,7,37],[6],[0,1,2,7],[6]],[⟨[],[0,1,2,7],[]⟩],[],[],[],false,[]⟩
def b34:AC:=
 .seq (.region false [
 ao 2 (.box (.t 0)),
 ao 4 (.mv (.c (.bool false)))] [1,2]) (.seq (.region false [
 ao 5 (.faddr 1 (.t 2)),
 ao 6 (.load none (.t 5)),
 ao 7 (.mv (.t 1)),
 ao 8 (.call 35 [(.t 6),(.c (i64 0)),(.t 7)]),
 ao 9 (.mv (.t 8)),
 ag 10 (.faddr 0 (.t 2)) 9 true [],
 ag 11 (.load none (.t 10)) 9 true [],
 ag 12 (.faddr 1 (.t 2)) 9 true [],
 ag 13 (.load none (.t 12)) 9 true [],
 ag 14 (.call 35 [(.t 11),(.c (i64 0)),(.t 13)]) 9 true [],
 ao 15 (.pick (.t 9) (.t 14) (.c (.bool false))),
 ao 4 (.mv (.t 15))] [4]) (.ret))
def a34:AFn:=⟨2,[.t 4],b34,false⟩
def n34:Ann:=⟨[[1,2],[4]],[],[],[],[],false,[(9,128)]⟩
def b35:AC:=
 .seq (.region false [
 ao 6 (.mv (.c (.bool false)))] [0,1,2]) (.seq (.region false [
 ao 7 (.mv (.t 0)),
 ao 8 (.mv (.t 1)),
 ao 9 (.mv (.t 2)),
 ao 10 (.call 9 [(.t 7),(.t 8),(.t 9)]),
 ao 6 (.mv (.t 10))] [6]) (.ret))
def a35:AFn:=⟨3,[.t 6],b35,false⟩
def n35:Ann:=⟨[[0,1,2],[6]],[],[],[],[],false,[(6,160)]⟩
def b36:AC:=
 .seq (.region false [
 ao 4 (.mv (.c (i64 0)))] [0,1]) (.seq (.region false [
 ao 5 (.mv (.t 0)),
 ao 6 (.mv (.t 1)),
 ao 7 (.slice 1 (.t 5) (some (.t 6)) none none),
 ao 8 (.call 63 [(.t 7)]),
 ao 4 (.mv (.t 8))] [4]) (.ret))
def a36:AFn:=⟨2,[.t 4],b36,false⟩
def n36:Ann:=⟨[[0,1],[4]],[],[],[],[],false,[(4,128)]⟩
@[simp] def d37l0:AC:=
 .seq (.seq (.region false [
 ao 14 (.mv (.t 4)),
 ao 15 (.faddr 2 (.t 1)),
 ao 16 (.load none (.t 15)),
 ao 17 (.len (.t 16)),
 ao 18 (.bin .lss (.t 14) (.t 17))] [1,2,3,4,18]) (.cond (.t 18) (.skip) (.exit 0))) (.seq (.block 1 (.region true (spl [
 ao 21 (.faddr 2 (.t 3)),
 ap 22 (.load none (.t 21)) [0],
 ao 23 (.lit [(i64 0)] 0 []),
 ao 24 (.faddr 2 (.t 1)),
 ap 25 (.load none (.t 24)) [3],
 ao 26 (.mv (.t 4)),
 ap 27 (.idxs 1 (.t 25) (.t 26)) [4,5,3],
 ap 28 (.load none (.t 27)) [6,4,5,3],
 ap 29 (.app 1 8 (.t 23) (.t 28)) [2,7,6,4,5,3],
 ap 30 (.lit [(.sl .full 1 [])] 1 [(0,(.t 29))]) [8,2,7,6,4,5,3]] [
 ap 31 (.app 1 24 (.t 22) (.t 30)) [1,9,0,8,2,7,6,4,5,3],
 ap 32 (.faddr 2 (.t 3)) [10,1,9,0,8,2,7,6,4,5,3],
 ⟨none, .store 1 (.t 32) (.t 31),none,[11,10,1,9,0,8,2,7,6,4,5,3],[]⟩]) [1,2,3,4])) (.region false [
 ao 19 (.mv (.t 4)),
 ao 20 (.bin .add (.t 19) (.c (i64 1))),
 ao 4 (.mv (.t 20))] [1,2,3,4]))
def b37l0:AC:= .loop [1,2,3,4] [16,32,48,52,144,192] d37l0
def b37:AC:=
 .seq (.region false [
 ao 1 (.box (.t 0)),
 ao 2 (.alloc [(i64 0),(i64 0),(.sl .full 1 []),(.sl .full 4 [])])] [1,2]) (.seq (.region true (spl [
 ao 5 (.faddr 0 (.t 1)),
 ap 6 (.load none (.t 5)) [0],
 ao 7 (.faddr 1 (.t 1)),
 ap 8 (.load none (.t 7)) [2],
 ao 9 (.lit [(i64 0),(i64 0),(i64 0),(i64 0)] 0 []),
 ao 10 (.faddr 3 (.t 1)),
 ap 11 (.load none (.t 10)) [5],
 ap 12 (.app 4 32 (.t 9) (.t 11)) [4,6,5],
 ap 13 (.build [(i64 0),(i64 0),(.sl .full 1 []),(.sl .full 4 [])] [(0,1,(.t 6)),(1,1,(.t 8)),(3,1,(.t 12))]) [1,3,7,0,2,4,6,5],
 ao 3 (.alloc [(i64 0),(i64 0),(.sl .full 1 []),(.sl .full 4 [])])] [
 ⟨none, .store 4 (.t 3) (.t 13),none,[8,9,1,3,7,0,2,4,6,5],[]⟩]) [1,2,3]) (.seq (.seq (.region false [
 ao 4 (.mv (.c (i64 0)))] [1,2,3,4]) (.block 0 (.seq (.thawc 3 2 52 1) (b37l0)))) (.seq (.region false [
 ao 33 (.load (some 4) (.t 3)),
 ⟨none, .store 4 (.t 2) (.t 33),none,[],[]⟩] [2]) (.ret))))
def a37:AFn:=⟨1,[.cell 2 (some 4)],b37,true⟩
def n37:Ann:=⟨[[1,2],[1,2,3],[1,2,3,4],[1,2,3,4,18],[1,2,3,4],[1,2,3,4],[2]],[⟨[.c 3 2 52 1],[1,2,3,4],[16,32,48,52,144,192]⟩],[],[],[],true,[]⟩
def b38:AC:=
 .seq (.region false [
 ao 0 (.alloc [(i64 0),(i64 0),(.sl .full 2 []),(.sl .full 2 [])]),
 ao 1 (.alloc [(i64 0),(i64 0),(.sl .full 2 []),(.sl .full 2 [])])] [0,1]) (.seq (.region false [
 ao 2 (.build [(i64 0),(i64 0)] [(0,1,(.c (i64 100))),(1,1,(.c (i64 120)))]),
 ao 3 (.build [(i64 0),(i64 0)] [(0,1,(.c (i64 2))),(1,1,(.c (i64 6)))]),
 ao 4 (.build [(i64 0),(i64 0)] [(0,1,(.c (i64 3))),(1,1,(.c (i64 5)))]),
 ao 5 (.build [(i64 0),(i64 0)] [(0,1,(.c (i64 4))),(1,1,(.c (i64 6)))]),
 ao 6 (.lit [(i64 0),(i64 0)] 3 [(0,(.t 3)),(1,(.t 4)),(2,(.t 5))]),
 ao 7 (.build [(i64 0),(i64 0)] [(0,1,(.c (i64 50))),(1,1,(.c (i64 4)))]),
 ao 8 (.build [(i64 0),(i64 0)] [(0,1,(.c (i64 60))),(1,1,(.c (i64 7)))]),
 ao 9 (.build [(i64 0),(i64 0)] [(0,1,(.c (i64 45))),(1,1,(.c (i64 2)))]),
 ao 10 (.build [(i64 0),(i64 0)] [(0,1,(.c (i64 70))),(1,1,(.c (i64 9)))]),
 ao 11 (.lit [(i64 0),(i64 0)] 4 [(0,(.t 7)),(1,(.t 8)),(2,(.t 9)),(3,(.t 10))]),
 ao 12 (.build [(i64 0),(i64 0),(.sl .full 2 []),(.sl .full 2 [])] [(0,2,(.t 2)),(2,1,(.t 6)),(3,1,(.t 11))]),
 ⟨none, .store 4 (.t 0) (.t 12),none,[],[]⟩] [0,1]) (.seq (.region false [
 ao 13 (.load (some 4) (.t 0)),
 ao 14 (.call 42 [(.t 13)]),
 ⟨none, .store 4 (.t 1) (.t 14),none,[],[]⟩] [0,1]) (.seq (.seq (.freeze [224,1224,2224,3224,4224,5224,6224,7224,8224]) (.region true (spl [
 ao 15 (.faddr 3 (.t 0)),
 ap 16 (.load none (.t 15)) [0],
 ap 17 (.idxs 2 (.t 16) (.c (i64 0))) [1,0],
 ap 18 (.load (some 2) (.t 17)) [2,1,0],
 ao 19 (.faddr 3 (.t 0)),
 ap 20 (.load none (.t 19)) [4],
 ap 21 (.idxs 2 (.t 20) (.c (i64 2))) [5,4],
 ap 22 (.load (some 2) (.t 21)) [6,5,4]] [
 ap 23 (.lit [(i64 0),(i64 0)] 2 [(0,(.t 18)),(1,(.t 22))]) [3,7,2,1,0,6,5,4],
 ap 24 (.faddr 3 (.t 1)) [8,3,7,2,1,0,6,5,4],
 ⟨none, .store 1 (.t 24) (.t 23),none,[9,8,3,7,2,1,0,6,5,4],[]⟩]) [0,1])) (.seq (.region true (spl [
 ao 25 (.load (some 4) (.t 0)),
 ⟨(some 26), .load (some 4) (.t 1),none,[],[0]⟩,
 ⟨none, .store 4 (.t 0) (.t 25),none,[0],[]⟩] [
 ⟨none, .store 4 (.t 1) (.t 26),none,[1,2,0],[]⟩]) [0,1]) (.ret)))))
def a38:AFn:=⟨0,[.cell 0 (some 4), .cell 1 (some 4)],b38,false⟩
def n38:Ann:=⟨[[0,1],[0,1],[0,1],[0,1],[0,1]],[],[],[[],[],[],[224,1224,2224,3224,4224,5224,6224,7224,8224],[]],[],false,[]⟩
def b40:AC:=
 .seq (.region false [
 ao 1 (.box (.t 0)),
 ao 2 (.mv (.c (i64 0))),
 ao 3 (.mv (.c (i64 0)))] [1]) (.seq (.region false [
 ao 9 (.load (some 4) (.t 1)),
 ao 10 (.call 65 [(.t 9),(.c (.bool true))]),
 ao 8 (.mv (.t 10)),
 ao 11 (.ext (.t 8) 0),
 ao 12 (.ext (.t 8) 1),
 ao 4 (.mv (.t 11)),
 ao 5 (.mv (.t 12))] [4,5]) (.seq (.seq (.region false [
 ao 13 (.mv (.t 5)),
 ao 14 (.bin .neq (.t 13) (.c (i64 0)))] [4,5,14]) (.cond (.t 14) (.seq (.region false [
 ao 15 (.mv (.t 5)),
 ao 2 (.mv (.c (i64 0))),
 ao 3 (.mv (.t 15))] [2,3]) (.ret)) (.skip))) (.seq (.region false [
 ao 17 (.mv (.t 4)),
 ao 18 (.call 66 [(.t 17)]),
 ao 16 (.mv (.t 18)),
 ao 19 (.ext (.t 16) 0),
 ao 20 (.ext (.t 16) 1),
 ao 6 (.mv (.t 19)),
 ao 7 (.mv (.t 20))] [7]) (.seq (.seq (.region false [
 ao 21 (.mv (.t 7)),
 ao 22 (.bin .lss (.t 21) (.c (i64 0)))] [7,22]) (.cond (.t 22) (.seq (.region false [
 ao 2 (.mv (.c (i64 0))),
 ao 3 (.mv (.c (i64 3)))] [2,3]) (.ret)) (.skip))) (.seq (.region false [
 ao 23 (.mv (.t 7)),
 ao 2 (.mv (.t 23)),
 ao 3 (.mv (.c (i64 0)))] [2,3]) (.ret))))))
def a40:AFn:=⟨1,[.t 2, .t 3],b40,false⟩
def n40:Ann:=⟨[[1],[4,5],[4,5,14],[2,3],[7],[7,22],[2,3],[2,3]],[],[],[],[],false,[(2,288),(23,288),(21,288),(7,288),(6,288),(20,288),(19,288),(16,288),(17,160),(3,160),(15,160),(13,160),(5,160),(4,160),(12,160),(11,160),(8,160)]⟩
def b42:AC:=
 .seq (.region false [
 ao 1 (.box (.t 0)),
 ao 2 (.alloc [(i64 0),(i64 0),(.sl .full 2 []),(.sl .full 2 [])])] [1,2]) (.seq (.region true (spl [
 ao 3 (.faddr 0 (.t 1)),
 ap 4 (.load (some 2) (.t 3)) [0],
 ao 5 (.lit [(i64 0),(i64 0)] 0 []),
 ao 6 (.faddr 2 (.t 1)),
 ap 7 (.load none (.t 6)) [3],
 ap 8 (.appm 2 16 (.t 5) (.t 7)) [2,4,3],
 ao 9 (.lit [(i64 0),(i64 0)] 0 []),
 ao 10 (.faddr 3 (.t 1)),
 ap 11 (.load none (.t 10)) [7],
 ap 12 (.appm 2 16 (.t 9) (.t 11)) [6,8,5,7,2,4,3]] [
 ap 13 (.build [(i64 0),(i64 0),(.sl .full 2 []),(.sl .full 2 [])] [(0,2,(.t 4)),(2,1,(.t 8)),(3,1,(.t 12))]) [1,9,0,6,8,5,7,2,4,3],
 ⟨none, .store 4 (.t 2) (.t 13),none,[10,1,9,0,6,8,5,7,2,4,3],[]⟩]) [2]) (.ret))
def a42:AFn:=⟨1,[.cell 2 (some 4)],b42,true⟩
def n42:Ann:=⟨[[1,2],[2]],[],[],[],[8,12],true,[]⟩
def b45:AC:=
 .seq (.region false [
 ao 2 (.box (.t 0)),
 ao 4 (.mv (.c (.bool false)))] [1,2]) (.seq (.region false [
 ao 5 (.mv (.t 1)),
 ao 6 (.faddr 1 (.t 2)),
 ao 7 (.load none (.t 6)),
 ao 8 (.bin .sub (.t 7) (.c (i64 1))),
 ao 9 (.call 9 [(.t 5),(.c (i64 0)),(.t 8)]),
 ao 4 (.mv (.t 9))] [4]) (.ret))
def a45:AFn:=⟨2,[.t 4],b45,false⟩
def n45:Ann:=⟨[[1,2],[4]],[],[],[],[],false,[(4,144)]⟩
def b46:AC:=
 .seq (.region false [
 ao 1 (.box (.t 0)),
 ao 2 (.mv (.c (.bool false)))] [1]) (.seq (.region false [
 ao 3 (.faddr 2 (.t 1)),
 ao 4 (.load none (.t 3)),
 ao 5 (.call 75 [(.t 4)]),
 ao 6 (.mv (.t 5)),
 ag 7 (.faddr 3 (.t 1)) 6 false [],
 ag 8 (.load none (.t 7)) 6 false [],
 ag 9 (.len (.t 8)) 6 false [],
 ag 10 (.bin .gtr (.t 9) (.c (i64 40))) 6 false [],
 ao 11 (.pick (.t 6) (.c (.bool true)) (.t 10)),
 ao 2 (.mv (.t 11))] [2]) (.ret))
def a46:AFn:=⟨1,[.t 2],b46,false⟩
def n46:Ann:=⟨[[1],[2]],[],[],[],[],false,[(6,80)]⟩
@[simp] def d47l0:AC:=
 .seq (.seq (.region false [
 ao 37 (.mv (.t 3)),
 ao 38 (.faddr 12 (.t 1)),
 ao 39 (.load none (.t 38)),
 ao 40 (.len (.t 39)),
 ao 41 (.bin .lss (.t 37) (.t 40))] [1,3,41]) (.cond (.t 41) (.skip) (.exit 0))) (.seq (.block 1 (.seq (.region false [
 ao 44 (.faddr 12 (.t 1)),
 ao 45 (.load none (.t 44)),
 ao 46 (.mv (.t 3)),
 ao 47 (.idxs 1 (.t 45) (.t 46)),
 ao 48 (.load none (.t 47)),
 ao 49 (.len (.t 48)),
 ao 50 (.bin .gtr (.t 49) (.c (i64 40)))] [1,3,50]) (.cond (.t 50) (.seq (.region false [
 ao 2 (.mv (.c (.bool true)))] [2]) (.ret)) (.skip)))) (.region false [
 ao 42 (.mv (.t 3)),
 ao 43 (.bin .add (.t 42) (.c (i64 1))),
 ao 3 (.mv (.t 43))] [1,3]))
def b47l0:AC:= .loop [1,3] [16,112,176] d47l0
def b47:AC:=
 .seq (.region false [
 ao 1 (.box (.t 0)),
 ao 2 (.mv (.c (.bool false)))] [1]) (.seq (.seq (.region false [
 ao 4 (.faddr 0 (.t 1)),
 ao 5 (.load (some 7) (.t 4)),
 ao 6 (.build [(i64 0),(i64 0),(.sl .full 1 [])] []),
 ao 7 (.call 76 [(.t 5),(.t 6)]),
 ao 8 (.mv (.t 7)),
 ag 9 (.faddr 7 (.t 1)) 8 false [],
 ag 10 (.load (some 4) (.t 9)) 8 false [],
 ag 11 (.call 7 [(.t 10)]) 8 false [],
 ao 12 (.pick (.t 8) (.c (.bool true)) (.t 11)),
 ao 13 (.mv (.t 12)),
 ag 14 (.faddr 11 (.t 1)) 13 false [],
 ag 15 (.load none (.t 14)) 13 false [],
 ag 16 (.len (.t 15)) 13 false [],
 ag 17 (.bin .gtr (.t 16) (.c (i64 40))) 13 false [],
 ao 18 (.pick (.t 13) (.c (.bool true)) (.t 17)),
 ao 19 (.mv (.t 18)),
 ag 20 (.faddr 12 (.t 1)) 19 false [],
 ag 21 (.load none (.t 20)) 19 false [],
 ag 22 (.len (.t 21)) 19 false [],
 ag 23 (.bin .gtr (.t 22) (.c (i64 40))) 19 false [],
 ao 24 (.pick (.t 19) (.c (.bool true)) (.t 23)),
 ao 25 (.mv (.t 24)),
 ag 26 (.faddr 13 (.t 1)) 25 false [],
 ag 27 (.load none (.t 26)) 25 false [],
 ag 28 (.len (.t 27)) 25 false [],
 ag 29 (.bin .gtr (.t 28) (.c (i64 40))) 25 false [],
 ao 30 (.pick (.t 25) (.c (.bool true)) (.t 29)),
 ao 31 (.mv (.t 30)),
 ag 32 (.faddr 14 (.t 1)) 31 false [],
 ag 33 (.load none (.t 32)) 31 false [],
 ag 34 (.len (.t 33)) 31 false [],
 ag 35 (.bin .gtr (.t 34) (.c (i64 40))) 31 false [],
 ao 36 (.pick (.t 31) (.c (.bool true)) (.t 35))] [1,36]) (.cond (.t 36) (.seq (.region false [
 ao 2 (.mv (.c (.bool true)))] [2]) (.ret)) (.skip))) (.seq (.seq (.region false [
 ao 3 (.mv (.c (i64 0)))] [1,3]) (.block 0 (b47l0))) (.seq (.region false [
 ao 2 (.mv (.c (.bool false)))] [2]) (.ret))))
def a47:AFn:=⟨1,[.t 2],b47,false⟩
def n47:Ann:=⟨[[1],[1,36],[2],[1,3],[1,3,41],[1,3,50],[2],[1,3],[2]],[⟨[],[1,3],[16,112,176]⟩],[],[],[],false,[(8,112)]⟩
@[simp] def d48l0:AC:=
 .seq (.seq (.region false [
 ao 19 (.mv (.t 4)),
 ao 20 (.faddr 4 (.t 1)),
 ao 21 (.load none (.t 20)),
 ao 22 (.len (.t 21)),
 ao 23 (.bin .lss (.t 19) (.t 22))] [1,3,4,23]) (.cond (.t 23) (.skip) (.exit 0))) (.seq (.block 1 (.region true (spl [
 ao 26 (.mv (.t 3)),
 ao 27 (.faddr 4 (.t 1)),
 ap 28 (.load none (.t 27)) [1],
 ao 29 (.mv (.t 4)),
 ap 30 (.idxs 2 (.t 28) (.t 29)) [2,3,1],
 ap 31 (.faddr 1 (.t 30)) [4,2,3,1],
 ap 32 (.load none (.t 31)) [5,4,2,3,1],
 ao 33 (.faddr 4 (.t 1)),
 ap 34 (.load none (.t 33)) [7],
 ao 35 (.mv (.t 4)),
 ap 36 (.idxs 2 (.t 34) (.t 35)) [8,9,7],
 ap 37 (.faddr 0 (.t 36)) [10,8,9,7],
 ap 38 (.load none (.t 37)) [11,10,8,9,7],
 ap 39 (.bin .sub (.t 32) (.t 38)) [6,12,5,4,2,3,1,11,10,8,9,7],
 ap 40 (.bin .add (.t 39) (.c (i64 1))) [13,6,12,5,4,2,3,1,11,10,8,9,7]] [
 ap 41 (.bin .mul (.t 26) (.t 40)) [0,14,13,6,12,5,4,2,3,1,11,10,8,9,7],
 ap 3 (.mv (.t 41)) [15,0,14,13,6,12,5,4,2,3,1,11,10,8,9,7]]) [1,3,4])) (.region false [
 ao 24 (.mv (.t 4)),
 ao 25 (.bin .add (.t 24) (.c (i64 1))),
 ao 4 (.mv (.t 25))] [1,3,4]))
def b48l0:AC:= .loop [1,3,4] [16,112,144] d48l0
def b48:AC:=
 .seq (.region false [
 ao 1 (.box (.t 0)),
 ao 2 (.mv (.c (.bool false)))] [1]) (.seq (.seq (.region false [
 ao 5 (.load (some 7) (.t 1)),
 ao 6 (.build [(i64 0),(i64 0),(.sl .full 1 [])] []),
 ao 7 (.call 76 [(.t 5),(.t 6)])] [1,7]) (.cond (.t 7) (.seq (.region false [
 ao 2 (.mv (.c (.bool true)))] [2]) (.ret)) (.skip))) (.seq (.seq (.region false [
 ao 8 (.load (some 7) (.t 1)),
 ao 9 (.call 50 [(.t 8)]),
 ao 10 (.bin .neq (.t 9) (.c (i64 0)))] [1,10]) (.cond (.t 10) (.seq (.region false [
 ao 2 (.mv (.c (.bool false)))] [2]) (.ret)) (.skip))) (.seq (.region false [
 ao 11 (.faddr 2 (.t 1)),
 ao 12 (.faddr 1 (.t 11)),
 ao 13 (.load none (.t 12)),
 ao 14 (.faddr 2 (.t 1)),
 ao 15 (.faddr 0 (.t 14)),
 ao 16 (.load none (.t 15)),
 ao 17 (.bin .sub (.t 13) (.t 16)),
 ao 18 (.bin .add (.t 17) (.c (i64 1))),
 ao 3 (.mv (.t 18))] [1,3]) (.seq (.seq (.region false [
 ao 4 (.mv (.c (i64 0)))] [1,3,4]) (.block 0 (b48l0))) (.seq (.region false [
 ao 42 (.mv (.t 3)),
 ao 43 (.bin .gtr (.t 42) (.c (i64 24))),
 ao 44 (.mv (.t 43)),
 ag 45 (.mv (.t 3)) 44 false [],
 ag 46 (.faddr 0 (.t 1)) 44 false [],
 ag 47 (.faddr 1 (.t 46)) 44 false [],
 ag 48 (.load none (.t 47)) 44 false [],
 ag 49 (.faddr 0 (.t 1)) 44 false [],
 ag 50 (.faddr 0 (.t 49)) 44 false [],
 ag 51 (.load none (.t 50)) 44 false [],
 ag 52 (.bin .sub (.t 48) (.t 51)) 44 false [],
 ag 53 (.bin .add (.t 52) (.c (i64 1))) 44 false [],
 ag 54 (.bin .mul (.t 45) (.t 53)) 44 false [],
 ag 55 (.bin .gtr (.t 54) (.c (i64 100))) 44 false [],
 ao 56 (.pick (.t 44) (.c (.bool true)) (.t 55)),
 ao 2 (.mv (.t 56))] [2]) (.ret))))))
def a48:AFn:=⟨1,[.t 2],b48,false⟩
def n48:Ann:=⟨[[1],[1,7],[2],[1,10],[2],[1,3],[1,3,4],[1,3,4,23],[1,3,4],[1,3,4],[2]],[⟨[],[1,3,4],[16,112,144]⟩],[],[],[],false,[]⟩
def b49:AC:=
 .seq (.region false [
 ao 2 (.box (.t 0)),
 ao 4 (.alloc [(i64 0),(i64 0),(i64 0),(i64 0),(.sl .full 2 []),(.sl .full 2 []),(.sl .full 5 [])])] [1,2,4]) (.seq (.region false [
 ao 6 (.faddr 0 (.t 2)),
 ao 7 (.load (some 7) (.t 6)),
 ao 8 (.call 58 [(.t 7)]),
 ao 5 (.alloc [(i64 0),(i64 0),(i64 0),(i64 0),(.sl .full 2 []),(.sl .full 2 []),(.sl .full 5 [])]),
 ⟨none, .store 7 (.t 5) (.t 8),none,[],[]⟩] [1,2,4,5]) (.seq (.region true (spl [
 ao 9 (.faddr 11 (.t 2)),
 ap 10 (.load none (.t 9)) [0],
 ao 11 (.mv (.t 1)),
 ap 12 (.idxs 4 (.t 10) (.t 11)) [1,2,0],
 ap 13 (.faddr 0 (.t 12)) [3,1,2,0],
 ap 14 (.load (some 2) (.t 13)) [4,3,1,2,0],
 ⟨(some 15), .faddr 11 (.t 2),none,[],[80]⟩,
 ⟨(some 16), .load none (.t 15),none,[6],[80]⟩,
 ⟨(some 17), .mv (.t 1),none,[],[80]⟩,
 ⟨(some 18), .idxs 4 (.t 16) (.t 17),none,[7,8,6],[80]⟩,
 ⟨(some 19), .faddr 2 (.t 18),none,[9,7,8,6],[80]⟩,
 ⟨(some 20), .load (some 2) (.t 19),none,[10,9,7,8,6],[80]⟩,
 ap 21 (.faddr 0 (.t 5)) [5,4,3,1,2,0],
 ⟨none, .store 2 (.t 21) (.t 14),none,[12,5,4,3,1,2,0],[]⟩] [
 ap 22 (.faddr 2 (.t 5)) [11,13,10,9,7,8,6,12,5,4,3,1,2,0],
 ⟨none, .store 2 (.t 22) (.t 20),none,[14,11,13,10,9,7,8,6,12,5,4,3,1,2,0],[]⟩]) [4,5]) (.seq (.region false [
 ao 23 (.load (some 7) (.t 5)),
 ⟨none, .store 7 (.t 4) (.t 23),none,[],[]⟩] [4]) (.ret))))
def a49:AFn:=⟨2,[.cell 4 (some 7)],b49,false⟩
def n49:Ann:=⟨[[1,2,4],[1,2,4,5],[4,5],[4]],[],[],[],[],false,[]⟩
@[simp] def d50l0:AC:=
 .seq (.seq (.region false [
 ao 40 (.mv (.t 3)),
 ao 41 (.faddr 4 (.t 1)),
 ao 42 (.load none (.t 41)),
 ao 43 (.len (.t 42)),
 ao 44 (.bin .lss (.t 40) (.t 43))] [1,3,44]) (.cond (.t 44) (.skip) (.exit 0))) (.seq (.block 1 (.seq (.region false [
 ao 47 (.faddr 4 (.t 1)),
 ao 48 (.load none (.t 47)),
 ao 49 (.mv (.t 3)),
 ao 50 (.idxs 2 (.t 48) (.t 49)),
 ao 51 (.load (some 2) (.t 50)),
 ao 52 (.call 77 [(.t 51),(.c (i64 9))]),
 ao 53 (.un .not (.t 52))] [1,3,53]) (.cond (.t 53) (.seq (.region false [
 ao 2 (.mv (.c (i64 20)))] [2]) (.ret)) (.skip)))) (.region false [
 ao 45 (.mv (.t 3)),
 ao 46 (.bin .add (.t 45) (.c (i64 1))),
 ao 3 (.mv (.t 46))] [1,3]))
def b50l0:AC:= .loop [1,3] [16,96,144,224,1072,1280,1552,1632,1728,1824,1920] d50l0
@[simp] def d50l1:AC:=
 .seq (.seq (.region false [
 ao 54 (.mv (.t 4)),
 ao 55 (.faddr 5 (.t 1)),
 ao 56 (.load none (.t 55)),
 ao 57 (.len (.t 56)),
 ao 58 (.bin .lss (.t 54) (.t 57))] [1,4,58]) (.cond (.t 58) (.skip) (.exit 2))) (.seq (.block 3 (.seq (.region true (spl [
 ao 61 (.faddr 5 (.t 1)),
 ap 62 (.load none (.t 61)) [0],
 ao 63 (.mv (.t 4)),
 ap 64 (.idxs 2 (.t 62) (.t 63)) [1,2,0],
 ap 65 (.faddr 0 (.t 64)) [3,1,2,0],
 ap 66 (.load none (.t 65)) [4,3,1,2,0],
 ap 67 (.call 78 [(.t 66),(.c (i64 0)),(.c (i64 20))]) [5,4,3,1,2,0],
 ap 68 (.un .not (.t 67)) [6,5,4,3,1,2,0],
 ap 69 (.mv (.t 68)) [7,6,5,4,3,1,2,0],
 ag 70 (.faddr 5 (.t 1)) 69 false [8,7,6,5,4,3,1,2,0],
 ag 71 (.load none (.t 70)) 69 false [9,8,7,6,5,4,3,1,2,0],
 ag 72 (.mv (.t 4)) 69 false [8,7,6,5,4,3,1,2,0],
 ag 73 (.idxs 2 (.t 71) (.t 72)) 69 false [10,11,9,8,7,6,5,4,3,1,2,0],
 ag 74 (.faddr 1 (.t 73)) 69 false [12,10,11,9,8,7,6,5,4,3,1,2,0],
 ag 75 (.load none (.t 74)) 69 false [13,12,10,11,9,8,7,6,5,4,3,1,2,0],
 ag 76 (.faddr 4 (.t 1)) 69 false [8,7,6,5,4,3,1,2,0],
 ag 77 (.load none (.t 76)) 69 false [15,8,7,6,5,4,3,1,2,0],
 ag 78 (.len (.t 77)) 69 false [16,15,8,7,6,5,4,3,1,2,0],
 ag 79 (.bin .sub (.t 78) (.c (i64 1))) 69 false [17,16,15,8,7,6,5,4,3,1,2,0]] [
 ag 80 (.call 78 [(.t 75),(.c (i64 0)),(.t 79)]) 69 false [14,18,13,12,10,11,9,17,16,15,8,7,6,5,4,3,1,2,0],
 ag 81 (.un .not (.t 80)) 69 false [19,14,18,13,12,10,11,9,17,16,15,8,7,6,5,4,3,1,2,0],
 ap 82 (.pick (.t 69) (.c (.bool true)) (.t 81)) [20,19,14,18,13,12,10,11,9,17,16,15,8,7,6,5,4,3,1,2,0]]) [1,4,82]) (.cond (.t 82) (.seq (.region false [
 ao 2 (.mv (.c (i64 20)))] [2]) (.ret)) (.skip)))) (.region false [
 ao 59 (.mv (.t 4)),
 ao 60 (.bin .add (.t 59) (.c (i64 1))),
 ao 4 (.mv (.t 60))] [1,4]))
def b50l1:AC:= .loop [1,4] [16,96,144,224,832,1552,1632,1728,1824,1920] d50l1
@[simp] def d50l2:AC:=
 .seq (.seq (.region false [
 ao 83 (.mv (.t 5)),
 ao 84 (.faddr 6 (.t 1)),
 ao 85 (.load none (.t 84)),
 ao 86 (.len (.t 85)),
 ao 87 (.bin .lss (.t 83) (.t 86))] [1,5,87]) (.cond (.t 87) (.skip) (.exit 4))) (.seq (.block 5 (.seq (.region false [
 ao 90 (.faddr 6 (.t 1)),
 ao 91 (.load none (.t 90)),
 ao 92 (.mv (.t 5)),
 ao 93 (.idxs 5 (.t 91) (.t 92)),
 ao 94 (.load (some 5) (.t 93)),
 ao 6 (.alloc [(i64 0),(i64 0),(i64 0),(i64 0),(i64 0)]),
 ⟨none, .store 5 (.t 6) (.t 94),none,[],[]⟩] [1,5,6]) (.seq (.region false [
 ao 95 (.faddr 0 (.t 6)),
 ao 96 (.load none (.t 95)),
 ao 97 (.call 78 [(.t 96),(.c (i64 0)),(.c (i64 9))]),
 ao 98 (.un .not (.t 97)),
 ao 99 (.mv (.t 98)),
 ag 100 (.faddr 1 (.t 6)) 99 false [],
 ag 101 (.load none (.t 100)) 99 false [],
 ag 102 (.call 78 [(.t 101),(.c (i64 0)),(.c (i64 9))]) 99 false [],
 ag 103 (.un .not (.t 102)) 99 false [],
 ao 104 (.pick (.t 99) (.c (.bool true)) (.t 103)),
 ao 105 (.mv (.t 104)),
 ag 106 (.faddr 2 (.t 6)) 105 false [],
 ag 107 (.load none (.t 106)) 105 false [],
 ag 108 (.call 78 [(.t 107),(.c (i64 0)),(.c (i64 9))]) 105 false [],
 ag 109 (.un .not (.t 108)) 105 false [],
 ao 110 (.pick (.t 105) (.c (.bool true)) (.t 109)),
 ao 111 (.mv (.t 110)),
 ag 112 (.faddr 3 (.t 6)) 111 false [],
 ag 113 (.load none (.t 112)) 111 false [],
 ag 114 (.call 78 [(.t 113),(.c (i64 0)),(.c (i64 99))]) 111 false [],
 ag 115 (.un .not (.t 114)) 111 false [],
 ao 116 (.pick (.t 111) (.c (.bool true)) (.t 115)),
 ao 117 (.mv (.t 116)),
 ag 118 (.faddr 4 (.t 6)) 117 false [],
 ag 119 (.load none (.t 118)) 117 false [],
 ag 120 (.call 78 [(.t 119),(.c (i64 0)),(.c (i64 99))]) 117 false [],
 ag 121 (.un .not (.t 120)) 117 false [],
 ao 122 (.pick (.t 117) (.c (.bool true)) (.t 121))] [1,5,122]) (.cond (.t 122) (.seq (.region false [
 ao 2 (.mv (.c (i64 20)))] [2]) (.ret)) (.skip))))) (.region false [
 ao 88 (.mv (.t 5)),
 ao 89 (.bin .add (.t 88) (.c (i64 1))),
 ao 5 (.mv (.t 89))] [1,5]))
def b50l2:AC:= .loop [1,5] [16,144,224,832,1072,1280] d50l2
def b50:AC:=
 .seq (.region false [
 ao 1 (.box (.t 0)),
 ao 2 (.mv (.c (i64 0)))] [1]) (.seq (.seq (.region false [
 ao 7 (.faddr 0 (.t 1)),
 ao 8 (.load (some 2) (.t 7)),
 ao 9 (.call 77 [(.t 8),(.c (i64 20))]),
 ao 10 (.un .not (.t 9)),
 ao 11 (.mv (.t 10)),
 ag 12 (.faddr 2 (.t 1)) 11 false [],
 ag 13 (.load (some 2) (.t 12)) 11 false [],
 ag 14 (.call 77 [(.t 13),(.c (i64 20))]) 11 false [],
 ag 15 (.un .not (.t 14)) 11 false [],
 ao 16 (.pick (.t 11) (.c (.bool true)) (.t 15)),
 ao 17 (.mv (.t 16)),
 ag 18 (.faddr 4 (.t 1)) 17 false [],
 ag 19 (.load none (.t 18)) 17 false [],
 ag 20 (.len (.t 19)) 17 false [],
 ag 21 (.bin .gtr (.t 20) (.c (i64 3))) 17 false [],
 ao 22 (.pick (.t 17) (.c (.bool true)) (.t 21)),
 ao 23 (.mv (.t 22)),
 ag 24 (.faddr 5 (.t 1)) 23 false [],
 ag 25 (.load none (.t 24)) 23 false [],
 ag 26 (.len (.t 25)) 23 false [],
 ag 27 (.bin .gtr (.t 26) (.c (i64 6))) 23 false [],
 ao 28 (.pick (.t 23) (.c (.bool true)) (.t 27)),
 ao 29 (.mv (.t 28)),
 ag 30 (.faddr 6 (.t 1)) 29 false [],
 ag 31 (.load none (.t 30)) 29 false [],
 ag 32 (.len (.t 31)) 29 false [],
 ag 33 (.faddr 5 (.t 1)) 29 false [],
 ag 34 (.load none (.t 33)) 29 false [],
 ag 35 (.len (.t 34)) 29 false [],
 ag 36 (.bin .sub (.t 35) (.c (i64 1))) 29 false [],
 ag 37 (.mm true (.c (i64 0)) (.t 36)) 29 false [],
 ag 38 (.bin .neq (.t 32) (.t 37)) 29 false [],
 ao 39 (.pick (.t 29) (.c (.bool true)) (.t 38))] [1,39]) (.cond (.t 39) (.seq (.region false [
 ao 2 (.mv (.c (i64 20)))] [2]) (.ret)) (.skip))) (.seq (.seq (.region false [
 ao 3 (.mv (.c (i64 0)))] [1,3]) (.block 0 (b50l0))) (.seq (.seq (.region false [
 ao 4 (.mv (.c (i64 0)))] [1,4]) (.block 2 (b50l1))) (.seq (.seq (.region false [
 ao 5 (.mv (.c (i64 0)))] [1,5]) (.block 4 (b50l2))) (.seq (.region false [
 ao 2 (.mv (.c (i64 0)))] [2]) (.ret))))))
def a50:AFn:=⟨1,[.t 2],b50,false⟩
def n50:Ann:=⟨[[1],[1,39],[2],[1,3],[1,3,44],[1,3,53],[2],[1,3],[1,4],[1,4,58],[1,4,82],[2],[1,4],[1,5],[1,5,87],[1,5,6],[1,5,122],[2],[1,5],[2]],[⟨[],[1,3],[16,96,144,224,1072,1280,1552,1632,1728,1824,1920]⟩,⟨[],[1,4],[16,96,144,224,832,1552,1632,1728,1824,1920]⟩,⟨[],[1,5],[16,144,224,832,1072,1280]⟩],[],[],[],false,[]⟩
def b51:AC:=
 .seq (.region false [
 ao 6 (.mv (.c (.bool false)))] [0,1,2]) (.seq (.region false [
 ao 7 (.mv (.t 0)),
 ao 8 (.mv (.t 1)),
 ao 9 (.mv (.t 2)),
 ao 10 (.call 9 [(.t 7),(.t 8),(.t 9)]),
 ao 6 (.mv (.t 10))] [6]) (.ret))
def a51:AFn:=⟨3,[.t 6],b51,false⟩
def n51:Ann:=⟨[[0,1,2],[6]],[],[],[],[],false,[(6,160)]⟩
def b52:AC:=
 .seq (.region false [
 ao 2 (.box (.t 0)),
 ao 4 (.mv (.c (.bool false)))] [1,2]) (.seq (.region false [
 ao 5 (.mv (.t 1)),
 ao 6 (.len (.t 5)),
 ao 7 (.bin .gtr (.t 6) (.c (i64 0))),
 ao 8 (.mv (.t 7)),
 ag 9 (.mv (.t 1)) 8 true [],
 ag 10 (.faddr 11 (.t 2)) 8 true [],
 ag 11 (.load none (.t 10)) 8 true [],
 ag 12 (.len (.t 11)) 8 true [],
 ag 13 (.bin .sub (.t 12) (.c (i64 1))) 8 true [],
 ag 14 (.call 33 [(.t 9),(.c (i64 0)),(.t 13)]) 8 true [],
 ao 15 (.pick (.t 8) (.t 14) (.c (.bool false))),
 ao 4 (.mv (.t 15))] [4]) (.ret))
def a52:AFn:=⟨2,[.t 4],b52,false⟩
def n52:Ann:=⟨[[1,2],[4]],[],[],[],[],false,[]⟩
def b53:AC:=
 .seq (.region false [
 ao 2 (.box (.t 0)),
 ao 4 (.mv (.c (.bool false)))] [1,2]) (.seq (.region false [
 ao 5 (.faddr 1 (.t 2)),
 ao 6 (.load none (.t 5)),
 ao 7 (.mv (.t 1)),
 ao 8 (.call 51 [(.t 6),(.c (i64 0)),(.t 7)]),
 ao 9 (.mv (.t 8)),
 ag 10 (.faddr 0 (.t 2)) 9 true [],
 ag 11 (.load none (.t 10)) 9 true [],
 ag 12 (.faddr 1 (.t 2)) 9 true [],
 ag 13 (.load none (.t 12)) 9 true [],
 ag 14 (.call 51 [(.t 11),(.c (i64 0)),(.t 13)]) 9 true [],
 ao 15 (.pick (.t 9) (.t 14) (.c (.bool false))),
 ao 4 (.mv (.t 15))] [4]) (.ret))
def a53:AFn:=⟨2,[.t 4],b53,false⟩
def n53:Ann:=⟨[[1,2],[4]],[],[],[],[],false,[(9,128)]⟩
def b54:AC:=
 .seq (.region false [
 ao 0 (.alloc [(i64 0),(i64 0),(.sl .full 1 []),(.sl .full 4 [])]),
 ao 1 (.alloc [(i64 0),(i64 0),(.sl .full 1 []),(.sl .full 4 [])])] [0,1]) (.seq (.region false [
 ao 2 (.lit [(i64 0)] 2 [(0,(.c (i64 0))),(1,(.c (i64 1)))]),
 ao 3 (.lit [(i64 0)] 1 [(0,(.c (i64 1)))]),
 ao 4 (.lit [(.sl .full 1 [])] 2 [(0,(.t 2)),(1,(.t 3))]),
 ao 5 (.call 79 [(.c (i64 0)),(.c (i64 0)),(.c (i64 5)),(.c (i64 6))]),
 ao 6 (.call 79 [(.c (i64 0)),(.c (i64 1)),(.c (i64 0)),(.c (i64 0))]),
 ao 7 (.call 79 [(.c (i64 1)),(.c (i64 0)),(.c (i64 3)),(.c (i64 8))]),
 ao 8 (.call 79 [(.c (i64 2)),(.c (i64 1)),(.c (i64 4)),(.c (i64 10))]),
 ao 9 (.lit [(i64 0),(i64 0),(i64 0),(i64 0)] 4 [(0,(.t 5)),(1,(.t 6)),(2,(.t 7)),(3,(.t 8))]),
 ao 10 (.build [(i64 0),(i64 0),(.sl .full 1 []),(.sl .full 4 [])] [(0,1,(.c (i64 2))),(1,1,(.c (i64 3))),(2,1,(.t 4)),(3,1,(.t 9))]),
 ⟨none, .store 4 (.t 0) (.t 10),none,[],[]⟩] [0,1]) (.seq (.region true (spl [
 ao 11 (.load (some 4) (.t 0)),
 ao 12 (.load (some 4) (.t 0)),
 ao 13 (.call 79 [(.c (i64 1)),(.c (i64 1)),(.c (i64 12)),(.c (i64 20))]),
 ap 14 (.call 29 [(.t 12),(.t 13)]) [1,2]] [
 ⟨none, .store 4 (.t 0) (.t 11),none,[3,0,1,2],[]⟩,
 ⟨none, .store 4 (.t 1) (.t 14),none,[4,3,0,1,2],[]⟩]) [0,1]) (.ret)))
def a54:AFn:=⟨0,[.cell 0 (some 4), .cell 1 (some 4)],b54,false⟩
def n54:Ann:=⟨[[0,1],[0,1],[0,1]],[],[],[],[],false,[]⟩
def b55:AC:=
 .seq (.region false [
 ao 3 (.box (.t 0)),
 ao 6 (.alloc [(i64 0),(i64 0)]),
 ao 7 (.mv (.c (i64 0)))] [1,2,3,6]) (.seq (.region true (spl [
 ao 11 (.load (some 4) (.t 3)),
 ao 12 (.load (some 4) (.t 3)),
 ao 13 (.mv (.t 1)),
 ao 14 (.mv (.t 2)),
 ap 15 (.call 81 [(.t 12),(.t 13),(.t 14)]) [1,2,3],
 ap 16 (.call 80 [(.t 11),(.t 15)]) [0,4,1,2,3],
 ap 10 (.mv (.t 16)) [5,0,4,1,2,3],
 ap 17 (.ext (.t 10) 0) [6,5,0,4,1,2,3],
 ap 18 (.ext (.t 10) 1) [6,5,0,4,1,2,3],
 ap 8 (.mv (.t 17)) [7,6,5,0,4,1,2,3]] [
 ap 9 (.mv (.t 18)) [8,9,7,6,5,0,4,1,2,3]]) [1,2,6,8,9]) (.seq (.seq (.region false [
 ao 19 (.mv (.t 9)),
 ao 20 (.bin .neq (.t 19) (.c (i64 0)))] [1,2,6,8,9,20]) (.cond (.t 20) (.seq (.region false [
 ao 21 (.build [(i64 0),(i64 0)] []),
 ao 22 (.mv (.t 9)),
 ⟨none, .store 2 (.t 6) (.t 21),none,[],[]⟩,
 ao 7 (.mv (.t 22))] [6,7]) (.ret)) (.skip))) (.seq (.region false [
 ao 23 (.mv (.t 8)),
 ao 24 (.mv (.t 1)),
 ao 25 (.mv (.t 2)),
 ao 26 (.call 82 [(.t 23),(.t 24),(.t 25)]),
 ⟨none, .store 2 (.t 6) (.t 26),none,[],[]⟩,
 ao 7 (.mv (.c (i64 0)))] [6,7]) (.ret))))
def a55:AFn:=⟨3,[.cell 6 (some 2), .t 7],b55,false⟩
def n55:Ann:=⟨[[1,2,3,6],[1,2,6,8,9],[1,2,6,8,9,20],[6,7],[6,7]],[],[],[],[],false,[(23,256),(7,256),(22,256),(19,256),(9,256),(8,256),(18,256),(17,256),(10,256)]⟩
def b56:AC:=
 .seq (.region false [
 ao 1 (.box (.t 0)),
 ao 2 (.mv (.c (i64 0))),
 ao 3 (.mv (.c (i64 0)))] [1]) (.seq (.region false [
 ao 7 (.load (some 15) (.t 1)),
 ao 8 (.call 60 [(.t 7),(.c (.bool true))]),
 ao 6 (.mv (.t 8)),
 ao 9 (.ext (.t 6) 0),
 ao 10 (.ext (.t 6) 1),
 ao 4 (.mv (.t 9)),
 ao 5 (.mv (.t 10))] [1,4,5]) (.seq (.seq (.region false [
 ao 11 (.mv (.t 5)),
 ao 12 (.bin .neq (.t 11) (.c (i64 0)))] [1,4,5,12]) (.cond (.t 12) (.seq (.region false [
 ao 13 (.mv (.t 5)),
 ao 2 (.mv (.c (i64 0))),
 ao 3 (.mv (.t 13))] [2,3]) (.ret)) (.skip))) (.seq (.region false [
 ao 14 (.mv (.t 4)),
 ao 15 (.faddr 13 (.t 1)),
 ao 16 (.load none (.t 15)),
 ao 17 (.call 83 [(.t 14),(.c (i64 0)),(.t 16)]),
 ao 2 (.mv (.t 17)),
 ao 3 (.mv (.c (i64 0)))] [2,3]) (.ret))))
def a56:AFn:=⟨1,[.t 2, .t 3],b56,false⟩
def n56:Ann:=⟨[[1],[1,4,5],[1,4,5,12],[2,3],[2,3]],[],[],[],[],false,[(2,272),(14,128),(3,128),(13,128),(11,128),(5,128),(4,128),(10,128),(9,128),(6,128)]⟩
def b57:AC:=
 .seq (.region false [
 ao 0 (.alloc [(i64 0),(i64 0),(i64 0),(i64 0),(.sl .full 2 []),(.sl .full 2 []),(.sl .full 5 []),(i64 0),(i64 0),(.sl .full 2 []),(.sl .full 2 []),(.sl .full 4 []),(.sl .full 1 []),(.sl .full 1 []),(.sl .full 2 [])])] [0]) (.seq (.region false [
 ao 4 (.call 84 [(.c (i64 2)),(.c (i64 4))]),
 ao 5 (.call 84 [(.c (i64 1)),(.c (i64 3))]),
 ao 6 (.call 84 [(.c (i64 2)),(.c (i64 3))]),
 ao 7 (.call 84 [(.c (i64 1)),(.c (i64 4))]),
 ao 8 (.lit [(i64 0),(i64 0)] 2 [(0,(.t 6)),(1,(.t 7))]),
 ao 9 (.build [(i64 0),(i64 0)] [(0,1,(.c (i64 6))),(1,1,(.c (i64 0)))]),
 ao 10 (.build [(i64 0),(i64 0)] [(0,1,(.c (i64 5))),(1,1,(.c (i64 1)))]),
 ao 11 (.build [(i64 0),(i64 0)] [(0,1,(.c (i64 4))),(1,1,(.c (i64 0)))]),
 ao 12 (.lit [(i64 0),(i64 0)] 3 [(0,(.t 9)),(1,(.t 10)),(2,(.t 11))]),
 ao 13 (.build [(i64 0),(i64 0),(i64 0),(i64 0),(i64 0)] [(0,1,(.c (i64 2))),(1,1,(.c (i64 1))),(2,1,(.c (i64 3))),(3,1,(.c (i64 8))),(4,1,(.c (i64 9)))]),
 ao 14 (.build [(i64 0),(i64 0),(i64 0),(i64 0),(i64 0)] [(0,1,(.c (i64 1))),(1,1,(.c (i64 2))),(2,1,(.c (i64 2))),(3,1,(.c (i64 6))),(4,1,(.c (i64 6)))]),
 ao 15 (.lit [(i64 0),(i64 0),(i64 0),(i64 0),(i64 0)] 2 [(0,(.t 13)),(1,(.t 14))]),
 ao 16 (.build [(i64 0),(i64 0),(i64 0),(i64 0),(.sl .full 2 []),(.sl .full 2 []),(.sl .full 5 [])] [(0,2,(.t 4)),(2,2,(.t 5)),(4,1,(.t 8)),(5,1,(.t 12)),(6,1,(.t 15))]),
 ao 1 (.alloc [(i64 0),(i64 0),(i64 0),(i64 0),(.sl .full 2 []),(.sl .full 2 []),(.sl .full 5 [])]),
 ⟨none, .store 7 (.t 1) (.t 16),none,[],[]⟩] [0,1]) (.seq (.region false [
 ao 18 (.call 38 []),
 ao 17 (.mv (.t 18)),
 ao 19 (.ext (.t 17) 0),
 ao 20 (.ext (.t 17) 1),
 ao 2 (.alloc [(i64 0),(i64 0),(.sl .full 2 []),(.sl .full 2 [])]),
 ao 3 (.alloc [(i64 0),(i64 0),(.sl .full 2 []),(.sl .full 2 [])]),
 ⟨none, .store 4 (.t 2) (.t 19),none,[],[]⟩,
 ⟨none, .store 4 (.t 3) (.t 20),none,[],[]⟩] [0,1,2]) (.seq (.region true (spl [
 ao 21 (.load (some 7) (.t 1)),
 ao 22 (.load (some 4) (.t 2)),
 ao 23 (.call 84 [(.c (i64 0)),(.c (i64 1))]),
 ap 24 (.call 84 [(.c (i64 0)),(.c (i64 0))]) [2],
 ap 25 (.build [(i64 0),(i64 0),(i64 0),(i64 0)] [(0,2,(.t 23)),(2,2,(.t 24))]) [3,2],
 ap 26 (.call 84 [(.c (i64 2)),(.c (i64 4))]) [3,2],
 ap 27 (.call 84 [(.c (i64 1)),(.c (i64 3))]) [5,3,2],
 ap 28 (.build [(i64 0),(i64 0),(i64 0),(i64 0)] [(0,2,(.t 26)),(2,2,(.t 27))]) [6,5,3,2],
 ap 29 (.lit [(i64 0),(i64 0),(i64 0),(i64 0)] 2 [(0,(.t 25)),(1,(.t 28))]) [4,7,6,5,3,2],
 ao 30 (.lit [(i64 0)] 2 [(0,(.c (i64 0))),(1,(.c (i64 1)))]),
 ao 31 (.lit [(i64 0)] 1 [(0,(.c (i64 0)))]),
 ap 32 (.lit [(.sl .full 1 [])] 2 [(0,(.t 30)),(1,(.t 31))]) [9,10],
 ao 33 (.lit [(i64 0)] 2 [(0,(.c (i64 0))),(1,(.c (i64 1)))]),
 ap 34 (.call 84 [(.c (i64 60)),(.c (i64 80))]) [6,5,3,2],
 ap 35 (.call 84 [(.c (i64 90)),(.c (i64 120))]) [13,6,5,3,2],
 ap 36 (.call 84 [(.c (i64 100)),(.c (i64 121))]) [14,13,6,5,3,2],
 ap 37 (.lit [(i64 0),(i64 0)] 3 [(0,(.t 34)),(1,(.t 35)),(2,(.t 36))]) [15,14,13,6,5,3,2]] [
 ap 38 (.build [(i64 0),(i64 0),(i64 0),(i64 0),(.sl .full 2 []),(.sl .full 2 []),(.sl .full 5 []),(i64 0),(i64 0),(.sl .full 2 []),(.sl .full 2 []),(.sl .full 4 []),(.sl .full 1 []),(.sl .full 1 []),(.sl .full 2 [])] [(0,7,(.t 21)),(7,4,(.t 22)),(11,1,(.t 29)),(12,1,(.t 32)),(13,1,(.t 33)),(14,1,(.t 37))]) [0,1,8,11,12,16,4,7,9,10,15,14,13,6,5,3,2],
 ⟨none, .store 15 (.t 0) (.t 38),none,[17,0,1,8,11,12,16,4,7,9,10,15,14,13,6,5,3,2],[]⟩]) [0]) (.ret))))
def a57:AFn:=⟨0,[.cell 0 (some 15)],b57,false⟩
def n57:Ann:=⟨[[0],[0,1],[0,1,2],[0]],[],[],[],[],false,[(20,288),(19,288),(17,288)]⟩
def b58:AC:=
 .seq (.region false [
 ao 1 (.box (.t 0)),
 ao 2 (.alloc [(i64 0),(i64 0),(i64 0),(i64 0),(.sl .full 2 []),(.sl .full 2 []),(.sl .full 5 [])])] [1,2]) (.seq (.region false [
 ao 4 (.load (some 7) (.t 1)),
 ao 3 (.alloc [(i64 0),(i64 0),(i64 0),(i64 0),(.sl .full 2 []),(.sl .full 2 []),(.sl .full 5 [])]),
 ⟨none, .store 7 (.t 3) (.t 4),none,[],[]⟩] [1,2,3]) (.seq (.region false [
 ao 5 (.lit [(i64 0),(i64 0)] 0 []),
 ao 6 (.faddr 4 (.t 1)),
 ao 7 (.load none (.t 6)),
 ao 8 (.appm 2 16 (.t 5) (.t 7)),
 ao 9 (.faddr 4 (.t 3)),
 ⟨none, .store 1 (.t 9) (.t 8),none,[],[]⟩] [1,2,3]) (.seq (.region false [
 ao 10 (.lit [(i64 0),(i64 0)] 0 []),
 ao 11 (.faddr 5 (.t 1)),
 ao 12 (.load none (.t 11)),
 ao 13 (.appm 2 16 (.t 10) (.t 12)),
 ao 14 (.faddr 5 (.t 3)),
 ⟨none, .store 1 (.t 14) (.t 13),none,[],[]⟩] [1,2,3]) (.seq (.region false [
 ao 15 (.lit [(i64 0),(i64 0),(i64 0),(i64 0),(i64 0)] 0 []),
 ao 16 (.faddr 6 (.t 1)),
 ao 17 (.load none (.t 16)),
 ao 18 (.appm 5 40 (.t 15) (.t 17)),
 ao 19 (.faddr 6 (.t 3)),
 ⟨none, .store 1 (.t 19) (.t 18),none,[],[]⟩] [2,3]) (.seq (.region false [
 ao 20 (.load (some 7) (.t 3)),
 ⟨none, .store 7 (.t 2) (.t 20),none,[],[]⟩] [2]) (.ret))))))
def a58:AFn:=⟨1,[.cell 2 (some 7)],b58,true⟩
def n58:Ann:=⟨[[1,2],[1,2,3],[1,2,3],[1,2,3],[2,3],[2]],[],[],[],[8,13,18],true,[]⟩
def b59:AC:=
 .seq (.region false [
 ao 2 (.box (.t 0)),
 ao 4 (.mv (.c (.bool false)))] [1,2]) (.seq (.region false [
 ao 5 (.mv (.t 1)),
 ao 6 (.faddr 0 (.t 2)),
 ao 7 (.load none (.t 6)),
 ao 8 (.bin .sub (.t 7) (.c (i64 1))),
 ao 9 (.call 9 [(.t 5),(.c (i64 0)),(.t 8)]),
 ao 4 (.mv (.t 9))] [4]) (.ret))
def a59:AFn:=⟨2,[.t 4],b59,false⟩
def n59:Ann:=⟨[[1,2],[4]],[],[],[],[],false,[(4,144)]⟩
@[simp] def d60l0:AC:=
 .seq (.region false [
 ao 30 (.bin .lss (.t 29) (.t 28))] [2,7,27,28,29,30]) (.seq (.cond (.t 30) (.skip) (.exit 0)) (.seq (.block 1 (.seq (.region false [
 ao 31 (.mv (.t 29)),
 ao 32 (.idxs 4 (.t 27) (.t 29)),
 ao 33 (.load (some 4) (.t 32)),
 ao 9 (.alloc [(i64 0),(i64 0),(i64 0),(i64 0)]),
 ao 8 (.mv (.t 31)),
 ⟨none, .store 4 (.t 9) (.t 33),none,[],[]⟩] [2,7,8,9,27,28,29]) (.seq (.region false [
 ao 34 (.faddr 0 (.t 2)),
 ao 35 (.load (some 7) (.t 34)),
 ao 10 (.alloc [(i64 0),(i64 0),(i64 0),(i64 0),(.sl .full 2 []),(.sl .full 2 []),(.sl .full 5 [])]),
 ⟨none, .store 7 (.t 10) (.t 35),none,[],[]⟩] [2,7,8,9,10,27,28,29]) (.seq (.region true (spl [
 ao 36 (.faddr 0 (.t 9)),
 ap 37 (.load (some 2) (.t 36)) [0],
 ⟨(some 38), .faddr 2 (.t 9),none,[],[160]⟩,
 ⟨(some 39), .load (some 2) (.t 38),none,[2],[160]⟩,
 ap 40 (.faddr 0 (.t 10)) [1,0],
 ⟨none, .store 2 (.t 40) (.t 37),none,[4,1,0],[]⟩] [
 ap 41 (.faddr 2 (.t 10)) [3,5,2,4,1,0],
 ⟨none, .store 2 (.t 41) (.t 39),none,[6,3,5,2,4,1,0],[]⟩]) [2,7,8,10,27,28,29]) (.region true (spl [
 ao 43 (.mv (.t 7)),
 ao 44 (.mv (.t 8)),
 ao 45 (.load (some 7) (.t 10)),
 ap 46 (.call 86 [(.t 45)]) [2],
 ap 42 (.mv (.t 46)) [3,2],
 ap 47 (.ext (.t 42) 0) [4,3,2],
 ⟨(some 48), .ext (.t 42) 1,none,[4,3,2],[400]⟩,
 ap 49 (.nilck (.t 43)) [0],
 ap 50 (.faddr 15 (.t 49)) [7,0],
 ap 51 (.idxa 4 1 (.t 50) (.t 44)) [8,1,5,7,0,4,3,2],
 ⟨none, .store 1 (.t 51) (.t 47),none,[9,8,1,5,7,0,4,3,2],[]⟩] [
 ]) [2,7,27,28,29]))))) (.region false [
 ao 52 (.bin .add (.t 29) (.c (i64 1))),
 ao 29 (.mv (.t 52))] [2,7,27,28,29])))
def b60l0:AC:= .loop [2,7,27,28,29] [32,192,208,272,400,1072] d60l0
@[simp] def d60l1:AC:=
 .seq (.region false [
 ao 57 (.bin .lss (.t 56) (.t 55))] [2,7,54,55,56,57]) (.seq (.cond (.t 57) (.skip) (.exit 2)) (.seq (.block 3 (.seq (.region false [
 ao 58 (.mv (.t 56)),
 ao 59 (.idxs 2 (.t 54) (.t 56)),
 ao 60 (.load (some 2) (.t 59)),
 ao 12 (.alloc [(i64 0),(i64 0)]),
 ao 11 (.mv (.t 58)),
 ⟨none, .store 2 (.t 12) (.t 60),none,[],[]⟩] [2,7,11,12,54,55,56]) (.seq (.region false [
 ao 61 (.faddr 7 (.t 2)),
 ao 62 (.load (some 4) (.t 61)),
 ao 13 (.alloc [(i64 0),(i64 0),(.sl .full 2 []),(.sl .full 2 [])]),
 ⟨none, .store 4 (.t 13) (.t 62),none,[],[]⟩] [2,7,11,12,13,54,55,56]) (.seq (.region false [
 ao 63 (.load (some 2) (.t 12)),
 ao 64 (.faddr 0 (.t 13)),
 ⟨none, .store 2 (.t 64) (.t 63),none,[],[]⟩] [2,7,11,13,54,55,56]) (.seq (.region false [
 ao 66 (.load (some 4) (.t 13)),
 ao 67 (.call 40 [(.t 66)]),
 ao 65 (.mv (.t 67)),
 ao 68 (.ext (.t 65) 0),
 ao 69 (.ext (.t 65) 1),
 ao 14 (.mv (.t 68)),
 ao 15 (.mv (.t 69))] [2,7,11,15,54,55,56]) (.seq (.region false [
 ao 70 (.mv (.t 15)),
 ao 71 (.bin .eql (.t 70) (.c (i64 0)))] [2,7,11,54,55,56,71]) (.cond (.t 71) (.region false [
 ao 72 (.mv (.t 7)),
 ao 73 (.mv (.t 11)),
 ao 74 (.nilck (.t 72)),
 ao 75 (.faddr 19 (.t 74)),
 ao 76 (.idxa 5 1 (.t 75) (.t 73)),
 ⟨none, .store 1 (.t 76) (.c (i64 1)),none,[],[]⟩] [2,7,54,55,56]) (.skip)))))))) (.region false [
 ao 77 (.bin .add (.t 56) (.c (i64 1))),
 ao 56 (.mv (.t 77))] [2,7,54,55,56])))
def b60l1:AC:= .loop [2,7,54,55,56] [32,144,160,272,400,736] d60l1
def b60:AC:=
 .seq (.region false [
 ao 2 (.box (.t 0)),
 ao 4 (.mv (.c .nilp)),
 ao 5 (.mv (.c (i64 0)))] [1,2]) (.seq (.seq (.region false [
 ao 16 (.load (some 15) (.t 2)),
 ao 17 (.call 85 [(.t 16)]),
 ao 6 (.mv (.t 17))] [1,2,6]) (.seq (.region false [
 ao 18 (.mv (.t 6)),
 ao 19 (.bin .neq (.t 18) (.c (i64 0)))] [1,2,6,19]) (.cond (.t 19) (.seq (.region false [
 ao 20 (.mv (.t 6)),
 ao 4 (.mv (.c .nilp)),
 ao 5 (.mv (.t 20))] [4,5]) (.ret)) (.skip)))) (.seq (.seq (.region false [
 ao 21 (.mv (.t 1)),
 ao 22 (.un .not (.t 21))] [2,22]) (.cond (.t 22) (.seq (.region false [
 ao 4 (.mv (.c .nilp)),
 ao 5 (.mv (.c (i64 1)))] [4,5]) (.ret)) (.skip))) (.seq (.region false [
 ao 23 (.load (some 15) (.t 2)),
 ao 24 (.build [(i64 0),(i64 0),(i64 0),(i64 0),(.sl .full 2 []),(.sl .full 2 []),(.sl .full 5 []),(i64 0),(i64 0),(.sl .full 2 []),(.sl .full 2 []),(.sl .full 4 []),(.sl .full 1 []),(.sl .full 1 []),(.sl .full 2 []),(i64 0),(i64 0),(i64 0),(i64 0),(i64 0),(i64 0),(i64 0),(i64 0),(i64 0)] [(0,15,(.t 23))]),
 ao 25 (.box (.t 24)),
 ao 7 (.mv (.t 25))] [2,7]) (.seq (.seq (.region false [
 ao 26 (.faddr 11 (.t 2)),
 ao 27 (.load none (.t 26)),
 ao 28 (.len (.t 27)),
 ao 29 (.mv (.c (i64 0)))] [2,7,27,28,29]) (.block 0 (b60l0))) (.seq (.seq (.region false [
 ao 53 (.faddr 14 (.t 2)),
 ao 54 (.load none (.t 53)),
 ao 55 (.len (.t 54)),
 ao 56 (.mv (.c (i64 0)))] [2,7,54,55,56]) (.block 2 (b60l1))) (.seq (.region false [
 ao 78 (.mv (.t 7)),
 ao 4 (.mv (.t 78)),
 ao 5 (.mv (.c (i64 0)))] [4,5]) (.ret)))))))
def a60:AFn:=⟨2,[.t 4, .t 5],b60,false⟩
def n60:Ann:=⟨[[1,2],[1,2,6],[1,2,6,19],[4,5],[2,22],[4,5],[2,7],[2,7,27,28,29],[2,7,27,28,29,30],[2,7,8,9,27,28,29],[2,7,8,9,10,27,28,29],[2,7,8,10,27,28,29],[2,7,27,28,29],[2,7,27,28,29],[2,7,54,55,56],[2,7,54,55,56,57],[2,7,11,12,54,55,56],[2,7,11,12,13,54,55,56],[2,7,11,13,54,55,56],[2,7,11,15,54,55,56],[2,7,11,54,55,56,71],[2,7,54,55,56],[2,7,54,55,56],[4,5]],[⟨[],[2,7,27,28,29],[32,192,208,272,400,1072]⟩,⟨[],[2,7,54,55,56],[32,144,160,272,400,736]⟩],[],[],[],false,[(4,400),(78,400),(72,400),(70,1072),(15,1072),(14,1072),(69,1072),(68,1072),(65,1072),(48,736),(47,736),(42,736),(43,400),(7,400),(5,272),(20,272),(18,272),(6,272)]⟩
def b61:AC:=
 .seq (.region false [
 ao 2 (.box (.t 0)),
 ao 3 (.box (.t 1))] [2,3]) (.seq (.region false [
 ao 4 (.alloc [.nilf])] [2,3,4]) (.seq (.region false [
 ao 5 (.mkfn 87 [] [(.t 2),(.t 3),(.t 4)]),
 ⟨none, .store 1 (.t 4) (.t 5),none,[],[]⟩] [2,4]) (.region true (spl [
 ao 6 (.load none (.t 4)),
 ao 7 (.load none (.t 2)),
 ap 8 (.nilck (.t 7)) [1],
 ap 9 (.faddr 0 (.t 8)) [2,1],
 ap 10 (.faddr 13 (.t 9)) [3,2,1],
 ap 11 (.load none (.t 10)) [4,3,2,1]] [
 ap 12 (.callv (.t 6) [(.c (.sl .full 1 [])),(.t 11)]) [0,5,4,3,2,1]]) [])))
def a61:AFn:=⟨2,[],b61,false⟩
def n61:Ann:=⟨[[2,3],[2,3,4],[2,4],[]],[],[],[],[],false,[]⟩
def b62:AC:=
 .seq (.region false [
 ao 6 (.mv (.c (.bool false)))] [0,1,2]) (.seq (.region false [
 ao 7 (.mv (.t 0)),
 ao 8 (.mv (.t 2)),
 ao 9 (.nilck (.t 7)),
 ao 10 (.faddr 15 (.t 9)),
 ao 11 (.idxa 4 1 (.t 10) (.t 8)),
 ao 12 (.load none (.t 11)),
 ao 13 (.bin .eql (.t 12) (.c (i64 1))),
 ao 14 (.mv (.t 13)),
 ag 15 (.mv (.t 0)) 14 true [],
 ag 16 (.mv (.t 1)) 14 true [],
 ag 17 (.nilck (.t 15)) 14 true [],
 ag 18 (.faddr 19 (.t 17)) 14 true [],
 ag 19 (.idxa 5 1 (.t 18) (.t 16)) 14 true [],
 ag 20 (.load none (.t 19)) 14 true [],
 ag 21 (.bin .eql (.t 20) (.c (i64 1))) 14 true [],
 ao 22 (.pick (.t 14) (.t 21) (.c (.bool false))),
 ao 6 (.mv (.t 22))] [6]) (.ret))
def a62:AFn:=⟨3,[.t 6],b62,false⟩
def n62:Ann:=⟨[[0,1,2],[6]],[],[],[],[],false,[]⟩
@[simp] def d63l0:AC:=
 .seq (.seq (.region false [
 ao 5 (.mv (.t 4)),
 ao 6 (.mv (.t 0)),
 ao 7 (.len (.t 6)),
 ao 8 (.bin .lss (.t 5) (.t 7))] [0,3,4,8]) (.cond (.t 8) (.skip) (.exit 0))) (.seq (.block 1 (.region false [
 ao 11 (.mv (.t 3)),
 ao 12 (.mv (.t 0)),
 ao 13 (.mv (.t 4)),
 ao 14 (.idxs 1 (.t 12) (.t 13)),
 ao 15 (.load none (.t 14)),
 ao 16 (.bin .add (.t 11) (.t 15)),
 ao 3 (.mv (.t 16))] [0,3,4])) (.region false [
 ao 9 (.mv (.t 4)),
 ao 10 (.bin .add (.t 9) (.c (i64 1))),
 ao 4 (.mv (.t 10))] [0,3,4]))
def b63l0:AC:= .loop [0,3,4] [] d63l0
def b63:AC:=
 .seq (.region false [
 ao 2 (.mv (.c (i64 0)))] [0]) (.seq (.region false [
 ao 3 (.mv (.c (i64 0)))] [0,3]) (.seq (.seq (.region false [
 ao 4 (.mv (.c (i64 0)))] [0,3,4]) (.block 0 (b63l0))) (.seq (.region false [
 ao 17 (.mv (.t 3)),
 ao 2 (.mv (.t 17))] [2]) (.ret))))
def a63:AFn:=⟨1,[.t 2],b63,false⟩
def n63:Ann:=⟨[[0],[0,3],[0,3,4],[0,3,4,8],[0,3,4],[0,3,4],[2]],[⟨[],[0,3,4],[]⟩],[],[],[],false,[]⟩
@[simp] def d65l0:AC:=
 .seq (.region false [
 ao 28 (.bin .lss (.t 27) (.t 26))] [2,7,8,9,25,26,27,28]) (.seq (.cond (.t 28) (.skip) (.exit 0)) (.seq (.block 1 (.seq (.region false [
 ao 29 (.idxs 2 (.t 25) (.t 27)),
 ao 30 (.load (some 2) (.t 29)),
 ao 11 (.alloc [(i64 0),(i64 0)]),
 ⟨none, .store 2 (.t 11) (.t 30),none,[],[]⟩] [2,7,8,9,11,25,26,27]) (.region true (spl [
 ao 31 (.mv (.t 8)),
 ao 32 (.faddr 0 (.t 11)),
 ap 33 (.load none (.t 32)) [1],
 ap 34 (.bin .add (.t 31) (.t 33)) [0,2,1],
 ao 35 (.mv (.t 9)),
 ao 36 (.faddr 1 (.t 11)),
 ap 37 (.load none (.t 36)) [5],
 ap 38 (.bin .add (.t 35) (.t 37)) [4,6,5],
 ap 8 (.mv (.t 34)) [3,0,2,1]] [
 ap 9 (.mv (.t 38)) [7,8,4,6,5,3,0,2,1]]) [2,7,8,9,25,26,27]))) (.region false [
 ao 39 (.bin .add (.t 27) (.c (i64 1))),
 ao 27 (.mv (.t 39))] [2,7,8,9,25,26,27])))
def b65l0:AC:= .loop [2,7,8,9,25,26,27] [32,208,240,368] d65l0
@[simp] def d65l1:AC:=
 .seq (.region false [
 ao 44 (.bin .lss (.t 43) (.t 42))] [7,8,9,41,42,43,44]) (.seq (.cond (.t 44) (.skip) (.exit 2)) (.seq (.block 3 (.seq (.region false [
 ao 45 (.mv (.t 43)),
 ao 46 (.idxs 2 (.t 41) (.t 43)),
 ao 47 (.load (some 2) (.t 46)),
 ao 13 (.alloc [(i64 0),(i64 0)]),
 ao 12 (.mv (.t 45)),
 ⟨none, .store 2 (.t 13) (.t 47),none,[],[]⟩] [7,8,9,12,13,41,42,43]) (.region true (spl [
 ao 48 (.mv (.t 7)),
 ao 49 (.mv (.t 12)),
 ao 50 (.faddr 0 (.t 13)),
 ap 51 (.load none (.t 50)) [2],
 ao 52 (.mv (.t 9)),
 ao 53 (.faddr 1 (.t 13)),
 ap 54 (.load none (.t 53)) [5],
 ap 55 (.bin .sub (.t 52) (.t 54)) [4,6,5],
 ap 56 (.bin .sub (.c (i64 12)) (.t 55)) [7,4,6,5],
 ap 57 (.mm true (.t 51) (.t 56)) [3,8,2,7,4,6,5],
 ao 58 (.faddr 1 (.t 13)),
 ap 59 (.load none (.t 58)) [10],
 ao 60 (.mv (.t 8)),
 ao 61 (.faddr 0 (.t 13)),
 ap 62 (.load none (.t 61)) [13],
 ap 63 (.bin .sub (.t 60) (.t 62)) [12,14,13],
 ap 64 (.bin .sub (.c (i64 12)) (.t 63)) [15,12,14,13],
 ap 65 (.mm false (.t 59) (.t 64)) [11,16,10,15,12,14,13],
 ap 66 (.build [(i64 0),(i64 0)] [(0,1,(.t 57)),(1,1,(.t 65))]) [9,17,3,8,2,7,4,6,5,11,16,10,15,12,14,13],
 ap 67 (.nilck (.t 48)) [0],
 ap 68 (.faddr 4 (.t 67)) [19,0]] [
 ap 69 (.idxa 4 2 (.t 68) (.t 49)) [20,1,18,19,0,9,17,3,8,2,7,4,6,5,11,16,10,15,12,14,13],
 ⟨none, .store 2 (.t 69) (.t 66),none,[21,20,1,18,19,0,9,17,3,8,2,7,4,6,5,11,16,10,15,12,14,13],[]⟩]) [7,8,9,41,42,43]))) (.region false [
 ao 70 (.bin .add (.t 43) (.c (i64 1))),
 ao 43 (.mv (.t 70))] [7,8,9,41,42,43])))
def b65l1:AC:= .loop [7,8,9,41,42,43] [32,176,240,368] d65l1
def b65:AC:=
 .seq (.region false [
 ao 2 (.box (.t 0)),
 ao 4 (.mv (.c .nilp)),
 ao 5 (.mv (.c (i64 0)))] [1,2]) (.seq (.seq (.region false [
 ao 14 (.load (some 4) (.t 2)),
 ao 15 (.call 88 [(.t 14)]),
 ao 6 (.mv (.t 15))] [1,2,6]) (.seq (.region false [
 ao 16 (.mv (.t 6)),
 ao 17 (.bin .neq (.t 16) (.c (i64 0)))] [1,2,6,17]) (.cond (.t 17) (.seq (.region false [
 ao 18 (.mv (.t 6)),
 ao 4 (.mv (.c .nilp)),
 ao 5 (.mv (.t 18))] [4,5]) (.ret)) (.skip)))) (.seq (.seq (.region false [
 ao 19 (.mv (.t 1)),
 ao 20 (.un .not (.t 19))] [2,20]) (.cond (.t 20) (.seq (.region false [
 ao 4 (.mv (.c .nilp)),
 ao 5 (.mv (.c (i64 1)))] [4,5]) (.ret)) (.skip))) (.seq (.region false [
 ao 21 (.load (some 4) (.t 2)),
 ao 22 (.build [(i64 0),(i64 0),(.sl .full 2 []),(.sl .full 2 []),(i64 0),(i64 0),(i64 0),(i64 0),(i64 0),(i64 0),(i64 0),(i64 0)] [(0,4,(.t 21))]),
 ao 23 (.box (.t 22)),
 ao 7 (.mv (.t 23))] [2,7]) (.seq (.region false [
 ao 8 (.mv (.c (i64 0))),
 ao 9 (.mv (.c (i64 0)))] [2,7,8,9]) (.seq (.seq (.region false [
 ao 24 (.faddr 2 (.t 2)),
 ao 25 (.load none (.t 24)),
 ao 26 (.len (.t 25)),
 ao 27 (.mv (.c (i64 0)))] [2,7,8,9,25,26,27]) (.block 0 (b65l0))) (.seq (.seq (.region false [
 ao 40 (.faddr 2 (.t 2)),
 ao 41 (.load none (.t 40)),
 ao 42 (.len (.t 41)),
 ao 43 (.mv (.c (i64 0)))] [7,8,9,41,42,43]) (.block 2 (b65l1))) (.seq (.region false [
 ao 71 (.mv (.t 7)),
 ao 4 (.mv (.t 71)),
 ao 5 (.mv (.c (i64 0)))] [4,5]) (.ret))))))))
def a65:AFn:=⟨2,[.t 4, .t 5],b65,false⟩
def n65:Ann:=⟨[[1,2],[1,2,6],[1,2,6,17],[4,5],[2,20],[4,5],[2,7],[2,7,8,9],[2,7,8,9,25,26,27],[2,7,8,9,25,26,27,28],[2,7,8,9,11,25,26,27],[2,7,8,9,25,26,27],[2,7,8,9,25,26,27],[7,8,9,41,42,43],[7,8,9,41,42,43,44],[7,8,9,12,13,41,42,43],[7,8,9,41,42,43],[7,8,9,41,42,43],[4,5]],[⟨[],[2,7,8,9,25,26,27],[32,208,240,368]⟩,⟨[],[7,8,9,41,42,43],[32,176,240,368]⟩],[],[],[],false,[(4,368),(71,368),(48,368),(7,368),(5,240),(18,240),(16,240),(6,240)]⟩
@[simp] def d66l0:AC:=
 .seq (.region false [
 ao 18 (.bin .lss (.t 17) (.t 16))] [1,2,3,4,5,15,16,17,18]) (.seq (.cond (.t 18) (.skip) (.exit 2)) (.seq (.block 3 (.seq (.region false [
 ao 19 (.idxs 1 (.t 15) (.t 17)),
 ao 20 (.load none (.t 19)),
 ao 7 (.mv (.t 20))] [1,2,3,4,5,7,15,16,17]) (.region false [
 ao 21 (.mv (.t 5)),
 ao 22 (.load none (.t 1)),
 ao 23 (.nilck (.t 22)),
 ao 24 (.faddr 0 (.t 23)),
 ao 25 (.faddr 3 (.t 24)),
 ao 26 (.load none (.t 25)),
 ao 27 (.mv (.t 7)),
 ao 28 (.idxs 2 (.t 26) (.t 27)),
 ao 29 (.faddr 1 (.t 28)),
 ao 30 (.load none (.t 29)),
 ao 31 (.bin .add (.t 21) (.t 30)),
 ao 5 (.mv (.t 31))] [1,2,3,4,5,15,16,17]))) (.region false [
 ao 32 (.bin .add (.t 17) (.c (i64 1))),
 ao 17 (.mv (.t 32))] [1,2,3,4,5,15,16,17])))
def b66l0:AC:= .loop [1,2,3,4,5,15,16,17] [16,32,48,208] d66l0
def b66l1:AC:=
 .region false [
 ao 4 (.mv (.t 10))] [1,2,3,4]
def b66l2:AC:=
 .block 1 (.seq (.seq (.region false [
 ao 11 (.load none (.t 1)),
 ao 12 (.mv (.t 4)),
 ao 13 (.call 74 [(.t 11),(.t 12)]),
 ao 14 (.un .not (.t 13))] [1,2,3,4,14]) (.cond (.t 14) (.exit 1) (.skip))) (.seq (.region false [
 ao 5 (.mv (.c (i64 0)))] [1,2,3,4,5]) (.seq (.seq (.region false [
 ao 15 (.mv (.t 4)),
 ao 16 (.len (.t 15)),
 ao 17 (.mv (.c (i64 0)))] [1,2,3,4,5,15,16,17]) (.block 2 (b66l0))) (.seq (.region false [
 ao 33 (.load none (.t 3)),
 ao 34 (.bin .lss (.t 33) (.c (i64 0))),
 ao 35 (.mv (.t 34)),
 ag 36 (.mv (.t 5)) 35 false [],
 ag 37 (.load none (.t 3)) 35 false [],
 ag 38 (.bin .lss (.t 36) (.t 37)) 35 false [],
 ao 39 (.pick (.t 35) (.c (.bool true)) (.t 38))] [2,3,4,5,39]) (.cond (.t 39) (.region false [
 ao 40 (.mv (.t 4)),
 ao 41 (.mv (.t 5)),
 ⟨none, .store 1 (.t 2) (.t 40),none,[],[]⟩,
 ⟨none, .store 1 (.t 3) (.t 41),none,[],[]⟩] [2,3]) (.skip))))))
def b66:AC:=
 .seq (.region false [
 ao 1 (.box (.t 0)),
 ao 2 (.alloc [(.sl .full 1 [])]),
 ao 3 (.alloc [(i64 0)])] [1,2,3]) (.seq (.region false [
 ⟨none, .store 1 (.t 3) (.c (i64 (-1))),none,[],[]⟩] [1,2,3]) (.seq (.seq (.region false [
 ao 8 (.load none (.t 1)),
 ao 9 (.mkfn 89 [(.t 8)] [])] [1,2,3,9]) (.block 0 (.rng 1056 [10] b66l1 b66l2 (.t 9)))) (.seq (.region true (spl [
 ao 42 (.load none (.t 2)),
 ⟨(some 43), .load none (.t 3),none,[],[32]⟩,
 ⟨none, .store 1 (.t 2) (.t 42),none,[0],[]⟩] [
 ⟨none, .store 1 (.t 3) (.t 43),none,[1,2,0],[]⟩]) [2,3]) (.ret))))
def a66:AFn:=⟨1,[.cell 2 none, .cell 3 none],b66,false⟩
def n66:Ann:=⟨[[1,2,3],[1,2,3],[1,2,3,9],[1,2,3,4],[1,2,3,4,14],[1,2,3,4,5],[1,2,3,4,5,15,16,17],[1,2,3,4,5,15,16,17,18],[1,2,3,4,5,7,15,16,17],[1,2,3,4,5,15,16,17],[1,2,3,4,5,15,16,17],[2,3,4,5,39],[2,3],[2,3]],[⟨[],[1,2,3,4,5,15,16,17],[16,32,48,208]⟩],[1056],[],[],false,[]⟩
@[simp] def d74l0:AC:=
 .seq (.region false [
 ao 10 (.bin .lss (.t 9) (.t 8))] [0,7,8,9,10]) (.seq (.cond (.t 10) (.skip) (.exit 0)) (.seq (.block 1 (.seq (.region false [
 ao 11 (.mv (.t 9)),
 ao 12 (.idxs 1 (.t 7) (.t 9)),
 ao 13 (.load none (.t 12)),
 ao 5 (.mv (.t 11)),
 ao 6 (.mv (.t 13))] [0,5,6,7,8,9]) (.seq (.region true (spl [
 ao 14 (.mv (.t 0)),
 ap 15 (.nilck (.t 14)) [0],
 ap 16 (.faddr 0 (.t 15)) [1,0],
 ap 17 (.faddr 3 (.t 16)) [2,1,0],
 ap 18 (.load none (.t 17)) [3,2,1,0],
 ao 19 (.mv (.t 6)),
 ap 20 (.idxs 2 (.t 18) (.t 19)) [4,5,3,2,1,0],
 ap 21 (.faddr 0 (.t 20)) [6,4,5,3,2,1,0],
 ap 22 (.load none (.t 21)) [7,6,4,5,3,2,1,0],
 ao 23 (.mv (.t 0)),
 ao 24 (.mv (.t 5)),
 ap 25 (.call 92 [(.t 23),(.t 24)]) [9,10]] [
 ap 26 (.bin .lss (.t 22) (.t 25)) [8,11,7,6,4,5,3,2,1,0,9,10]]) [0,7,8,9,26]) (.cond (.t 26) (.seq (.region false [
 ao 4 (.mv (.c (.bool false)))] [4]) (.ret)) (.skip))))) (.region false [
 ao 27 (.bin .add (.t 9) (.c (i64 1))),
 ao 9 (.mv (.t 27))] [0,7,8,9])))
def b74l0:AC:= .loop [0,7,8,9] [] d74l0
def b74:AC:=
 .seq (.region false [
 ao 4 (.mv (.c (.bool false)))] [0,1]) (.seq (.seq (.region false [
 ao 7 (.mv (.t 1)),
 ao 8 (.len (.t 7)),
 ao 9 (.mv (.c (i64 0)))] [0,7,8,9]) (.block 0 (b74l0))) (.seq (.region false [
 ao 4 (.mv (.c (.bool true)))] [4]) (.ret)))
def a74:AFn:=⟨2,[.t 4],b74,false⟩
def n74:Ann:=⟨[[0,1],[0,7,8,9],[0,7,8,9,10],[0,5,6,7,8,9],[0,7,8,9,26],[4],[0,7,8,9],[4]],[⟨[],[0,7,8,9],[]⟩],[],[],[],false,[]⟩
@[simp] def d75l0:AC:=
 .seq (.seq (.region false [
 ao 7 (.mv (.t 3)),
 ao 8 (.mv (.t 0)),
 ao 9 (.len (.t 8)),
 ao 10 (.bin .lss (.t 7) (.t 9))] [0,3,10]) (.cond (.t 10) (.skip) (.exit 0))) (.seq (.block 1 (.seq (.region false [
 ao 13 (.mv (.t 0)),
 ao 14 (.mv (.t 3)),
 ao 15 (.idxs 1 (.t 13) (.t 14)),
 ao 16 (.load none (.t 15)),
 ao 17 (.len (.t 16)),
 ao 18 (.bin .gtr (.t 17) (.c (i64 40)))] [0,3,18]) (.cond (.t 18) (.seq (.region false [
 ao 2 (.mv (.c (.bool true)))] [2]) (.ret)) (.skip)))) (.region false [
 ao 11 (.mv (.t 3)),
 ao 12 (.bin .add (.t 11) (.c (i64 1))),
 ao 3 (.mv (.t 12))] [0,3]))
def b75l0:AC:= .loop [0,3] [] d75l0
def b75:AC:=
 .seq (.region false [
 ao 2 (.mv (.c (.bool false)))] [0]) (.seq (.seq (.region false [
 ao 4 (.mv (.t 0)),
 ao 5 (.len (.t 4)),
 ao 6 (.bin .gtr (.t 5) (.c (i64 40)))] [0,6]) (.cond (.t 6) (.seq (.region false [
 ao 2 (.mv (.c (.bool true)))] [2]) (.ret)) (.skip))) (.seq (.seq (.region false [
 ao 3 (.mv (.c (i64 0)))] [0,3]) (.block 0 (b75l0))) (.seq (.region false [
 ao 2 (.mv (.c (.bool false)))] [2]) (.ret))))
def a75:AFn:=⟨1,[.t 2],b75,false⟩
def n75:Ann:=⟨[[0],[0,6],[2],[0,3],[0,3,10],[0,3,18],[2],[0,3],[2]],[⟨[],[0,3],[]⟩],[],[],[],false,[]⟩
def b76:AC:=
 .seq (.region false [
 ao 2 (.box (.t 0)),
 ao 3 (.box (.t 1)),
 ao 4 (.mv (.c (.bool false)))] [2,3]) (.seq (.region false [
 ao 5 (.faddr 4 (.t 2)),
 ao 6 (.load none (.t 5)),
 ao 7 (.len (.t 6)),
 ao 8 (.bin .gtr (.t 7) (.c (i64 40))),
 ao 9 (.mv (.t 8)),
 ag 10 (.faddr 5 (.t 2)) 9 false [],
 ag 11 (.load none (.t 10)) 9 false [],
 ag 12 (.len (.t 11)) 9 false [],
 ag 13 (.bin .gtr (.t 12) (.c (i64 40))) 9 false [],
 ao 14 (.pick (.t 9) (.c (.bool true)) (.t 13)),
 ao 15 (.mv (.t 14)),
 ag 16 (.faddr 6 (.t 2)) 15 false [],
 ag 17 (.load none (.t 16)) 15 false [],
 ag 18 (.len (.t 17)) 15 false [],
 ag 19 (.bin .gtr (.t 18) (.c (i64 40))) 15 false [],
 ao 20 (.pick (.t 15) (.c (.bool true)) (.t 19)),
 ao 21 (.mv (.t 20)),
 ag 22 (.faddr 2 (.t 3)) 21 false [],
 ag 23 (.load none (.t 22)) 21 false [],
 ag 24 (.len (.t 23)) 21 false [],
 ag 25 (.bin .gtr (.t 24) (.c (i64 40))) 21 false [],
 ao 26 (.pick (.t 21) (.c (.bool true)) (.t 25)),
 ao 4 (.mv (.t 26))] [4]) (.ret))
def a76:AFn:=⟨2,[.t 4],b76,false⟩
def n76:Ann:=⟨[[2,3],[4]],[],[],[],[],false,[]⟩
def b77:AC:=
 .seq (.region false [
 ao 2 (.box (.t 0)),
 ao 4 (.mv (.c (.bool false)))] [1,2]) (.seq (.region false [
 ao 5 (.faddr 1 (.t 2)),
 ao 6 (.load none (.t 5)),
 ao 7 (.mv (.t 1)),
 ao 8 (.call 78 [(.t 6),(.c (i64 0)),(.t 7)]),
 ao 9 (.mv (.t 8)),
 ag 10 (.faddr 0 (.t 2)) 9 true [],
 ag 11 (.load none (.t 10)) 9 true [],
 ag 12 (.faddr 1 (.t 2)) 9 true [],
 ag 13 (.load none (.t 12)) 9 true [],
 ag 14 (.call 78 [(.t 11),(.c (i64 0)),(.t 13)]) 9 true [],
 ao 15 (.pick (.t 9) (.t 14) (.c (.bool false))),
 ao 4 (.mv (.t 15))] [4]) (.ret))
def a77:AFn:=⟨2,[.t 4],b77,false⟩
def n77:Ann:=⟨[[1,2],[4]],[],[],[],[],false,[(9,128)]⟩
def b78:AC:=
 .seq (.region false [
 ao 6 (.mv (.c (.bool false)))] [0,1,2]) (.seq (.region false [
 ao 7 (.mv (.t 0)),
 ao 8 (.mv (.t 1)),
 ao 9 (.mv (.t 2)),
 ao 10 (.call 9 [(.t 7),(.t 8),(.t 9)]),
 ao 6 (.mv (.t 10))] [6]) (.ret))
def a78:AFn:=⟨3,[.t 6],b78,false⟩
def n78:Ann:=⟨[[0,1,2],[6]],[],[],[],[],false,[(6,160)]⟩
def b79:AC:=
 .seq (.region false [
 ao 8 (.alloc [(i64 0),(i64 0),(i64 0),(i64 0)])] [0,1,2,3,8]) (.seq (.region false [
 ao 9 (.mv (.t 0)),
 ao 10 (.mv (.t 1)),
 ao 11 (.mv (.t 2)),
 ao 12 (.mv (.t 3)),
 ao 13 (.build [(i64 0),(i64 0),(i64 0),(i64 0)] [(0,1,(.t 9)),(1,1,(.t 10)),(2,1,(.t 11)),(3,1,(.t 12))]),
 ⟨none, .store 4 (.t 8) (.t 13),none,[],[]⟩] [8]) (.ret))
def a79:AFn:=⟨4,[.cell 8 (some 4)],b79,false⟩
def n79:Ann:=⟨[[0,1,2,3,8],[8]],[],[],[],[],false,[]⟩
def b80:AC:=
 .seq (.region false [
 ao 2 (.box (.t 0)),
 ao 4 (.mv (.c .nilp)),
 ao 5 (.mv (.c (i64 0)))] [1,2]) (.seq (.seq (.region false [
 ao 8 (.load (some 4) (.t 2)),
 ao 9 (.mv (.t 1)),
 ao 10 (.call 93 [(.t 8),(.t 9)]),
 ao 6 (.mv (.t 10))] [2,6]) (.seq (.region false [
 ao 11 (.mv (.t 6)),
 ao 12 (.bin .neq (.t 11) (.c (i64 0)))] [2,6,12]) (.cond (.t 12) (.seq (.region false [
 ao 13 (.mv (.t 6)),
 ao 4 (.mv (.c .nilp)),
 ao 5 (.mv (.t 13))] [4,5]) (.ret)) (.skip)))) (.seq (.region false [
 ao 14 (.load (some 4) (.t 2)),
 ao 15 (.call 94 [(.t 14),(.c (i64 (-1)))]),
 ao 7 (.mv (.t 15))] [7]) (.seq (.seq (.region false [
 ao 16 (.mv (.t 7)),
 ao 17 (.nilck (.t 16)),
 ao 18 (.faddr 4 (.t 17)),
 ao 19 (.call 95 [(.t 18)])] [7,19]) (.cond (.t 19) (.seq (.region false [
 ao 4 (.mv (.c .nilp)),
 ao 5 (.mv (.c (i64 3)))] [4,5]) (.ret)) (.skip))) (.seq (.region false [
 ao 20 (.mv (.t 7)),
 ao 4 (.mv (.t 20)),
 ao 5 (.mv (.c (i64 0)))] [4,5]) (.ret)))))
def a80:AFn:=⟨2,[.t 4, .t 5],b80,false⟩
def n80:Ann:=⟨[[1,2],[2,6],[2,6,12],[4,5],[7],[7,19],[4,5],[4,5]],[],[],[],[],false,[(4,240),(20,240),(16,240),(7,240),(5,160),(13,160),(11,160),(6,160)]⟩
def b81:AC:=
 .seq (.region false [
 ao 3 (.box (.t 0)),
 ao 6 (.mv (.c (.bool false)))] [1,2,3]) (.seq (.region false [
 ao 7 (.mv (.t 1)),
 ao 8 (.faddr 1 (.t 3)),
 ao 9 (.load none (.t 8)),
 ao 10 (.bin .sub (.t 9) (.c (i64 1))),
 ao 11 (.call 96 [(.t 7),(.c (i64 0)),(.t 10)]),
 ao 12 (.mv (.t 11)),
 ag 13 (.mv (.t 2)) 12 true [],
 ag 14 (.faddr 0 (.t 3)) 12 true [],
 ag 15 (.load none (.t 14)) 12 true [],
 ag 16 (.bin .sub (.t 15) (.c (i64 1))) 12 true [],
 ag 17 (.call 96 [(.t 13),(.c (i64 0)),(.t 16)]) 12 true [],
 ao 18 (.pick (.t 12) (.t 17) (.c (.bool false))),
 ao 6 (.mv (.t 18))] [6]) (.ret))
def a81:AFn:=⟨3,[.t 6],b81,false⟩
def n81:Ann:=⟨[[1,2,3],[6]],[],[],[],[],false,[(12,176)]⟩
def b82:AC:=
 .seq (.region false [
 ao 6 (.alloc [(i64 0),(i64 0)])] [0,1,2,6]) (.seq (.region true (spl [
 ao 7 (.mv (.t 0)),
 ap 8 (.nilck (.t 7)) [0],
 ap 9 (.faddr 4 (.t 8)) [1,0],
 ao 10 (.mv (.t 0)),
 ao 11 (.mv (.t 1)),
 ao 12 (.mv (.t 2)),
 ap 13 (.bin .add (.t 12) (.c (i64 1))) [5],
 ap 14 (.call 98 [(.t 10),(.t 11),(.t 13)]) [3,4,6,5],
 ao 15 (.mv (.t 0)),
 ao 16 (.mv (.t 1)),
 ao 17 (.mv (.t 2)),
 ap 18 (.call 98 [(.t 15),(.t 16),(.t 17)]) [8,9,10,7,3,4,6,5]] [
 ap 19 (.call 97 [(.t 9),(.t 14),(.t 18)]) [2,11,1,0,8,9,10,7,3,4,6,5],
 ⟨none, .store 2 (.t 6) (.t 19),none,[12,2,11,1,0,8,9,10,7,3,4,6,5],[]⟩]) [6]) (.ret))
def a82:AFn:=⟨3,[.cell 6 (some 2)],b82,false⟩
def n82:Ann:=⟨[[0,1,2,6],[6]],[],[],[],[],false,[]⟩
@[simp] def d83l0:AC:=
 .seq (.region false [
 ao 13 (.bin .lss (.t 12) (.t 11))] [0,1,7,10,11,12,13]) (.seq (.cond (.t 13) (.skip) (.exit 0)) (.seq (.block 1 (.seq (.region false [
 ao 14 (.idxs 1 (.t 10) (.t 12)),
 ao 15 (.load none (.t 14)),
 ao 9 (.mv (.t 15))] [0,1,7,9,10,11,12]) (.region false [
 ao 16 (.mv (.t 7)),
 ao 17 (.mv (.t 0)),
 ao 18 (.mv (.t 1)),
 ao 19 (.mv (.t 9)),
 ao 20 (.call 99 [(.t 17),(.t 18),(.t 19)]),
 ao 21 (.mm false (.t 16) (.t 20)),
 ao 7 (.mv (.t 21))] [0,1,7,10,11,12]))) (.region false [
 ao 22 (.bin .add (.t 12) (.c (i64 1))),
 ao 12 (.mv (.t 22))] [0,1,7,10,11,12])))
def b83l0:AC:= .loop [0,1,7,10,11,12] [] d83l0
def b83:AC:=
 .seq (.region false [
 ao 6 (.mv (.c (i64 0)))] [0,1,2]) (.seq (.region false [
 ao 7 (.mv (.c (i64 2000)))] [0,1,2,7]) (.seq (.seq (.region false [
 ao 10 (.mv (.t 2)),
 ao 11 (.len (.t 10)),
 ao 12 (.mv (.c (i64 0)))] [0,1,7,10,11,12]) (.block 0 (b83l0))) (.seq (.region false [
 ao 23 (.mv (.t 7)),
 ao 6 (.mv (.t 23))] [6]) (.ret))))
def a83:AFn:=⟨3,[.t 6],b83,false⟩
def n83:Ann:=⟨[[0,1,2],[0,1,2,7],[0,1,7,10,11,12],[0,1,7,10,11,12,13],[0,1,7,9,10,11,12],[0,1,7,10,11,12],[0,1,7,10,11,12],[6]],[⟨[],[0,1,7,10,11,12],[]⟩],[],[],[],false,[]⟩
def b84:AC:=
 .seq (.region false [
 ao 4 (.alloc [(i64 0),(i64 0)])] [0,1,4]) (.seq (.region false [
 ao 5 (.mv (.t 0)),
 ao 6 (.mv (.t 1)),
 ao 7 (.build [(i64 0),(i64 0)] [(0,1,(.t 5)),(1,1,(.t 6))]),
 ⟨none, .store 2 (.t 4) (.t 7),none,[],[]⟩] [4]) (.ret))
def a84:AFn:=⟨2,[.cell 4 (some 2)],b84,false⟩
def n84:Ann:=⟨[[0,1,4],[4]],[],[],[],[],false,[]⟩
@[simp] def d85l0:AC:=
 .seq (.region false [
 ao 52 (.bin .lss (.t 51) (.t 50))] [1,3,49,50,51,52]) (.seq (.cond (.t 52) (.skip) (.exit 0)) (.seq (.block 1 (.seq (.region false [
 ao 53 (.mv (.t 51)),
 ao 54 (.idxs 4 (.t 49) (.t 51)),
 ao 55 (.load (some 4) (.t 54)),
 ao 5 (.alloc [(i64 0),(i64 0),(i64 0),(i64 0)]),
 ao 4 (.mv (.t 53)),
 ⟨none, .store 4 (.t 5) (.t 55),none,[],[]⟩] [1,3,4,5,49,50,51]) (.seq (.region false [
 ao 56 (.faddr 0 (.t 5)),
 ao 57 (.load (some 2) (.t 56)),
 ao 58 (.call 103 [(.t 57),(.c (i64 20))]),
 ao 59 (.un .not (.t 58)),
 ao 60 (.mv (.t 59)),
 ag 61 (.faddr 2 (.t 5)) 60 false [],
 ag 62 (.load (some 2) (.t 61)) 60 false [],
 ag 63 (.call 103 [(.t 62),(.c (i64 20))]) 60 false [],
 ag 64 (.un .not (.t 63)) 60 false [],
 ao 65 (.pick (.t 60) (.c (.bool true)) (.t 64)),
 ao 66 (.mv (.t 65)),
 ag 67 (.mv (.t 3)) 66 false [],
 ag 68 (.faddr 12 (.t 1)) 66 false [],
 ag 69 (.load none (.t 68)) 66 false [],
 ag 70 (.mv (.t 4)) 66 false [],
 ag 71 (.idxs 1 (.t 69) (.t 70)) 66 false [],
 ag 72 (.load none (.t 71)) 66 false [],
 ag 73 (.callv (.t 67) [(.t 72)]) 66 false [],
 ag 74 (.un .not (.t 73)) 66 false [],
 ao 75 (.pick (.t 66) (.c (.bool true)) (.t 74))] [1,3,49,50,51,75]) (.cond (.t 75) (.seq (.region false [
 ao 2 (.mv (.c (i64 130)))] [2]) (.ret)) (.skip))))) (.region false [
 ao 76 (.bin .add (.t 51) (.c (i64 1))),
 ao 51 (.mv (.t 76))] [1,3,49,50,51])))
def b85l0:AC:= .loop [1,3,49,50,51] [16,112,176,256,368,720,1360] d85l0
@[simp] def d85l1:AC:=
 .seq (.region false [
 ao 81 (.bin .lss (.t 80) (.t 79))] [78,79,80,81]) (.seq (.cond (.t 81) (.skip) (.exit 2)) (.seq (.block 3 (.seq (.region false [
 ao 82 (.idxs 2 (.t 78) (.t 80)),
 ao 83 (.load (some 2) (.t 82)),
 ao 7 (.alloc [(i64 0),(i64 0)]),
 ⟨none, .store 2 (.t 7) (.t 83),none,[],[]⟩] [7,78,79,80]) (.seq (.region false [
 ao 84 (.load (some 2) (.t 7)),
 ao 85 (.call 103 [(.t 84),(.c (i64 2000))]),
 ao 86 (.un .not (.t 85))] [78,79,80,86]) (.cond (.t 86) (.seq (.region false [
 ao 2 (.mv (.c (i64 130)))] [2]) (.ret)) (.skip))))) (.region false [
 ao 87 (.bin .add (.t 80) (.c (i64 1))),
 ao 80 (.mv (.t 87))] [78,79,80])))
def b85l1:AC:= .loop [78,79,80] [16,80,176,256,368,720,928,1008,1168] d85l1
def b85:AC:=
 .seq (.region false [
 ao 1 (.box (.t 0)),
 ao 2 (.mv (.c (i64 0)))] [1]) (.seq (.region false [
 ao 8 (.mkfn 100 [] [(.t 1)]),
 ao 3 (.mv (.t 8))] [1,3]) (.seq (.seq (.region false [
 ao 9 (.faddr 0 (.t 1)),
 ao 10 (.load (some 7) (.t 9)),
 ao 11 (.call 102 [(.t 10)]),
 ao 12 (.bin .neq (.t 11) (.c (i64 0))),
 ao 13 (.mv (.t 12)),
 ag 14 (.faddr 7 (.t 1)) 13 false [],
 ag 15 (.load (some 4) (.t 14)) 13 false [],
 ag 16 (.call 88 [(.t 15)]) 13 false [],
 ag 17 (.bin .neq (.t 16) (.c (i64 0))) 13 false [],
 ao 18 (.pick (.t 13) (.c (.bool true)) (.t 17)),
 ao 19 (.mv (.t 18)),
 ag 20 (.faddr 11 (.t 1)) 19 false [],
 ag 21 (.load none (.t 20)) 19 false [],
 ag 22 (.len (.t 21)) 19 false [],
 ag 23 (.call 101 [(.t 22),(.c (i64 1)),(.c (i64 4))]) 19 false [],
 ag 24 (.un .not (.t 23)) 19 false [],
 ao 25 (.pick (.t 19) (.c (.bool true)) (.t 24)),
 ao 26 (.mv (.t 25)),
 ag 27 (.faddr 12 (.t 1)) 26 false [],
 ag 28 (.load none (.t 27)) 26 false [],
 ag 29 (.len (.t 28)) 26 false [],
 ag 30 (.faddr 11 (.t 1)) 26 false [],
 ag 31 (.load none (.t 30)) 26 false [],
 ag 32 (.len (.t 31)) 26 false [],
 ag 33 (.bin .neq (.t 29) (.t 32)) 26 false [],
 ao 34 (.pick (.t 26) (.c (.bool true)) (.t 33)),
 ao 35 (.mv (.t 34)),
 ag 36 (.faddr 14 (.t 1)) 35 false [],
 ag 37 (.load none (.t 36)) 35 false [],
 ag 38 (.len (.t 37)) 35 false [],
 ag 39 (.bin .gtr (.t 38) (.c (i64 5))) 35 false [],
 ao 40 (.pick (.t 35) (.c (.bool true)) (.t 39)),
 ao 41 (.mv (.t 40)),
 ag 42 (.mv (.t 3)) 41 false [],
 ag 43 (.faddr 13 (.t 1)) 41 false [],
 ag 44 (.load none (.t 43)) 41 false [],
 ag 45 (.callv (.t 42) [(.t 44)]) 41 false [],
 ag 46 (.un .not (.t 45)) 41 false [],
 ao 47 (.pick (.t 41) (.c (.bool true)) (.t 46))] [1,3,47]) (.cond (.t 47) (.seq (.region false [
 ao 2 (.mv (.c (i64 130)))] [2]) (.ret)) (.skip))) (.seq (.seq (.region false [
 ao 48 (.faddr 11 (.t 1)),
 ao 49 (.load none (.t 48)),
 ao 50 (.len (.t 49)),
 ao 51 (.mv (.c (i64 0)))] [1,3,49,50,51]) (.block 0 (b85l0))) (.seq (.seq (.region false [
 ao 77 (.faddr 14 (.t 1)),
 ao 78 (.load none (.t 77)),
 ao 79 (.len (.t 78)),
 ao 80 (.mv (.c (i64 0)))] [78,79,80]) (.block 2 (b85l1))) (.seq (.region false [
 ao 2 (.mv (.c (i64 0)))] [2]) (.ret))))))
def a85:AFn:=⟨1,[.t 2],b85,false⟩
def n85:Ann:=⟨[[1],[1,3],[1,3,47],[2],[1,3,49,50,51],[1,3,49,50,51,52],[1,3,4,5,49,50,51],[1,3,49,50,51,75],[2],[1,3,49,50,51],[78,79,80],[78,79,80,81],[7,78,79,80],[78,79,80,86],[2],[78,79,80],[2]],[⟨[],[1,3,49,50,51],[16,112,176,256,368,720,1360]⟩,⟨[],[78,79,80],[16,80,176,256,368,720,928,1008,1168]⟩],[],[],[],false,[]⟩
def b86:AC:=
 .seq (.region false [
 ao 1 (.box (.t 0)),
 ao 2 (.mv (.c (i64 0))),
 ao 3 (.mv (.c (i64 0)))] [1]) (.seq (.seq (.region false [
 ao 5 (.load (some 7) (.t 1)),
 ao 6 (.call 102 [(.t 5)]),
 ao 4 (.mv (.t 6))] [1,4]) (.seq (.region false [
 ao 7 (.mv (.t 4)),
 ao 8 (.bin .neq (.t 7) (.c (i64 0)))] [1,4,8]) (.cond (.t 8) (.seq (.region false [
 ao 9 (.mv (.t 4)),
 ao 2 (.mv (.c (i64 0))),
 ao 3 (.mv (.t 9))] [2,3]) (.ret)) (.skip)))) (.seq (.region true (spl [
 ao 10 (.load (some 7) (.t 1)),
 ap 11 (.call 105 [(.t 10)]) [0],
 ap 12 (.call 106 [(.t 11),(.c (.int .u64 0))]) [1,0],
 ap 13 (.bin .eql (.t 12) (.c (.int .u64 0))) [2,1,0],
 ao 14 (.load (some 7) (.t 1)),
 ap 15 (.call 107 [(.t 14)]) [4,2,1,0],
 ap 16 (.call 106 [(.t 15),(.c (.int .u64 0))]) [5,4,2,1,0],
 ap 17 (.bin .eql (.t 16) (.c (.int .u64 0))) [6,5,4,2,1,0]] [
 ap 18 (.call 104 [(.t 13),(.t 17)]) [3,7,6,5,4,2,1,0],
 ap 2 (.mv (.t 18)) [8,3,7,6,5,4,2,1,0],
 ap 3 (.mv (.c (i64 0))) [9,8,3,7,6,5,4,2,1,0]]) [2,3]) (.ret)))
def a86:AFn:=⟨1,[.t 2, .t 3],b86,false⟩
def n86:Ann:=⟨[[1],[1,4],[1,4,8],[2,3],[2,3]],[],[],[],[],false,[(2,288),(3,96),(9,96),(7,96),(4,96)]⟩
@[simp] def d87l0:AC:=
 .seq (.region false [
 ao 25 (.bin .lss (.t 24) (.t 23))] [0,2,4,22,23,24,25]) (.seq (.cond (.t 25) (.skip) (.exit 0)) (.seq (.block 1 (.seq (.region false [
 ao 26 (.idxs 1 (.t 22) (.t 24)),
 ao 27 (.load none (.t 26)),
 ao 9 (.mv (.t 27))] [0,2,4,9,22,23,24]) (.seq (.region true (spl [
 ao 28 (.load none (.t 4)),
 ao 29 (.mv (.t 0)),
 ao 30 (.mv (.t 0)),
 ap 31 (.len (.t 30)) [2],
 ao 32 (.mv (.t 0)),
 ap 33 (.len (.t 32)) [4],
 ap 34 (.slice 1 (.t 29) none (some (.t 31)) (some (.t 33))) [1,3,5,2,4],
 ao 35 (.mv (.t 9)),
 ap 36 (.lit [(i64 0)] 1 [(0,(.t 35))]) [7],
 ap 37 (.app 1 8 (.t 34) (.t 36)) [6,8,1,3,5,2,4,7],
 ao 38 (.load none (.t 2)),
 ap 39 (.nilck (.t 38)) [10],
 ap 40 (.faddr 0 (.t 39)) [11,10],
 ap 41 (.faddr 12 (.t 40)) [12,11,10],
 ap 42 (.load none (.t 41)) [13,12,11,10],
 ao 43 (.mv (.t 9)),
 ap 44 (.idxs 1 (.t 42) (.t 43)) [14,15,13,12,11,10],
 ap 45 (.load none (.t 44)) [16,14,15,13,12,11,10]] [
 ap 46 (.callv (.t 28) [(.t 37),(.t 45)]) [0,17,9,16,14,15,13,12,11,10,6,8,1,3,5,2,4,7],
 ap 47 (.un .not (.t 46)) [18,0,17,9,16,14,15,13,12,11,10,6,8,1,3,5,2,4,7]]) [0,2,4,22,23,24,47]) (.cond (.t 47) (.seq (.region false [
 ao 7 (.mv (.c (.bool false)))] [7]) (.ret)) (.skip))))) (.region false [
 ao 48 (.bin .add (.t 24) (.c (i64 1))),
 ao 24 (.mv (.t 48))] [0,2,4,22,23,24])))
def b87l0:AC:= .loop [0,2,4,22,23,24] [336] d87l0
def b87:AC:=
 .seq (.region false [
 ao 7 (.mv (.c (.bool false)))] [0,1,2,3,4]) (.seq (.seq (.region false [
 ao 10 (.mv (.t 0)),
 ao 11 (.len (.t 10)),
 ao 12 (.load none (.t 2)),
 ao 13 (.nilck (.t 12)),
 ao 14 (.faddr 0 (.t 13)),
 ao 15 (.faddr 14 (.t 14)),
 ao 16 (.load none (.t 15)),
 ao 17 (.len (.t 16)),
 ao 18 (.bin .eql (.t 11) (.t 17))] [0,1,2,3,4,18]) (.cond (.t 18) (.seq (.region false [
 ao 19 (.load none (.t 3)),
 ao 20 (.mv (.t 0)),
 ao 21 (.callv (.t 19) [(.t 20)]),
 ao 7 (.mv (.t 21))] [7]) (.ret)) (.skip))) (.seq (.seq (.region false [
 ao 22 (.mv (.t 1)),
 ao 23 (.len (.t 22)),
 ao 24 (.mv (.c (i64 0)))] [0,2,4,22,23,24]) (.block 0 (b87l0))) (.seq (.region false [
 ao 7 (.mv (.c (.bool true)))] [7]) (.ret))))
def a87:AFn:=⟨5,[.t 7],b87,false⟩
def n87:Ann:=⟨[[0,1,2,3,4],[0,1,2,3,4,18],[7],[0,2,4,22,23,24],[0,2,4,22,23,24,25],[0,2,4,9,22,23,24],[0,2,4,22,23,24,47],[7],[0,2,4,22,23,24],[7]],[⟨[],[0,2,4,22,23,24],[336]⟩],[],[],[],false,[]⟩
@[simp] def d88l0:AC:=
 .seq (.region false [
 ao 39 (.bin .lss (.t 38) (.t 37))] [1,3,4,36,37,38,39]) (.seq (.cond (.t 39) (.skip) (.exit 0)) (.seq (.block 1 (.seq (.region false [
 ao 40 (.idxs 2 (.t 36) (.t 38)),
 ao 41 (.load (some 2) (.t 40)),
 ao 6 (.alloc [(i64 0),(i64 0)]),
 ⟨none, .store 2 (.t 6) (.t 41),none,[],[]⟩] [1,3,4,6,36,37,38]) (.seq (.seq (.region false [
 ao 42 (.faddr 0 (.t 6)),
 ao 43 (.load none (.t 42)),
 ao 44 (.faddr 1 (.t 6)),
 ao 45 (.load none (.t 44)),
 ao 46 (.call 108 [(.t 43),(.c (i64 0)),(.t 45)]),
 ao 47 (.un .not (.t 46)),
 ao 48 (.mv (.t 47)),
 ag 49 (.faddr 1 (.t 6)) 48 false [],
 ag 50 (.load none (.t 49)) 48 false [],
 ag 51 (.bin .gtr (.t 50) (.c (i64 12))) 48 false [],
 ao 52 (.pick (.t 48) (.c (.bool true)) (.t 51))] [1,3,4,6,36,37,38,52]) (.cond (.t 52) (.seq (.region false [
 ao 2 (.mv (.c (i64 50)))] [2]) (.ret)) (.skip))) (.region true (spl [
 ao 53 (.mv (.t 3)),
 ao 54 (.faddr 0 (.t 6)),
 ap 55 (.load none (.t 54)) [1],
 ap 56 (.bin .add (.t 53) (.t 55)) [0,2,1],
 ao 57 (.mv (.t 4)),
 ao 58 (.faddr 1 (.t 6)),
 ap 59 (.load none (.t 58)) [5],
 ap 60 (.bin .add (.t 57) (.t 59)) [4,6,5],
 ap 3 (.mv (.t 56)) [3,0,2,1]] [
 ap 4 (.mv (.t 60)) [7,8,4,6,5,3,0,2,1]]) [1,3,4,36,37,38])))) (.region false [
 ao 61 (.bin .add (.t 38) (.c (i64 1))),
 ao 38 (.mv (.t 61))] [1,3,4,36,37,38])))
def b88l0:AC:= .loop [1,3,4,36,37,38] [16,128,240,1024,1200,1280] d88l0
@[simp] def d88l1:AC:=
 .seq (.region false [
 ao 70 (.bin .lss (.t 69) (.t 68))] [67,68,69,70]) (.seq (.cond (.t 70) (.skip) (.exit 2)) (.seq (.block 3 (.seq (.region false [
 ao 71 (.idxs 2 (.t 67) (.t 69)),
 ao 72 (.load (some 2) (.t 71)),
 ao 8 (.alloc [(i64 0),(i64 0)]),
 ⟨none, .store 2 (.t 8) (.t 72),none,[],[]⟩] [8,67,68,69]) (.seq (.region false [
 ao 73 (.faddr 0 (.t 8)),
 ao 74 (.load none (.t 73)),
 ao 75 (.call 108 [(.t 74),(.c (i64 0)),(.c (i64 999))]),
 ao 76 (.un .not (.t 75)),
 ao 77 (.mv (.t 76)),
 ag 78 (.faddr 1 (.t 8)) 77 false [],
 ag 79 (.load none (.t 78)) 77 false [],
 ag 80 (.call 108 [(.t 79),(.c (i64 0)),(.c (i64 99))]) 77 false [],
 ag 81 (.un .not (.t 80)) 77 false [],
 ao 82 (.pick (.t 77) (.c (.bool true)) (.t 81))] [67,68,69,82]) (.cond (.t 82) (.seq (.region false [
 ao 2 (.mv (.c (i64 50)))] [2]) (.ret)) (.skip))))) (.region false [
 ao 83 (.bin .add (.t 69) (.c (i64 1))),
 ao 69 (.mv (.t 83))] [67,68,69])))
def b88l1:AC:= .loop [67,68,69] [16,96,240,736,1024] d88l1
def b88:AC:=
 .seq (.region false [
 ao 1 (.box (.t 0)),
 ao 2 (.mv (.c (i64 0)))] [1]) (.seq (.seq (.region false [
 ao 9 (.faddr 0 (.t 1)),
 ao 10 (.faddr 0 (.t 9)),
 ao 11 (.load none (.t 10)),
 ao 12 (.faddr 0 (.t 1)),
 ao 13 (.faddr 1 (.t 12)),
 ao 14 (.load none (.t 13)),
 ao 15 (.call 108 [(.t 11),(.c (i64 0)),(.t 14)]),
 ao 16 (.un .not (.t 15)),
 ao 17 (.mv (.t 16)),
 ag 18 (.faddr 0 (.t 1)) 17 false [],
 ag 19 (.faddr 1 (.t 18)) 17 false [],
 ag 20 (.load none (.t 19)) 17 false [],
 ag 21 (.bin .gtr (.t 20) (.c (i64 2000))) 17 false [],
 ao 22 (.pick (.t 17) (.c (.bool true)) (.t 21)),
 ao 23 (.mv (.t 22)),
 ag 24 (.faddr 2 (.t 1)) 23 false [],
 ag 25 (.load none (.t 24)) 23 false [],
 ag 26 (.len (.t 25)) 23 false [],
 ag 27 (.bin .gtr (.t 26) (.c (i64 4))) 23 false [],
 ao 28 (.pick (.t 23) (.c (.bool true)) (.t 27)),
 ao 29 (.mv (.t 28)),
 ag 30 (.faddr 3 (.t 1)) 29 false [],
 ag 31 (.load none (.t 30)) 29 false [],
 ag 32 (.len (.t 31)) 29 false [],
 ag 33 (.bin .gtr (.t 32) (.c (i64 6))) 29 false [],
 ao 34 (.pick (.t 29) (.c (.bool true)) (.t 33))] [1,34]) (.cond (.t 34) (.seq (.region false [
 ao 2 (.mv (.c (i64 50)))] [2]) (.ret)) (.skip))) (.seq (.region false [
 ao 3 (.mv (.c (i64 0))),
 ao 4 (.mv (.c (i64 0)))] [1,3,4]) (.seq (.seq (.region false [
 ao 35 (.faddr 2 (.t 1)),
 ao 36 (.load none (.t 35)),
 ao 37 (.len (.t 36)),
 ao 38 (.mv (.c (i64 0)))] [1,3,4,36,37,38]) (.block 0 (b88l0))) (.seq (.seq (.region false [
 ao 62 (.mv (.t 3)),
 ao 63 (.mv (.t 4)),
 ao 64 (.call 108 [(.c (i64 12)),(.t 62),(.t 63)]),
 ao 65 (.un .not (.t 64))] [1,65]) (.cond (.t 65) (.seq (.region false [
 ao 2 (.mv (.c (i64 50)))] [2]) (.ret)) (.skip))) (.seq (.seq (.region false [
 ao 66 (.faddr 3 (.t 1)),
 ao 67 (.load none (.t 66)),
 ao 68 (.len (.t 67)),
 ao 69 (.mv (.c (i64 0)))] [67,68,69]) (.block 2 (b88l1))) (.seq (.region false [
 ao 2 (.mv (.c (i64 0)))] [2]) (.ret)))))))
def a88:AFn:=⟨1,[.t 2],b88,false⟩
def n88:Ann:=⟨[[1],[1,34],[2],[1,3,4],[1,3,4,36,37,38],[1,3,4,36,37,38,39],[1,3,4,6,36,37,38],[1,3,4,6,36,37,38,52],[2],[1,3,4,36,37,38],[1,3,4,36,37,38],[1,65],[2],[67,68,69],[67,68,69,70],[8,67,68,69],[67,68,69,82],[2],[67,68,69],[2]],[⟨[],[1,3,4,36,37,38],[16,128,240,1024,1200,1280]⟩,⟨[],[67,68,69],[16,96,240,736,1024]⟩],[],[],[],false,[]⟩
def b89:AC:=
 .seq (.region false [
 ao 2 (.box (.t 0)),
 ao 3 (.box (.t 1))] [2,3]) (.seq (.region false [
 ao 4 (.alloc [.nilf])] [2,3,4]) (.seq (.region false [
 ao 5 (.mkfn 109 [] [(.t 2),(.t 3),(.t 4)]),
 ⟨none, .store 1 (.t 4) (.t 5),none,[],[]⟩] [4]) (.region false [
 ao 6 (.load none (.t 4)),
 ao 7 (.callv (.t 6) [(.c (.sl .full 1 []))])] [])))
def a89:AFn:=⟨2,[],b89,false⟩
def n89:Ann:=⟨[[2,3],[2,3,4],[4],[]],[],[],[],[],false,[]⟩
def b92:AC:=
 .seq (.region false [
 ao 4 (.mv (.c (i64 0)))] [0,1]) (.seq (.region true (spl [
 ao 5 (.mv (.t 0)),
 ap 6 (.nilck (.t 5)) [0],
 ap 7 (.faddr 0 (.t 6)) [1,0],
 ap 8 (.faddr 0 (.t 7)) [2,1,0],
 ap 9 (.faddr 1 (.t 8)) [3,2,1,0],
 ap 10 (.load none (.t 9)) [4,3,2,1,0],
 ao 11 (.mv (.t 0)),
 ao 12 (.mv (.t 1)),
 ap 13 (.nilck (.t 11)) [6],
 ap 14 (.faddr 4 (.t 13)) [8,6],
 ap 15 (.idxa 4 2 (.t 14) (.t 12)) [9,7,8,6],
 ap 16 (.faddr 1 (.t 15)) [10,9,7,8,6],
 ap 17 (.load none (.t 16)) [11,10,9,7,8,6]] [
 ap 18 (.bin .mul (.t 10) (.t 17)) [5,12,4,3,2,1,0,11,10,9,7,8,6],
 ap 19 (.bin .add (.t 18) (.c (i64 12))) [13,5,12,4,3,2,1,0,11,10,9,7,8,6],
 ap 20 (.bin .sub (.t 19) (.c (i64 1))) [14,13,5,12,4,3,2,1,0,11,10,9,7,8,6],
 ap 21 (.bin .quo (.t 20) (.c (i64 12))) [15,14,13,5,12,4,3,2,1,0,11,10,9,7,8,6],
 ap 4 (.mv (.t 21)) [16,15,14,13,5,12,4,3,2,1,0,11,10,9,7,8,6]]) [4]) (.ret))
def a92:AFn:=⟨2,[.t 4],b92,false⟩
def n92:Ann:=⟨[[0,1],[4]],[],[],[],[],false,[]⟩
def b93:AC:=
 .seq (.region false [
 ao 2 (.box (.t 0)),
 ao 4 (.mv (.c (i64 0)))] [1,2]) (.seq (.seq (.region false [
 ao 6 (.load (some 4) (.t 2)),
 ao 7 (.call 123 [(.t 6)]),
 ao 5 (.mv (.t 7))] [1,5]) (.seq (.region false [
 ao 8 (.mv (.t 5)),
 ao 9 (.bin .neq (.t 8) (.c (i64 0)))] [1,5,9]) (.cond (.t 9) (.seq (.region false [
 ao 10 (.mv (.t 5)),
 ao 4 (.mv (.t 10))] [4]) (.ret)) (.skip)))) (.seq (.seq (.region false [
 ao 11 (.mv (.t 1)),
 ao 12 (.un .not (.t 11))] [12]) (.cond (.t 12) (.seq (.region false [
 ao 4 (.mv (.c (i64 1)))] [4]) (.ret)) (.skip))) (.seq (.region false [
 ao 4 (.mv (.c (i64 0)))] [4]) (.ret))))
def a93:AFn:=⟨2,[.t 4],b93,false⟩
def n93:Ann:=⟨[[1,2],[1,5],[1,5,9],[4],[12],[4],[4]],[],[],[],[],false,[(4,112),(10,112),(8,112),(5,112)]⟩
@[simp] def d94l1:AC:=
 .seq (.region false [
 ao 21 (.bin .lss (.t 20) (.c (i64 21)))] [1,2,5,6,17,20,21]) (.seq (.cond (.t 21) (.skip) (.exit 2)) (.seq (.block 3 (.seq (.region false [
 ao 22 (.mv (.t 20)),
 ao 7 (.mv (.t 22))] [1,2,5,6,7,17,20]) (.seq (.region false [
 ao 23 (.mv (.t 6)),
 ao 24 (.mv (.t 7)),
 ao 25 (.bin .neq (.t 23) (.t 24))] [1,2,5,6,7,17,20,25]) (.cond (.t 25) (.region false [
 ao 26 (.mv (.t 5)),
 ao 27 (.mv (.t 6)),
 ao 28 (.mv (.t 7)),
 ao 29 (.nilck (.t 26)),
 ao 30 (.faddr 4 (.t 29)),
 ao 31 (.idxa 21 21 (.t 30) (.t 27)),
 ao 32 (.idxa 21 1 (.t 31) (.t 28)),
 ⟨none, .store 1 (.t 32) (.c (i64 1048576)),none,[],[]⟩] [1,2,5,6,17,20]) (.skip))))) (.region false [
 ao 33 (.bin .add (.t 20) (.c (i64 1))),
 ao 20 (.mv (.t 33))] [1,2,5,6,17,20])))
def b94l1:AC:= .loop [1,2,5,6,17,20] [32,208,256,720,736,928,1008,1024,1136,1200,1296,1424,1536,1792] d94l1
@[simp] def d94l0:AC:=
 .seq (.region false [
 ao 18 (.bin .lss (.t 17) (.c (i64 21)))] [1,2,5,17,18]) (.seq (.cond (.t 18) (.skip) (.exit 0)) (.seq (.block 1 (.seq (.region false [
 ao 19 (.mv (.t 17)),
 ao 6 (.mv (.t 19))] [1,2,5,6,17]) (.seq (.region false [
 ao 20 (.mv (.c (i64 0)))] [1,2,5,6,17,20]) (.block 2 (b94l1))))) (.region false [
 ao 34 (.bin .add (.t 17) (.c (i64 1))),
 ao 17 (.mv (.t 34))] [1,2,5,17])))
def b94l0:AC:= .loop [1,2,5,17] [32,208,256,720,736,928,1008,1024,1136,1200,1296,1424,1536,1792] d94l0
@[simp] def d94l3:AC:=
 .seq (.region false [
 ao 50 (.bin .lss (.t 49) (.t 48))] [1,2,5,8,36,37,48,49,50]) (.seq (.cond (.t 50) (.skip) (.exit 6)) (.seq (.block 7 (.seq (.region false [
 ao 51 (.mv (.t 49)),
 ao 9 (.mv (.t 51))] [1,2,5,8,9,36,37,48,49]) (.seq (.region true (spl [
 ao 52 (.mv (.t 5)),
 ap 53 (.nilck (.t 52)) [0],
 ap 54 (.faddr 4 (.t 53)) [1,0],
 ao 55 (.mv (.t 5)),
 ao 56 (.mv (.t 8)),
 ao 57 (.mv (.t 9)),
 ap 58 (.call 98 [(.t 55),(.t 56),(.t 57)]) [3,4,5],
 ao 59 (.mv (.t 5)),
 ao 60 (.mv (.t 8)),
 ao 61 (.mv (.t 9)),
 ap 62 (.bin .add (.t 61) (.c (i64 1))) [9],
 ap 63 (.call 98 [(.t 59),(.t 60),(.t 62)]) [7,8,10,6,9,3,4,5]] [
 ap 64 (.call 124 [(.t 54),(.t 58),(.t 63),(.c (i64 0))]) [2,11,1,0,7,8,10,6,9,3,4,5]]) [1,2,5,8,9,36,37,48,49]) (.seq (.seq (.region false [
 ao 65 (.mv (.t 8)),
 ao 66 (.bin .eql (.t 65) (.c (i64 0)))] [1,2,5,8,9,36,37,48,49,66]) (.cond (.t 66) (.exit 7) (.skip))) (.seq (.region false [
 ao 67 (.mv (.t 5)),
 ao 68 (.mv (.t 8)),
 ao 69 (.bin .sub (.t 68) (.c (i64 1))),
 ao 70 (.mv (.t 9)),
 ao 71 (.call 98 [(.t 67),(.t 69),(.t 70)]),
 ao 72 (.mv (.t 5)),
 ao 73 (.mv (.t 8)),
 ao 74 (.mv (.t 9)),
 ao 75 (.call 98 [(.t 72),(.t 73),(.t 74)]),
 ao 10 (.mv (.t 71)),
 ao 11 (.mv (.t 75))] [1,2,5,8,9,10,11,36,37,48,49]) (.seq (.region false [
 ao 76 (.mv (.t 5)),
 ao 77 (.nilck (.t 76)),
 ao 78 (.faddr 4 (.t 77)),
 ao 79 (.mv (.t 11)),
 ao 80 (.mv (.t 10)),
 ao 81 (.call 124 [(.t 78),(.t 79),(.t 80),(.c (i64 0))])] [1,2,5,8,9,10,11,36,37,48,49]) (.seq (.region false [
 ao 82 (.faddr 2 (.t 2)),
 ao 83 (.load none (.t 82)),
 ao 84 (.mv (.t 8)),
 ao 85 (.bin .sub (.t 84) (.c (i64 1))),
 ao 86 (.idxs 1 (.t 83) (.t 85)),
 ao 87 (.load none (.t 86)),
 ao 88 (.mv (.t 9)),
 ao 89 (.call 110 [(.t 87),(.t 88)]),
 ao 90 (.un .not (.t 89))] [1,2,5,8,10,11,36,37,48,49,90]) (.cond (.t 90) (.region false [
 ao 91 (.mv (.t 5)),
 ao 92 (.nilck (.t 91)),
 ao 93 (.faddr 4 (.t 92)),
 ao 94 (.mv (.t 10)),
 ao 95 (.mv (.t 11)),
 ao 96 (.call 124 [(.t 93),(.t 94),(.t 95),(.c (i64 0))])] [1,2,5,8,36,37,48,49]) (.skip))))))))) (.region false [
 ao 97 (.bin .add (.t 49) (.c (i64 1))),
 ao 49 (.mv (.t 97))] [1,2,5,8,36,37,48,49])))
def b94l3:AC:= .loop [1,2,5,8,36,37,48,49] [32,208,256,720,736,1792] d94l3
@[simp] def d94l2:AC:=
 .seq (.region false [
 ao 38 (.bin .lss (.t 37) (.t 36))] [1,2,5,36,37,38]) (.seq (.cond (.t 38) (.skip) (.exit 4)) (.seq (.block 5 (.seq (.region false [
 ao 39 (.mv (.t 37)),
 ao 8 (.mv (.t 39))] [1,2,5,8,36,37]) (.seq (.region true (spl [
 ao 40 (.mv (.t 5)),
 ap 41 (.nilck (.t 40)) [0],
 ap 42 (.faddr 4 (.t 41)) [1,0],
 ao 43 (.mv (.t 5)),
 ao 44 (.mv (.t 8)),
 ap 45 (.call 98 [(.t 43),(.t 44),(.c (i64 0))]) [3,4]] [
 ap 46 (.call 124 [(.t 42),(.c (i64 0)),(.t 45),(.c (i64 40))]) [2,5,1,0,3,4]]) [1,2,5,8,36,37]) (.seq (.region false [
 ao 47 (.faddr 0 (.t 2)),
 ao 48 (.load none (.t 47)),
 ao 49 (.mv (.c (i64 0)))] [1,2,5,8,36,37,48,49]) (.block 6 (b94l3)))))) (.region false [
 ao 98 (.bin .add (.t 37) (.c (i64 1))),
 ao 37 (.mv (.t 98))] [1,2,5,36,37])))
def b94l2:AC:= .loop [1,2,5,36,37] [32,208,256,1792] d94l2
@[simp] def d94l4:AC:=
 .seq (.region false [
 ao 103 (.bin .lss (.t 102) (.t 101))] [1,5,100,101,102,103]) (.seq (.cond (.t 103) (.skip) (.exit 8)) (.seq (.block 9 (.seq (.region false [
 ao 104 (.mv (.t 102)),
 ao 105 (.idxs 4 (.t 100) (.t 102)),
 ao 106 (.load (some 4) (.t 105)),
 ao 13 (.alloc [(i64 0),(i64 0),(i64 0),(i64 0)]),
 ao 12 (.mv (.t 104)),
 ⟨none, .store 4 (.t 13) (.t 106),none,[],[]⟩] [1,5,12,13,100,101,102]) (.seq (.region false [
 ao 107 (.mv (.t 12)),
 ao 108 (.mv (.t 1)),
 ao 109 (.bin .neq (.t 107) (.t 108))] [1,5,13,100,101,102,109]) (.cond (.t 109) (.region false [
 ao 110 (.mv (.t 5)),
 ao 111 (.load (some 4) (.t 13)),
 ao 112 (.call 125 [(.t 110),(.t 111)])] [1,5,100,101,102]) (.skip))))) (.region false [
 ao 113 (.bin .add (.t 102) (.c (i64 1))),
 ao 102 (.mv (.t 113))] [1,5,100,101,102])))
def b94l4:AC:= .loop [1,5,100,101,102] [32,256,720,736,928,1008,1024,1136,1200,1296,1424,1536] d94l4
def b94:AC:=
 .seq (.region false [
 ao 2 (.box (.t 0)),
 ao 4 (.mv (.c .nilp))] [1,2]) (.seq (.region false [
 ao 14 (.load (some 4) (.t 2)),
 ao 15 (.build ([(i64 0),(i64 0),(.sl .full 1 []),(.sl .full 4 [])] ++zeroV 441) [(0,4,(.t 14))]),
 ao 16 (.box (.t 15)),
 ao 5 (.mv (.t 16))] [1,2,5]) (.seq (.seq (.region false [
 ao 17 (.mv (.c (i64 0)))] [1,2,5,17]) (.block 0 (b94l0))) (.seq (.seq (.region false [
 ao 35 (.faddr 1 (.t 2)),
 ao 36 (.load none (.t 35)),
 ao 37 (.mv (.c (i64 0)))] [1,2,5,36,37]) (.block 4 (b94l2))) (.seq (.seq (.region false [
 ao 99 (.faddr 3 (.t 2)),
 ao 100 (.load none (.t 99)),
 ao 101 (.len (.t 100)),
 ao 102 (.mv (.c (i64 0)))] [1,5,100,101,102]) (.block 8 (b94l4))) (.seq (.region false [
 ao 114 (.mv (.t 5)),
 ao 4 (.mv (.t 114))] [4]) (.ret))))))
def a94:AFn:=⟨2,[.t 4],b94,false⟩
def n94:Ann:=⟨[[1,2],[1,2,5],[1,2,5,17],[1,2,5,17,18],[1,2,5,6,17],[1,2,5,6,17,20],[1,2,5,6,17,20,21],[1,2,5,6,7,17,20],[1,2,5,6,7,17,20,25],[1,2,5,6,17,20],[1,2,5,6,17,20],[1,2,5,17],[1,2,5,36,37],[1,2,5,36,37,38],[1,2,5,8,36,37],[1,2,5,8,36,37],[1,2,5,8,36,37,48,49],[1,2,5,8,36,37,48,49,50],[1,2,5,8,9,36,37,48,49],[1,2,5,8,9,36,37,48,49],[1,2,5,8,9,36,37,48,49,66],[1,2,5,8,9,10,11,36,37,48,49],[1,2,5,8,9,10,11,36,37,48,49],[1,2,5,8,10,11,36,37,48,49,90],[1,2,5,8,36,37,48,49],[1,2,5,8,36,37,48,49],[1,2,5,36,37],[1,5,100,101,102],[1,5,100,101,102,103],[1,5,12,13,100,101,102],[1,5,13,100,101,102,109],[1,5,100,101,102],[1,5,100,101,102],[4]],[⟨[],[1,2,5,17],[32,208,256,720,736,928,1008,1024,1136,1200,1296,1424,1536,1792]⟩,⟨[],[1,2,5,6,17,20],[32,208,256,720,736,928,1008,1024,1136,1200,1296,1424,1536,1792]⟩,⟨[],[1,2,5,36,37],[32,208,256,1792]⟩,⟨[],[1,2,5,8,36,37,48,49],[32,208,256,720,736,1792]⟩,⟨[],[1,5,100,101,102],[32,256,720,736,928,1008,1024,1136,1200,1296,1424,1536]⟩],[],[],[],false,[(4,256),(114,256),(110,256),(95,1200),(94,1136),(91,256),(80,1136),(79,1200),(76,256),(11,1200),(10,1136),(72,256),(67,256),(59,256),(55,256),(52,256),(43,256),(40,256),(26,256),(5,256)]⟩
@[simp] def d95l0:AC:=
 .seq (.region false [
 ao 5 (.bin .lss (.t 4) (.c (i64 21)))] [0,4,5]) (.seq (.cond (.t 5) (.skip) (.exit 0)) (.seq (.block 1 (.seq (.region false [
 ao 6 (.mv (.t 4)),
 ao 3 (.mv (.t 6))] [0,3,4]) (.seq (.region false [
 ao 7 (.mv (.t 0)),
 ao 8 (.mv (.t 3)),
 ao 9 (.mv (.t 3)),
 ao 10 (.nilck (.t 7)),
 ao 11 (.idxa 21 21 (.t 10) (.t 8)),
 ao 12 (.idxa 21 1 (.t 11) (.t 9)),
 ao 13 (.load none (.t 12)),
 ao 14 (.bin .lss (.t 13) (.c (i64 0)))] [0,4,14]) (.cond (.t 14) (.seq (.region false [
 ao 2 (.mv (.c (.bool true)))] [2]) (.ret)) (.skip))))) (.region false [
 ao 15 (.bin .add (.t 4) (.c (i64 1))),
 ao 4 (.mv (.t 15))] [0,4])))
def b95l0:AC:= .loop [0,4] [] d95l0
def b95:AC:=
 .seq (.region false [
 ao 2 (.mv (.c (.bool false)))] [0]) (.seq (.seq (.region false [
 ao 4 (.mv (.c (i64 0)))] [0,4]) (.block 0 (b95l0))) (.seq (.region false [
 ao 2 (.mv (.c (.bool false)))] [2]) (.ret)))
def a95:AFn:=⟨1,[.t 2],b95,false⟩
def n95:Ann:=⟨[[0],[0,4],[0,4,5],[0,3,4],[0,4,14],[2],[0,4],[2]],[⟨[],[0,4],[]⟩],[],[],[],false,[]⟩
def b96:AC:=
 .seq (.region false [
 ao 6 (.mv (.c (.bool false)))] [0,1,2]) (.seq (.region false [
 ao 7 (.mv (.t 0)),
 ao 8 (.mv (.t 1)),
 ao 9 (.bin .geq (.t 7) (.t 8)),
 ao 10 (.mv (.t 9)),
 ag 11 (.mv (.t 0)) 10 true [],
 ag 12 (.mv (.t 2)) 10 true [],
 ag 13 (.bin .leq (.t 11) (.t 12)) 10 true [],
 ao 14 (.pick (.t 10) (.t 13) (.c (.bool false))),
 ao 6 (.mv (.t 14))] [6]) (.ret))
def a96:AFn:=⟨3,[.t 6],b96,false⟩
def n96:Ann:=⟨[[0,1,2],[6]],[],[],[],[],false,[]⟩
def b97:AC:=
 .seq (.region false [
 ao 6 (.alloc [(i64 0),(i64 0)])] [0,1,2,6]) (.seq (.region true (spl [
 ao 7 (.mv (.t 0)),
 ao 8 (.mv (.t 2)),
 ao 9 (.mv (.t 1)),
 ap 10 (.nilck (.t 7)) [0],
 ap 11 (.idxa 21 21 (.t 10) (.t 8)) [3,1,0],
 ap 12 (.idxa 21 1 (.t 11) (.t 9)) [4,2,3,1,0],
 ap 13 (.load none (.t 12)) [5,4,2,3,1,0],
 ap 14 (.un .neg (.t 13)) [6,5,4,2,3,1,0],
 ao 15 (.mv (.t 0)),
 ao 16 (.mv (.t 1)),
 ao 17 (.mv (.t 2)),
 ap 18 (.nilck (.t 15)) [8],
 ap 19 (.idxa 21 21 (.t 18) (.t 16)) [11,9,8],
 ap 20 (.idxa 21 1 (.t 19) (.t 17)) [12,10,11,9,8],
 ap 21 (.load none (.t 20)) [13,12,10,11,9,8]] [
 ap 22 (.build [(i64 0),(i64 0)] [(0,1,(.t 14)),(1,1,(.t 21))]) [7,14,6,5,4,2,3,1,0,13,12,10,11,9,8],
 ⟨none, .store 2 (.t 6) (.t 22),none,[15,7,14,6,5,4,2,3,1,0,13,12,10,11,9,8],[]⟩]) [6]) (.ret))
def a97:AFn:=⟨3,[.cell 6 (some 2)],b97,false⟩
def n97:Ann:=⟨[[0,1,2,6],[6]],[],[],[],[],false,[]⟩
def b98:AC:=
 .seq (.region false [
 ao 6 (.mv (.c (i64 0)))] [0,1,2]) (.seq (.seq (.region false [
 ao 7 (.mv (.t 2)),
 ao 8 (.mv (.t 0)),
 ao 9 (.nilck (.t 8)),
 ao 10 (.faddr 0 (.t 9)),
 ao 11 (.faddr 0 (.t 10)),
 ao 12 (.load none (.t 11)),
 ao 13 (.bin .eql (.t 7) (.t 12))] [0,1,2,13]) (.cond (.t 13) (.seq (.region false [
 ao 6 (.mv (.c (i64 0)))] [6]) (.ret)) (.skip))) (.seq (.region false [
 ao 14 (.mv (.t 1)),
 ao 15 (.mv (.t 0)),
 ao 16 (.nilck (.t 15)),
 ao 17 (.faddr 0 (.t 16)),
 ao 18 (.faddr 0 (.t 17)),
 ao 19 (.load none (.t 18)),
 ao 20 (.bin .mul (.t 14) (.t 19)),
 ao 21 (.bin .add (.c (i64 1)) (.t 20)),
 ao 22 (.mv (.t 2)),
 ao 23 (.bin .add (.t 21) (.t 22)),
 ao 6 (.mv (.t 23))] [6]) (.ret)))
def a98:AFn:=⟨3,[.t 6],b98,false⟩
def n98:Ann:=⟨[[0,1,2],[0,1,2,13],[6],[6]],[],[],[],[],false,[]⟩
def b99:AC:=
 .seq (.region false [
 ao 6 (.mv (.c (i64 0)))] [0,1,2]) (.seq (.seq (.region false [
 ao 8 (.mv (.t 1)),
 ao 9 (.mv (.t 0)),
 ao 10 (.nilck (.t 9)),
 ao 11 (.faddr 0 (.t 10)),
 ao 12 (.faddr 14 (.t 11)),
 ao 13 (.load none (.t 12)),
 ao 14 (.len (.t 13)),
 ao 15 (.bin .eql (.t 8) (.t 14))] [0,1,2,15]) (.cond (.t 15) (.seq (.region false [
 ao 6 (.mv (.c (i64 0)))] [6]) (.ret)) (.skip))) (.seq (.region false [
 ao 16 (.mv (.t 0)),
 ao 17 (.mv (.t 1)),
 ao 18 (.bin .add (.t 17) (.c (i64 1))),
 ao 19 (.mv (.t 0)),
 ao 20 (.nilck (.t 19)),
 ao 21 (.faddr 0 (.t 20)),
 ao 22 (.faddr 12 (.t 21)),
 ao 23 (.load none (.t 22)),
 ao 24 (.mv (.t 2)),
 ao 25 (.idxs 1 (.t 23) (.t 24)),
 ao 26 (.load none (.t 25)),
 ao 27 (.call 83 [(.t 16),(.t 18),(.t 26)]),
 ao 7 (.mv (.t 27))] [0,1,2,7]) (.seq (.seq (.region false [
 ao 28 (.mv (.t 0)),
 ao 29 (.mv (.t 1)),
 ao 30 (.mv (.t 2)),
 ao 31 (.call 62 [(.t 28),(.t 29),(.t 30)])] [0,1,7,31]) (.cond (.t 31) (.region false [
 ao 32 (.mv (.t 7)),
 ao 33 (.mv (.t 0)),
 ao 34 (.nilck (.t 33)),
 ao 35 (.faddr 0 (.t 34)),
 ao 36 (.faddr 14 (.t 35)),
 ao 37 (.load none (.t 36)),
 ao 38 (.mv (.t 1)),
 ao 39 (.idxs 2 (.t 37) (.t 38)),
 ao 40 (.faddr 0 (.t 39)),
 ao 41 (.load none (.t 40)),
 ao 42 (.mm true (.t 32) (.t 41)),
 ao 7 (.mv (.t 42))] [7]) (.skip))) (.seq (.region false [
 ao 43 (.mv (.t 7)),
 ao 6 (.mv (.t 43))] [6]) (.ret)))))
def a99:AFn:=⟨3,[.t 6],b99,false⟩
def n99:Ann:=⟨[[0,1,2],[0,1,2,15],[6],[0,1,2,7],[0,1,7,31],[7],[6]],[],[],[],[],false,[(6,432),(43,432),(32,432),(7,432)]⟩
@[simp] def d100l0:AC:=
 .seq (.region false [
 ao 9 (.bin .lss (.t 8) (.t 7))] [0,1,6,7,8,9]) (.seq (.cond (.t 9) (.skip) (.exit 0)) (.seq (.block 1 (.seq (.region false [
 ao 10 (.mv (.t 8)),
 ao 11 (.idxs 1 (.t 6) (.t 8)),
 ao 12 (.load none (.t 11)),
 ao 4 (.mv (.t 10)),
 ao 5 (.mv (.t 12))] [0,1,4,5,6,7,8]) (.seq (.region false [
 ao 13 (.mv (.t 5)),
 ao 14 (.faddr 11 (.t 1)),
 ao 15 (.load none (.t 14)),
 ao 16 (.len (.t 15)),
 ao 17 (.bin .sub (.t 16) (.c (i64 1))),
 ao 18 (.call 101 [(.t 13),(.c (i64 0)),(.t 17)]),
 ao 19 (.un .not (.t 18)),
 ao 20 (.mv (.t 19)),
 ag 21 (.mv (.t 4)) 20 false [],
 ag 22 (.bin .gtr (.t 21) (.c (i64 0))) 20 false [],
 ag 23 (.mv (.t 22)) 20 false [],
 ag 24 (.mv (.t 5)) 23 true [],
 ag 25 (.mv (.t 0)) 23 true [],
 ag 26 (.mv (.t 4)) 23 true [],
 ag 27 (.bin .sub (.t 26) (.c (i64 1))) 23 true [],
 ag 28 (.idxs 1 (.t 25) (.t 27)) 23 true [],
 ag 29 (.load none (.t 28)) 23 true [],
 ag 30 (.bin .leq (.t 24) (.t 29)) 23 true [],
 ag 31 (.pick (.t 23) (.t 30) (.c (.bool false))) 20 false [],
 ao 32 (.pick (.t 20) (.c (.bool true)) (.t 31))] [0,1,6,7,8,32]) (.cond (.t 32) (.seq (.region false [
 ao 3 (.mv (.c (.bool false)))] [3]) (.ret)) (.skip))))) (.region false [
 ao 33 (.bin .add (.t 8) (.c (i64 1))),
 ao 8 (.mv (.t 33))] [0,1,6,7,8])))
def b100l0:AC:= .loop [0,1,6,7,8] [] d100l0
def b100:AC:=
 .seq (.region false [
 ao 3 (.mv (.c (.bool false)))] [0,1]) (.seq (.seq (.region false [
 ao 6 (.mv (.t 0)),
 ao 7 (.len (.t 6)),
 ao 8 (.mv (.c (i64 0)))] [0,1,6,7,8]) (.block 0 (b100l0))) (.seq (.region false [
 ao 34 (.mv (.t 0)),
 ao 35 (.len (.t 34)),
 ao 36 (.bin .gtr (.t 35) (.c (i64 0))),
 ao 3 (.mv (.t 36))] [3]) (.ret)))
def a100:AFn:=⟨2,[.t 3],b100,false⟩
def n100:Ann:=⟨[[0,1],[0,1,6,7,8],[0,1,6,7,8,9],[0,1,4,5,6,7,8],[0,1,6,7,8,32],[3],[0,1,6,7,8],[3]],[⟨[],[0,1,6,7,8],[]⟩],[],[],[],false,[]⟩
def b101:AC:=
 .seq (.region false [
 ao 6 (.mv (.c (.bool false)))] [0,1,2]) (.seq (.region false [
 ao 7 (.mv (.t 0)),
 ao 8 (.mv (.t 1)),
 ao 9 (.bin .geq (.t 7) (.t 8)),
 ao 10 (.mv (.t 9)),
 ag 11 (.mv (.t 0)) 10 true [],
 ag 12 (.mv (.t 2)) 10 true [],
 ag 13 (.bin .leq (.t 11) (.t 12)) 10 true [],
 ao 14 (.pick (.t 10) (.t 13) (.c (.bool false))),
 ao 6 (.mv (.t 14))] [6]) (.ret))
def a101:AFn:=⟨3,[.t 6],b101,false⟩
def n101:Ann:=⟨[[0,1,2],[6]],[],[],[],[],false,[]⟩
def b102:AC:=
 .seq (.region false [
 ao 1 (.box (.t 0)),
 ao 2 (.mv (.c (i64 0)))] [1]) (.seq (.region false [
 ao 4 (.faddr 0 (.t 1)),
 ao 5 (.load (some 2) (.t 4)),
 ao 6 (.call 126 [(.t 5),(.c (i64 20))]),
 ao 7 (.mv (.t 6)),
 ag 8 (.faddr 2 (.t 1)) 7 true [],
 ag 9 (.load (some 2) (.t 8)) 7 true [],
 ag 10 (.call 126 [(.t 9),(.c (i64 20))]) 7 true [],
 ao 11 (.pick (.t 7) (.t 10) (.c (.bool false))),
 ao 12 (.mv (.t 11)),
 ag 13 (.faddr 4 (.t 1)) 12 true [],
 ag 14 (.load none (.t 13)) 12 true [],
 ag 15 (.len (.t 14)) 12 true [],
 ag 16 (.bin .leq (.t 15) (.c (i64 3))) 12 true [],
 ao 17 (.pick (.t 12) (.t 16) (.c (.bool false))),
 ao 18 (.mv (.t 17)),
 ag 19 (.faddr 5 (.t 1)) 18 true [],
 ag 20 (.load none (.t 19)) 18 true [],
 ag 21 (.len (.t 20)) 18 true [],
 ag 22 (.bin .leq (.t 21) (.c (i64 6))) 18 true [],
 ao 23 (.pick (.t 18) (.t 22) (.c (.bool false))),
 ao 24 (.mv (.t 23)),
 ag 25 (.faddr 6 (.t 1)) 24 true [],
 ag 26 (.load none (.t 25)) 24 true [],
 ag 27 (.len (.t 26)) 24 true [],
 ag 28 (.faddr 5 (.t 1)) 24 true [],
 ag 29 (.load none (.t 28)) 24 true [],
 ag 30 (.len (.t 29)) 24 true [],
 ag 31 (.bin .sub (.t 30) (.c (i64 1))) 24 true [],
 ag 32 (.mm true (.c (i64 0)) (.t 31)) 24 true [],
 ag 33 (.bin .eql (.t 27) (.t 32)) 24 true [],
 ao 34 (.pick (.t 24) (.t 33) (.c (.bool false))),
 ao 3 (.mv (.t 34))] [1,3]) (.seq (.region false [
 ao 35 (.mv (.t 3)),
 ao 36 (.mv (.t 35)),
 ag 37 (.faddr 4 (.t 1)) 36 true [],
 ag 38 (.load none (.t 37)) 36 true [],
 ag 39 (.call 127 [(.t 38),(.c (.fn 128 [] []))]) 36 true [],
 ao 40 (.pick (.t 36) (.t 39) (.c (.bool false))),
 ao 3 (.mv (.t 40))] [1,3]) (.seq (.region false [
 ao 41 (.mv (.t 3)),
 ao 42 (.mv (.t 41)),
 ag 43 (.faddr 5 (.t 1)) 42 true [],
 ag 44 (.load none (.t 43)) 42 true [],
 ag 45 (.mkfn 130 [] [(.t 1)]) 42 true [],
 ag 46 (.call 129 [(.t 44),(.t 45)]) 42 true [],
 ao 47 (.pick (.t 42) (.t 46) (.c (.bool false))),
 ao 3 (.mv (.t 47))] [1,3]) (.seq (.region false [
 ao 48 (.mv (.t 3)),
 ao 49 (.mv (.t 48)),
 ag 50 (.faddr 6 (.t 1)) 49 true [],
 ag 51 (.load none (.t 50)) 49 true [],
 ag 52 (.call 132 [(.t 51),(.c (.fn 133 [] []))]) 49 true [],
 ao 53 (.pick (.t 49) (.t 52) (.c (.bool false))),
 ao 3 (.mv (.t 53))] [3]) (.seq (.seq (.region false [
 ao 54 (.mv (.t 3)),
 ao 55 (.un .not (.t 54))] [55]) (.cond (.t 55) (.seq (.region false [
 ao 2 (.mv (.c (i64 20)))] [2]) (.ret)) (.skip))) (.seq (.region false [
 ao 2 (.mv (.c (i64 0)))] [2]) (.ret)))))))
def a102:AFn:=⟨1,[.t 2],b102,false⟩
def n102:Ann:=⟨[[1],[1,3],[1,3],[1,3],[3],[55],[2],[2]],[],[],[],[],false,[(7,96)]⟩
def b103:AC:=
 .seq (.region false [
 ao 2 (.box (.t 0)),
 ao 4 (.mv (.c (.bool false)))] [1,2]) (.seq (.region false [
 ao 5 (.faddr 0 (.t 2)),
 ao 6 (.load none (.t 5)),
 ao 7 (.faddr 1 (.t 2)),
 ao 8 (.load none (.t 7)),
 ao 9 (.call 101 [(.t 6),(.c (i64 0)),(.t 8)]),
 ao 10 (.mv (.t 9)),
 ag 11 (.faddr 1 (.t 2)) 10 true [],
 ag 12 (.load none (.t 11)) 10 true [],
 ag 13 (.mv (.t 1)) 10 true [],
 ag 14 (.bin .leq (.t 12) (.t 13)) 10 true [],
 ao 15 (.pick (.t 10) (.t 14) (.c (.bool false))),
 ao 4 (.mv (.t 15))] [4]) (.ret))
def a103:AFn:=⟨2,[.t 4],b103,false⟩
def n103:Ann:=⟨[[1,2],[4]],[],[],[],[],false,[(10,144)]⟩
def b104:AC:=
 .seq (.region false [
 ao 4 (.mv (.c (i64 0)))] [0,1]) (.seq (.block 0 (.seq (.region false [
 ao 6 (.mv (.t 0)),
 ao 5 (.mv (.t 6))] [1,5]) (.cond (.t 5) (.seq (.region false [
 ao 4 (.mv (.c (i64 1)))] [4]) (.ret)) (.seq (.region false [
 ao 8 (.mv (.t 1)),
 ao 7 (.mv (.t 8))] [7]) (.cond (.t 7) (.seq (.region false [
 ao 4 (.mv (.c (i64 3)))] [4]) (.ret)) (.skip)))))) (.seq (.region false [
 ao 4 (.mv (.c (i64 2)))] [4]) (.ret)))
def a104:AFn:=⟨2,[.t 4],b104,false⟩
def n104:Ann:=⟨[[0,1],[1,5],[4],[7],[4],[4]],[],[],[],[],false,[]⟩
@[simp] def d105l0:AC:=
 .seq (.region false [
 ao 17 (.bin .lss (.t 16) (.t 15))] [1,2,3,14,15,16,17]) (.seq (.cond (.t 17) (.skip) (.exit 0)) (.seq (.block 1 (.seq (.region false [
 ao 18 (.idxs 2 (.t 14) (.t 16)),
 ao 19 (.load (some 2) (.t 18)),
 ao 5 (.alloc [(i64 0),(i64 0)]),
 ⟨none, .store 2 (.t 5) (.t 19),none,[],[]⟩] [1,2,3,5,14,15,16]) (.region false [
 ao 20 (.faddr 2 (.t 3)),
 ao 21 (.load none (.t 20)),
 ao 22 (.faddr 0 (.t 5)),
 ao 23 (.load none (.t 22)),
 ao 24 (.lit [(i64 0)] 1 [(0,(.t 23))]),
 ao 25 (.app 1 8 (.t 21) (.t 24)),
 ao 26 (.faddr 2 (.t 3)),
 ⟨none, .store 1 (.t 26) (.t 25),none,[],[]⟩] [1,2,3,14,15,16]))) (.region false [
 ao 27 (.bin .add (.t 16) (.c (i64 1))),
 ao 16 (.mv (.t 27))] [1,2,3,14,15,16])))
def b105l0:AC:= .loop [1,2,3,14,15,16] [16,32,48,52] d105l0
def b105:AC:=
 .seq (.region false [
 ao 1 (.box (.t 0)),
 ao 2 (.alloc [(i64 0),(i64 0),(i64 0),(i64 0),(.sl .full 2 []),(.sl .full 2 []),(.sl .full 5 []),(i64 0),(i64 0),(.sl .full 1 [])])] [1,2]) (.seq (.region false [
 ao 6 (.faddr 0 (.t 1)),
 ao 7 (.faddr 1 (.t 6)),
 ao 8 (.load none (.t 7)),
 ao 9 (.faddr 2 (.t 1)),
 ao 10 (.faddr 1 (.t 9)),
 ao 11 (.load none (.t 10)),
 ao 12 (.build [(i64 0),(i64 0),(.sl .full 1 [])] [(0,1,(.t 8)),(1,1,(.t 11))]),
 ao 3 (.alloc [(i64 0),(i64 0),(.sl .full 1 [])]),
 ⟨none, .store 3 (.t 3) (.t 12),none,[],[]⟩] [1,2,3]) (.seq (.seq (.region false [
 ao 13 (.faddr 4 (.t 1)),
 ao 14 (.load none (.t 13)),
 ao 15 (.len (.t 14)),
 ao 16 (.mv (.c (i64 0)))] [1,2,3,14,15,16]) (.block 0 (.seq (.thawc 3 2 52 1) (b105l0)))) (.seq (.region false [
 ao 28 (.load (some 7) (.t 1)),
 ao 29 (.load (some 3) (.t 3)),
 ao 30 (.build [(i64 0),(i64 0),(i64 0),(i64 0),(.sl .full 2 []),(.sl .full 2 []),(.sl .full 5 []),(i64 0),(i64 0),(.sl .full 1 [])] [(0,7,(.t 28)),(7,3,(.t 29))]),
 ⟨none, .store 10 (.t 2) (.t 30),none,[],[]⟩] [2]) (.ret))))
def a105:AFn:=⟨1,[.cell 2 (some 10)],b105,false⟩
def n105:Ann:=⟨[[1,2],[1,2,3],[1,2,3,14,15,16],[1,2,3,14,15,16,17],[1,2,3,5,14,15,16],[1,2,3,14,15,16],[1,2,3,14,15,16],[2]],[⟨[.c 3 2 52 1],[1,2,3,14,15,16],[16,32,48,52]⟩],[],[],[],false,[]⟩
@[simp] def d106l0:AC:=
 .seq (.region false [
 ao 13 (.bin .lss (.t 12) (.t 11))] [1,2,5,11,12,13]) (.seq (.cond (.t 13) (.skip) (.exit 0)) (.seq (.block 1 (.seq (.region false [
 ao 14 (.mv (.t 12)),
 ao 6 (.mv (.t 14))] [1,2,5,6,11,12]) (.seq (.region false [
 ao 15 (.mv (.t 1)),
 ao 16 (.mv (.t 6)),
 ao 17 (.call 134 [(.t 15),(.t 16)]),
 ao 18 (.un .not (.t 17)),
 ao 19 (.mv (.t 18)),
 ag 20 (.load (some 10) (.t 2)) 19 true [],
 ag 21 (.mv (.t 6)) 19 true [],
 ag 22 (.mv (.t 1)) 19 true [],
 ag 23 (.call 135 [(.t 20),(.t 21),(.t 22)]) 19 true [],
 ag 24 (.bin .lss (.t 23) (.c (i64 0))) 19 true [],
 ao 25 (.pick (.t 19) (.t 24) (.c (.bool false)))] [1,2,5,6,11,12,25]) (.cond (.t 25) (.region false [
 ao 26 (.mv (.t 5)),
 ao 27 (.mv (.t 6)),
 ao 28 (.call 136 [(.t 26),(.t 27)]),
 ao 5 (.mv (.t 28))] [1,2,5,11,12]) (.skip))))) (.region false [
 ao 29 (.bin .add (.t 12) (.c (i64 1))),
 ao 12 (.mv (.t 29))] [1,2,5,11,12])))
def b106l0:AC:= .loop [1,2,5,11,12] [32] d106l0
def b106:AC:=
 .seq (.region false [
 ao 2 (.box (.t 0)),
 ao 4 (.mv (.c (.int .u64 0)))] [1,2]) (.seq (.region false [
 ao 7 (.mv (.t 1)),
 ao 5 (.mv (.t 7))] [1,2,5]) (.seq (.seq (.region false [
 ao 8 (.faddr 0 (.t 2)),
 ao 9 (.faddr 5 (.t 8)),
 ao 10 (.load none (.t 9)),
 ao 11 (.len (.t 10)),
 ao 12 (.mv (.c (i64 0)))] [1,2,5,11,12]) (.block 0 (b106l0))) (.seq (.region false [
 ao 30 (.mv (.t 5)),
 ao 4 (.mv (.t 30))] [4]) (.ret))))
def a106:AFn:=⟨2,[.t 4],b106,false⟩
def n106:Ann:=⟨[[1,2],[1,2,5],[1,2,5,11,12],[1,2,5,11,12,13],[1,2,5,6,11,12],[1,2,5,6,11,12,25],[1,2,5,11,12],[1,2,5,11,12],[4]],[⟨[],[1,2,5,11,12],[32]⟩],[],[],[],false,[(26,448),(4,448),(30,448),(5,448)]⟩
@[simp] def d107l0:AC:=
 .seq (.region false [
 ao 17 (.bin .lss (.t 16) (.t 15))] [1,2,3,14,15,16,17]) (.seq (.cond (.t 17) (.skip) (.exit 0)) (.seq (.block 1 (.seq (.region false [
 ao 18 (.idxs 2 (.t 14) (.t 16)),
 ao 19 (.load (some 2) (.t 18)),
 ao 5 (.alloc [(i64 0),(i64 0)]),
 ⟨none, .store 2 (.t 5) (.t 19),none,[],[]⟩] [1,2,3,5,14,15,16]) (.region false [
 ao 20 (.faddr 2 (.t 3)),
 ao 21 (.load none (.t 20)),
 ao 22 (.faddr 1 (.t 5)),
 ao 23 (.load none (.t 22)),
 ao 24 (.lit [(i64 0)] 1 [(0,(.t 23))]),
 ao 25 (.app 1 8 (.t 21) (.t 24)),
 ao 26 (.faddr 2 (.t 3)),
 ⟨none, .store 1 (.t 26) (.t 25),none,[],[]⟩] [1,2,3,14,15,16]))) (.region false [
 ao 27 (.bin .add (.t 16) (.c (i64 1))),
 ao 16 (.mv (.t 27))] [1,2,3,14,15,16])))
def b107l0:AC:= .loop [1,2,3,14,15,16] [16,32,48,52] d107l0
def b107:AC:=
 .seq (.region false [
 ao 1 (.box (.t 0)),
 ao 2 (.alloc [(i64 0),(i64 0),(i64 0),(i64 0),(.sl .full 2 []),(.sl .full 2 []),(.sl .full 5 []),(i64 0),(i64 0),(.sl .full 1 [])])] [1,2]) (.seq (.region false [
 ao 6 (.faddr 0 (.t 1)),
 ao 7 (.faddr 0 (.t 6)),
 ao 8 (.load none (.t 7)),
 ao 9 (.faddr 2 (.t 1)),
 ao 10 (.faddr 0 (.t 9)),
 ao 11 (.load none (.t 10)),
 ao 12 (.build [(i64 0),(i64 0),(.sl .full 1 [])] [(0,1,(.t 8)),(1,1,(.t 11))]),
 ao 3 (.alloc [(i64 0),(i64 0),(.sl .full 1 [])]),
 ⟨none, .store 3 (.t 3) (.t 12),none,[],[]⟩] [1,2,3]) (.seq (.seq (.region false [
 ao 13 (.faddr 4 (.t 1)),
 ao 14 (.load none (.t 13)),
 ao 15 (.len (.t 14)),
 ao 16 (.mv (.c (i64 0)))] [1,2,3,14,15,16]) (.block 0 (.seq (.thawc 3 2 52 1) (b107l0)))) (.seq (.region false [
 ao 28 (.load (some 7) (.t 1)),
 ao 29 (.load (some 3) (.t 3)),
 ao 30 (.build [(i64 0),(i64 0),(i64 0),(i64 0),(.sl .full 2 []),(.sl .full 2 []),(.sl .full 5 []),(i64 0),(i64 0),(.sl .full 1 [])] [(0,7,(.t 28)),(7,3,(.t 29))]),
 ⟨none, .store 10 (.t 2) (.t 30),none,[],[]⟩] [2]) (.ret))))
def a107:AFn:=⟨1,[.cell 2 (some 10)],b107,false⟩
def n107:Ann:=⟨[[1,2],[1,2,3],[1,2,3,14,15,16],[1,2,3,14,15,16,17],[1,2,3,5,14,15,16],[1,2,3,14,15,16],[1,2,3,14,15,16],[2]],[⟨[.c 3 2 52 1],[1,2,3,14,15,16],[16,32,48,52]⟩],[],[],[],false,[]⟩
def b108:AC:=
 .seq (.region false [
 ao 6 (.mv (.c (.bool false)))] [0,1,2]) (.seq (.region false [
 ao 7 (.mv (.t 0)),
 ao 8 (.mv (.t 1)),
 ao 9 (.bin .geq (.t 7) (.t 8)),
 ao 10 (.mv (.t 9)),
 ag 11 (.mv (.t 0)) 10 true [],
 ag 12 (.mv (.t 2)) 10 true [],
 ag 13 (.bin .leq (.t 11) (.t 12)) 10 true [],
 ao 14 (.pick (.t 10) (.t 13) (.c (.bool false))),
 ao 6 (.mv (.t 14))] [6]) (.ret))
def a108:AFn:=⟨3,[.t 6],b108,false⟩
def n108:Ann:=⟨[[0,1,2],[6]],[],[],[],[],false,[]⟩
@[simp] def d109l0:AC:=
 .seq (.region false [
 ao 26 (.bin .lss (.t 25) (.t 24))] [0,3,24,25,26]) (.seq (.cond (.t 26) (.skip) (.exit 0)) (.seq (.block 1 (.seq (.region false [
 ao 27 (.mv (.t 25)),
 ao 6 (.mv (.t 27))] [0,3,6,24,25]) (.seq (.region true (spl [
 ao 28 (.mv (.t 0)),
 ao 29 (.mv (.t 6)),
 ap 30 (.call 110 [(.t 28),(.t 29)]) [0,1],
 ap 31 (.un .not (.t 30)) [2,0,1],
 ap 32 (.mv (.t 31)) [3,2,0,1],
 ag 33 (.load none (.t 3)) 32 true [4,3,2,0,1],
 ag 34 (.mv (.t 0)) 32 true [4,3,2,0,1],
 ag 35 (.mv (.t 0)) 32 true [4,3,2,0,1],
 ag 36 (.len (.t 35)) 32 true [7,4,3,2,0,1],
 ag 37 (.mv (.t 0)) 32 true [4,3,2,0,1],
 ag 38 (.len (.t 37)) 32 true [9,4,3,2,0,1],
 ag 39 (.slice 1 (.t 34) none (some (.t 36)) (some (.t 38))) 32 true [6,8,10,7,9,4,3,2,0,1],
 ag 40 (.mv (.t 6)) 32 true [4,3,2,0,1],
 ag 41 (.lit [(i64 0)] 1 [(0,(.t 40))]) 32 true [12,4,3,2,0,1],
 ag 42 (.app 1 8 (.t 39) (.t 41)) 32 true [11,13,6,8,10,7,9,12,4,3,2,0,1]] [
 ag 43 (.callv (.t 33) [(.t 42)]) 32 true [5,14,11,13,6,8,10,7,9,12,4,3,2,0,1],
 ag 44 (.un .not (.t 43)) 32 true [15,5,14,11,13,6,8,10,7,9,12,4,3,2,0,1],
 ap 45 (.pick (.t 32) (.t 44) (.c (.bool false))) [16,15,5,14,11,13,6,8,10,7,9,12,4,3,2,0,1]]) [0,3,24,25,45]) (.cond (.t 45) (.seq (.region false [
 ao 5 (.mv (.c (.bool false)))] [5]) (.ret)) (.skip))))) (.region false [
 ao 46 (.bin .add (.t 25) (.c (i64 1))),
 ao 25 (.mv (.t 46))] [0,3,24,25])))
def b109l0:AC:= .loop [0,3,24,25] [288] d109l0
def b109:AC:=
 .seq (.region false [
 ao 5 (.mv (.c (.bool false)))] [0,1,2,3]) (.seq (.seq (.region false [
 ao 7 (.mv (.t 0)),
 ao 8 (.len (.t 7)),
 ao 9 (.load none (.t 1)),
 ao 10 (.nilck (.t 9)),
 ao 11 (.faddr 0 (.t 10)),
 ao 12 (.faddr 2 (.t 11)),
 ao 13 (.load none (.t 12)),
 ao 14 (.len (.t 13)),
 ao 15 (.bin .eql (.t 8) (.t 14))] [0,1,2,3,15]) (.cond (.t 15) (.seq (.region false [
 ao 16 (.load none (.t 2)),
 ao 17 (.mv (.t 0)),
 ao 18 (.callv (.t 16) [(.t 17)]),
 ao 5 (.mv (.t 18))] [5]) (.ret)) (.skip))) (.seq (.seq (.region false [
 ao 19 (.load none (.t 1)),
 ao 20 (.nilck (.t 19)),
 ao 21 (.faddr 0 (.t 20)),
 ao 22 (.faddr 3 (.t 21)),
 ao 23 (.load none (.t 22)),
 ao 24 (.len (.t 23)),
 ao 25 (.mv (.c (i64 0)))] [0,3,24,25]) (.block 0 (b109l0))) (.seq (.region false [
 ao 5 (.mv (.c (.bool true)))] [5]) (.ret))))
def a109:AFn:=⟨4,[.t 5],b109,false⟩
def n109:Ann:=⟨[[0,1,2,3],[0,1,2,3,15],[5],[0,3,24,25],[0,3,24,25,26],[0,3,6,24,25],[0,3,24,25,45],[5],[0,3,24,25],[5]],[⟨[],[0,3,24,25],[288]⟩],[],[],[],false,[]⟩
def b110:AC:=
 .seq (.region false [
 ao 4 (.mv (.c (.bool false)))] [0,1]) (.seq (.region false [
 ao 5 (.mv (.t 0)),
 ao 6 (.mv (.t 1)),
 ao 7 (.call 137 [(.t 5),(.t 6)]),
 ao 8 (.bin .geq (.t 7) (.c (i64 0))),
 ao 4 (.mv (.t 8))] [4]) (.ret))
def a110:AFn:=⟨2,[.t 4],b110,false⟩
def n110:Ann:=⟨[[0,1],[4]],[],[],[],[],false,[]⟩
@[simp] def d123l1:AC:=
 .seq (.region false [
 ao 42 (.bin .lss (.t 41) (.t 40))] [1,4,33,34,35,39,40,41,42]) (.seq (.cond (.t 42) (.skip) (.exit 2)) (.seq (.block 3 (.seq (.region false [
 ao 43 (.mv (.t 41)),
 ao 44 (.idxs 1 (.t 39) (.t 41)),
 ao 45 (.load none (.t 44)),
 ao 5 (.mv (.t 43)),
 ao 6 (.mv (.t 45))] [1,4,5,6,33,34,35,39,40,41]) (.seq (.region false [
 ao 46 (.mv (.t 6)),
 ao 47 (.faddr 0 (.t 1)),
 ao 48 (.load none (.t 47)),
 ao 49 (.bin .sub (.t 48) (.c (i64 1))),
 ao 50 (.call 96 [(.t 46),(.c (i64 0)),(.t 49)]),
 ao 51 (.un .not (.t 50)),
 ao 52 (.mv (.t 51)),
 ag 53 (.mv (.t 5)) 52 false [],
 ag 54 (.bin .gtr (.t 53) (.c (i64 0))) 52 false [],
 ag 55 (.mv (.t 54)) 52 false [],
 ag 56 (.mv (.t 6)) 55 true [],
 ag 57 (.mv (.t 4)) 55 true [],
 ag 58 (.mv (.t 5)) 55 true [],
 ag 59 (.bin .sub (.t 58) (.c (i64 1))) 55 true [],
 ag 60 (.idxs 1 (.t 57) (.t 59)) 55 true [],
 ag 61 (.load none (.t 60)) 55 true [],
 ag 62 (.bin .leq (.t 56) (.t 61)) 55 true [],
 ag 63 (.pick (.t 55) (.t 62) (.c (.bool false))) 52 false [],
 ao 64 (.pick (.t 52) (.c (.bool true)) (.t 63))] [1,4,33,34,35,39,40,41,64]) (.cond (.t 64) (.seq (.region false [
 ao 2 (.mv (.c (i64 10)))] [2]) (.ret)) (.skip))))) (.region false [
 ao 65 (.bin .add (.t 41) (.c (i64 1))),
 ao 41 (.mv (.t 65))] [1,4,33,34,35,39,40,41])))
def b123l1:AC:= .loop [1,4,33,34,35,39,40,41] [16,144,224,1120] d123l1
@[simp] def d123l0:AC:=
 .seq (.region false [
 ao 36 (.bin .lss (.t 35) (.t 34))] [1,33,34,35,36]) (.seq (.cond (.t 36) (.skip) (.exit 0)) (.seq (.block 1 (.seq (.region false [
 ao 37 (.idxs 1 (.t 33) (.t 35)),
 ao 38 (.load none (.t 37)),
 ao 4 (.mv (.t 38))] [1,4,33,34,35]) (.seq (.region false [
 ao 39 (.mv (.t 4)),
 ao 40 (.len (.t 39)),
 ao 41 (.mv (.c (i64 0)))] [1,4,33,34,35,39,40,41]) (.block 2 (b123l1))))) (.region false [
 ao 66 (.bin .add (.t 35) (.c (i64 1))),
 ao 35 (.mv (.t 66))] [1,33,34,35])))
def b123l0:AC:= .loop [1,33,34,35] [16,144,224,1120] d123l0
def b123:AC:=
 .seq (.region false [
 ao 1 (.box (.t 0)),
 ao 2 (.mv (.c (i64 0)))] [1]) (.seq (.seq (.region false [
 ao 7 (.faddr 0 (.t 1)),
 ao 8 (.load none (.t 7)),
 ao 9 (.call 96 [(.t 8),(.c (i64 1)),(.c (i64 4))]),
 ao 10 (.un .not (.t 9)),
 ao 11 (.mv (.t 10)),
 ag 12 (.faddr 1 (.t 1)) 11 false [],
 ag 13 (.load none (.t 12)) 11 false [],
 ag 14 (.call 96 [(.t 13),(.c (i64 1)),(.c (i64 5))]) 11 false [],
 ag 15 (.un .not (.t 14)) 11 false [],
 ao 16 (.pick (.t 11) (.c (.bool true)) (.t 15)),
 ao 17 (.mv (.t 16)),
 ag 18 (.faddr 2 (.t 1)) 17 false [],
 ag 19 (.load none (.t 18)) 17 false [],
 ag 20 (.len (.t 19)) 17 false [],
 ag 21 (.faddr 1 (.t 1)) 17 false [],
 ag 22 (.load none (.t 21)) 17 false [],
 ag 23 (.bin .sub (.t 22) (.c (i64 1))) 17 false [],
 ag 24 (.bin .neq (.t 20) (.t 23)) 17 false [],
 ao 25 (.pick (.t 17) (.c (.bool true)) (.t 24)),
 ao 26 (.mv (.t 25)),
 ag 27 (.faddr 3 (.t 1)) 26 false [],
 ag 28 (.load none (.t 27)) 26 false [],
 ag 29 (.len (.t 28)) 26 false [],
 ag 30 (.bin .gtr (.t 29) (.c (i64 8))) 26 false [],
 ao 31 (.pick (.t 26) (.c (.bool true)) (.t 30))] [1,31]) (.cond (.t 31) (.seq (.region false [
 ao 2 (.mv (.c (i64 10)))] [2]) (.ret)) (.skip))) (.seq (.seq (.region false [
 ao 32 (.faddr 2 (.t 1)),
 ao 33 (.load none (.t 32)),
 ao 34 (.len (.t 33)),
 ao 35 (.mv (.c (i64 0)))] [1,33,34,35]) (.block 0 (b123l0))) (.seq (.seq (.region false [
 ao 67 (.faddr 3 (.t 1)),
 ao 68 (.load none (.t 67)),
 ao 69 (.mkfn 148 [] [(.t 1)]),
 ao 70 (.call 147 [(.t 68),(.t 69)])] [70]) (.cond (.t 70) (.seq (.region false [
 ao 2 (.mv (.c (i64 10)))] [2]) (.ret)) (.skip))) (.seq (.region false [
 ao 2 (.mv (.c (i64 0)))] [2]) (.ret)))))
def a123:AFn:=⟨1,[.t 2],b123,false⟩
def n123:Ann:=⟨[[1],[1,31],[2],[1,33,34,35],[1,33,34,35,36],[1,4,33,34,35],[1,4,33,34,35,39,40,41],[1,4,33,34,35,39,40,41,42],[1,4,5,6,33,34,35,39,40,41],[1,4,33,34,35,39,40,41,64],[2],[1,4,33,34,35,39,40,41],[1,33,34,35],[70],[2],[2]],[⟨[],[1,33,34,35],[16,144,224,1120]⟩,⟨[],[1,4,33,34,35,39,40,41],[16,144,224,1120]⟩],[],[],[],false,[]⟩
@[simp] def d124l1:AC:=
 .seq (.region false [
 ao 23 (.bin .lss (.t 22) (.c (i64 21)))] [0,1,2,3,8,19,22,23]) (.seq (.cond (.t 23) (.skip) (.exit 2)) (.seq (.block 3 (.seq (.region false [
 ao 24 (.mv (.t 22)),
 ao 9 (.mv (.t 24))] [0,1,2,3,8,9,19,22]) (.region true (spl [
 ao 25 (.mv (.t 0)),
 ao 26 (.mv (.t 8)),
 ao 27 (.mv (.t 9)),
 ao 28 (.mv (.t 0)),
 ao 29 (.mv (.t 8)),
 ao 30 (.mv (.t 9)),
 ap 31 (.nilck (.t 28)) [3],
 ap 32 (.idxa 21 21 (.t 31) (.t 29)) [6,4,3],
 ap 33 (.idxa 21 1 (.t 32) (.t 30)) [7,5,6,4,3],
 ap 34 (.load none (.t 33)) [8,7,5,6,4,3],
 ao 35 (.mv (.t 0)),
 ao 36 (.mv (.t 8)),
 ao 37 (.mv (.t 1)),
 ap 38 (.nilck (.t 35)) [10],
 ap 39 (.idxa 21 21 (.t 38) (.t 36)) [13,11,10],
 ap 40 (.idxa 21 1 (.t 39) (.t 37)) [14,12,13,11,10],
 ap 41 (.load none (.t 40)) [15,14,12,13,11,10],
 ao 42 (.mv (.t 3)),
 ap 43 (.bin .add (.t 41) (.t 42)) [16,17,15,14,12,13,11,10],
 ao 44 (.mv (.t 0)),
 ao 45 (.mv (.t 2)),
 ao 46 (.mv (.t 9)),
 ap 47 (.nilck (.t 44)) [19],
 ap 48 (.idxa 21 21 (.t 47) (.t 45)) [22,20,19],
 ap 49 (.idxa 21 1 (.t 48) (.t 46)) [23,21,22,20,19],
 ap 50 (.load none (.t 49)) [24,23,21,22,20,19],
 ap 51 (.bin .add (.t 43) (.t 50)) [18,25,16,17,15,14,12,13,11,10,24,23,21,22,20,19],
 ap 52 (.mm false (.t 34) (.t 51)) [9,26,8,7,5,6,4,3,18,25,16,17,15,14,12,13,11,10,24,23,21,22,20,19],
 ap 53 (.nilck (.t 25)) [0],
 ap 54 (.idxa 21 21 (.t 53) (.t 26)) [28,1,0]] [
 ap 55 (.idxa 21 1 (.t 54) (.t 27)) [29,2,27,28,1,0,9,26,8,7,5,6,4,3,18,25,16,17,15,14,12,13,11,10,24,23,21,22,20,19],
 ⟨none, .store 1 (.t 55) (.t 52),none,[30,29,2,27,28,1,0,9,26,8,7,5,6,4,3,18,25,16,17,15,14,12,13,11,10,24,23,21,22,20,19],[]⟩]) [0,1,2,3,8,19,22]))) (.region false [
 ao 56 (.bin .add (.t 22) (.c (i64 1))),
 ao 22 (.mv (.t 56))] [0,1,2,3,8,19,22])))
def b124l1:AC:= .loop [0,1,2,3,8,19,22] [] d124l1
@[simp] def d124l0:AC:=
 .seq (.region false [
 ao 20 (.bin .lss (.t 19) (.c (i64 21)))] [0,1,2,3,19,20]) (.seq (.cond (.t 20) (.skip) (.exit 0)) (.seq (.block 1 (.seq (.region false [
 ao 21 (.mv (.t 19)),
 ao 8 (.mv (.t 21))] [0,1,2,3,8,19]) (.seq (.region false [
 ao 22 (.mv (.c (i64 0)))] [0,1,2,3,8,19,22]) (.block 2 (b124l1))))) (.region false [
 ao 57 (.bin .add (.t 19) (.c (i64 1))),
 ao 19 (.mv (.t 57))] [0,1,2,3,19])))
def b124l0:AC:= .loop [0,1,2,3,19] [] d124l0
def b124:AC:=
 .seq (.seq (.region false [
 ao 10 (.mv (.t 3)),
 ao 11 (.mv (.t 0)),
 ao 12 (.mv (.t 1)),
 ao 13 (.mv (.t 2)),
 ao 14 (.nilck (.t 11)),
 ao 15 (.idxa 21 21 (.t 14) (.t 12)),
 ao 16 (.idxa 21 1 (.t 15) (.t 13)),
 ao 17 (.load none (.t 16)),
 ao 18 (.bin .geq (.t 10) (.t 17))] [0,1,2,3,18]) (.cond (.t 18) (.ret) (.skip))) (.seq (.region false [
 ao 19 (.mv (.c (i64 0)))] [0,1,2,3,19]) (.block 0 (b124l0)))
def a124:AFn:=⟨4,[],b124,false⟩
def n124:Ann:=⟨[[0,1,2,3,18],[0,1,2,3,19],[0,1,2,3,19,20],[0,1,2,3,8,19],[0,1,2,3,8,19,22],[0,1,2,3,8,19,22,23],[0,1,2,3,8,9,19,22],[0,1,2,3,8,19,22],[0,1,2,3,8,19,22],[0,1,2,3,19]],[⟨[],[0,1,2,3,19],[]⟩,⟨[],[0,1,2,3,8,19,22],[]⟩],[],[],[],false,[]⟩
def b125:AC:=
 .seq (.region false [
 ao 3 (.box (.t 1))] [0,3]) (.region true (spl [
 ao 4 (.mv (.t 0)),
 ap 5 (.nilck (.t 4)) [0],
 ap 6 (.faddr 4 (.t 5)) [1,0],
 ao 7 (.mv (.t 0)),
 ao 8 (.faddr 0 (.t 3)),
 ap 9 (.load none (.t 8)) [4],
 ao 10 (.faddr 1 (.t 3)),
 ap 11 (.load none (.t 10)) [6],
 ap 12 (.bin .add (.t 11) (.c (i64 1))) [7,6],
 ap 13 (.call 98 [(.t 7),(.t 9),(.t 12)]) [3,5,8,4,7,6],
 ao 14 (.mv (.t 0)),
 ao 15 (.faddr 0 (.t 3)),
 ap 16 (.load none (.t 15)) [11],
 ao 17 (.faddr 1 (.t 3)),
 ap 18 (.load none (.t 17)) [13],
 ap 19 (.call 98 [(.t 14),(.t 16),(.t 18)]) [10,12,14,9,11,13,3,5,8,4,7,6],
 ao 20 (.faddr 2 (.t 3)),
 ap 21 (.load none (.t 20)) [16],
 ao 22 (.faddr 3 (.t 3)),
 ap 23 (.load none (.t 22)) [18],
 ap 24 (.build [(i64 0),(i64 0)] [(0,1,(.t 21)),(1,1,(.t 23))]) [17,19,16,18]] [
 ap 25 (.call 150 [(.t 6),(.t 13),(.t 19),(.t 24)]) [2,20,15,1,0,17,19,16,18,10,12,14,9,11,13,3,5,8,4,7,6]]) [])
def a125:AFn:=⟨2,[],b125,false⟩
def n125:Ann:=⟨[[0,3],[]],[],[],[],[],false,[]⟩
def b126:AC:=
 .seq (.region false [
 ao 2 (.box (.t 0)),
 ao 4 (.mv (.c (.bool false)))] [1,2]) (.seq (.region false [
 ao 5 (.mv (.t 1)),
 ao 6 (.faddr 0 (.t 2)),
 ao 7 (.load none (.t 6)),
 ao 8 (.faddr 1 (.t 2)),
 ao 9 (.load none (.t 8)),
 ao 10 (.lit [(i64 0)] 2 [(0,(.t 7)),(1,(.t 9))]),
 ao 11 (.call 131 [(.t 5),(.t 10)]),
 ao 12 (.mv (.t 11)),
 ag 13 (.faddr 0 (.t 2)) 12 true [],
 ag 14 (.load none (.t 13)) 12 true [],
 ag 15 (.faddr 1 (.t 2)) 12 true [],
 ag 16 (.load none (.t 15)) 12 true [],
 ag 17 (.bin .leq (.t 14) (.t 16)) 12 true [],
 ao 18 (.pick (.t 12) (.t 17) (.c (.bool false))),
 ao 4 (.mv (.t 18))] [4]) (.ret))
def a126:AFn:=⟨2,[.t 4],b126,false⟩
def n126:Ann:=⟨[[1,2],[4]],[],[],[],[],false,[(12,176)]⟩
@[simp] def d127l0:AC:=
 .seq (.region false [
 ao 10 (.bin .lss (.t 9) (.t 8))] [1,7,8,9,10]) (.seq (.cond (.t 10) (.skip) (.exit 0)) (.seq (.block 1 (.seq (.region false [
 ao 11 (.idxs 2 (.t 7) (.t 9)),
 ao 12 (.load (some 2) (.t 11)),
 ao 6 (.alloc [(i64 0),(i64 0)]),
 ⟨none, .store 2 (.t 6) (.t 12),none,[],[]⟩] [1,6,7,8,9]) (.seq (.region false [
 ao 13 (.mv (.t 1)),
 ao 14 (.load (some 2) (.t 6)),
 ao 15 (.callv (.t 13) [(.t 14)]),
 ao 16 (.un .not (.t 15))] [1,7,8,9,16]) (.cond (.t 16) (.seq (.region false [
 ao 4 (.mv (.c (.bool false)))] [4]) (.ret)) (.skip))))) (.region false [
 ao 17 (.bin .add (.t 9) (.c (i64 1))),
 ao 9 (.mv (.t 17))] [1,7,8,9])))
def b127l0:AC:= .loop [1,7,8,9] [] d127l0
def b127:AC:=
 .seq (.region false [
 ao 4 (.mv (.c (.bool false)))] [0,1]) (.seq (.seq (.region false [
 ao 7 (.mv (.t 0)),
 ao 8 (.len (.t 7)),
 ao 9 (.mv (.c (i64 0)))] [1,7,8,9]) (.block 0 (b127l0))) (.seq (.region false [
 ao 4 (.mv (.c (.bool true)))] [4]) (.ret)))
def a127:AFn:=⟨2,[.t 4],b127,false⟩
def n127:Ann:=⟨[[0,1],[1,7,8,9],[1,7,8,9,10],[1,6,7,8,9],[1,7,8,9,16],[4],[1,7,8,9],[4]],[⟨[],[1,7,8,9],[]⟩],[],[],[],false,[]⟩
def b128:AC:=
 .seq (.region false [
 ao 1 (.box (.t 0)),
 ao 2 (.mv (.c (.bool false)))] [1]) (.seq (.region false [
 ao 3 (.load (some 2) (.t 1)),
 ao 4 (.call 126 [(.t 3),(.c (i64 9))]),
 ao 2 (.mv (.t 4))] [2]) (.ret))
def a128:AFn:=⟨1,[.t 2],b128,false⟩
def n128:Ann:=⟨[[1],[2]],[],[],[],[],false,[(2,64)]⟩
@[simp] def d129l0:AC:=
 .seq (.region false [
 ao 10 (.bin .lss (.t 9) (.t 8))] [1,7,8,9,10]) (.seq (.cond (.t 10) (.skip) (.exit 0)) (.seq (.block 1 (.seq (.region false [
 ao 11 (.idxs 2 (.t 7) (.t 9)),
 ao 12 (.load (some 2) (.t 11)),
 ao 6 (.alloc [(i64 0),(i64 0)]),
 ⟨none, .store 2 (.t 6) (.t 12),none,[],[]⟩] [1,6,7,8,9]) (.seq (.region false [
 ao 13 (.mv (.t 1)),
 ao 14 (.load (some 2) (.t 6)),
 ao 15 (.callv (.t 13) [(.t 14)]),
 ao 16 (.un .not (.t 15))] [1,7,8,9,16]) (.cond (.t 16) (.seq (.region false [
 ao 4 (.mv (.c (.bool false)))] [4]) (.ret)) (.skip))))) (.region false [
 ao 17 (.bin .add (.t 9) (.c (i64 1))),
 ao 9 (.mv (.t 17))] [1,7,8,9])))
def b129l0:AC:= .loop [1,7,8,9] [] d129l0
def b129:AC:=
 .seq (.region false [
 ao 4 (.mv (.c (.bool false)))] [0,1]) (.seq (.seq (.region false [
 ao 7 (.mv (.t 0)),
 ao 8 (.len (.t 7)),
 ao 9 (.mv (.c (i64 0)))] [1,7,8,9]) (.block 0 (b129l0))) (.seq (.region false [
 ao 4 (.mv (.c (.bool true)))] [4]) (.ret)))
def a129:AFn:=⟨2,[.t 4],b129,false⟩
def n129:Ann:=⟨[[0,1],[1,7,8,9],[1,7,8,9,10],[1,6,7,8,9],[1,7,8,9,16],[4],[1,7,8,9],[4]],[⟨[],[1,7,8,9],[]⟩],[],[],[],false,[]⟩
def b130:AC:=
 .seq (.region false [
 ao 2 (.box (.t 0)),
 ao 3 (.mv (.c (.bool false)))] [1,2]) (.seq (.region false [
 ao 4 (.faddr 0 (.t 2)),
 ao 5 (.load none (.t 4)),
 ao 6 (.lit [(i64 0)] 1 [(0,(.t 5))]),
 ao 7 (.call 131 [(.c (i64 20)),(.t 6)]),
 ao 8 (.mv (.t 7)),
 ag 9 (.faddr 4 (.t 1)) 8 true [],
 ag 10 (.load none (.t 9)) 8 true [],
 ag 11 (.len (.t 10)) 8 true [],
 ag 12 (.bin .sub (.t 11) (.c (i64 1))) 8 true [],
 ag 13 (.faddr 1 (.t 2)) 8 true [],
 ag 14 (.load none (.t 13)) 8 true [],
 ag 15 (.lit [(i64 0)] 1 [(0,(.t 14))]) 8 true [],
 ag 16 (.call 131 [(.t 12),(.t 15)]) 8 true [],
 ao 17 (.pick (.t 8) (.t 16) (.c (.bool false))),
 ao 3 (.mv (.t 17))] [3]) (.ret))
def a130:AFn:=⟨2,[.t 3],b130,false⟩
def n130:Ann:=⟨[[1,2],[3]],[],[],[],[],false,[(8,112)]⟩
def b131:AC:=
 .seq (.region false [
 ao 2 (.box (.t 0)),
 ao 4 (.mv (.c (.bool false)))] [1,2]) (.seq (.region false [
 ao 5 (.mv (.t 1)),
 ao 6 (.mkfn 152 [] [(.t 2)]),
 ao 7 (.call 151 [(.t 5),(.t 6)]),
 ao 8 (.un .not (.t 7)),
 ao 4 (.mv (.t 8))] [4]) (.ret))
def a131:AFn:=⟨2,[.t 4],b131,false⟩
def n131:Ann:=⟨[[1,2],[4]],[],[],[],[],false,[]⟩
@[simp] def d132l0:AC:=
 .seq (.region false [
 ao 10 (.bin .lss (.t 9) (.t 8))] [1,7,8,9,10]) (.seq (.cond (.t 10) (.skip) (.exit 0)) (.seq (.block 1 (.seq (.region false [
 ao 11 (.idxs 5 (.t 7) (.t 9)),
 ao 12 (.load (some 5) (.t 11)),
 ao 6 (.alloc [(i64 0),(i64 0),(i64 0),(i64 0),(i64 0)]),
 ⟨none, .store 5 (.t 6) (.t 12),none,[],[]⟩] [1,6,7,8,9]) (.seq (.region false [
 ao 13 (.mv (.t 1)),
 ao 14 (.load (some 5) (.t 6)),
 ao 15 (.callv (.t 13) [(.t 14)]),
 ao 16 (.un .not (.t 15))] [1,7,8,9,16]) (.cond (.t 16) (.seq (.region false [
 ao 4 (.mv (.c (.bool false)))] [4]) (.ret)) (.skip))))) (.region false [
 ao 17 (.bin .add (.t 9) (.c (i64 1))),
 ao 9 (.mv (.t 17))] [1,7,8,9])))
def b132l0:AC:= .loop [1,7,8,9] [] d132l0
def b132:AC:=
 .seq (.region false [
 ao 4 (.mv (.c (.bool false)))] [0,1]) (.seq (.seq (.region false [
 ao 7 (.mv (.t 0)),
 ao 8 (.len (.t 7)),
 ao 9 (.mv (.c (i64 0)))] [1,7,8,9]) (.block 0 (b132l0))) (.seq (.region false [
 ao 4 (.mv (.c (.bool true)))] [4]) (.ret)))
def a132:AFn:=⟨2,[.t 4],b132,false⟩
def n132:Ann:=⟨[[0,1],[1,7,8,9],[1,7,8,9,10],[1,6,7,8,9],[1,7,8,9,16],[4],[1,7,8,9],[4]],[⟨[],[1,7,8,9],[]⟩],[],[],[],false,[]⟩
def b133:AC:=
 .seq (.region false [
 ao 1 (.box (.t 0)),
 ao 2 (.mv (.c (.bool false)))] [1]) (.seq (.region false [
 ao 3 (.faddr 0 (.t 1)),
 ao 4 (.load none (.t 3)),
 ao 5 (.faddr 1 (.t 1)),
 ao 6 (.load none (.t 5)),
 ao 7 (.faddr 2 (.t 1)),
 ao 8 (.load none (.t 7)),
 ao 9 (.lit [(i64 0)] 3 [(0,(.t 4)),(1,(.t 6)),(2,(.t 8))]),
 ao 10 (.call 131 [(.c (i64 9)),(.t 9)]),
 ao 11 (.mv (.t 10)),
 ag 12 (.faddr 3 (.t 1)) 11 true [],
 ag 13 (.load none (.t 12)) 11 true [],
 ag 14 (.faddr 4 (.t 1)) 11 true [],
 ag 15 (.load none (.t 14)) 11 true [],
 ag 16 (.lit [(i64 0)] 2 [(0,(.t 13)),(1,(.t 15))]) 11 true [],
 ag 17 (.call 131 [(.c (i64 99)),(.t 16)]) 11 true [],
 ao 18 (.pick (.t 11) (.t 17) (.c (.bool false))),
 ao 2 (.mv (.t 18))] [2]) (.ret))
def a133:AFn:=⟨1,[.t 2],b133,false⟩
def n133:Ann:=⟨[[1],[2]],[],[],[],[],false,[(11,160)]⟩
def b134:AC:=
 .seq (.region false [
 ao 4 (.mv (.c (.bool false)))] [0,1]) (.seq (.region false [
 ao 5 (.mv (.t 0)),
 ao 6 (.mv (.t 1)),
 ao 7 (.bin .shr (.t 5) (.t 6)),
 ao 8 (.bin .and (.t 7) (.c (.int .u64 1))),
 ao 9 (.bin .eql (.t 8) (.c (.int .u64 1))),
 ao 4 (.mv (.t 9))] [4]) (.ret))
def a134:AFn:=⟨2,[.t 4],b134,false⟩
def n134:Ann:=⟨[[0,1],[4]],[],[],[],[],false,[]⟩
def b135:AC:=
 .seq (.region false [
 ao 3 (.box (.t 0)),
 ao 6 (.mv (.c (i64 0)))] [1,2,3]) (.seq (.region false [
 ao 8 (.faddr 0 (.t 3)),
 ao 9 (.faddr 5 (.t 8)),
 ao 10 (.load none (.t 9)),
 ao 11 (.mv (.t 1)),
 ao 12 (.idxs 2 (.t 10) (.t 11)),
 ao 13 (.load (some 2) (.t 12)),
 ao 7 (.alloc [(i64 0),(i64 0)]),
 ⟨none, .store 2 (.t 7) (.t 13),none,[],[]⟩] [1,2,3,7]) (.seq (.region true (spl [
 ao 14 (.faddr 0 (.t 7)),
 ap 15 (.load none (.t 14)) [0],
 ap 16 (.bin .mul (.c (i64 2)) (.t 15)) [1,0],
 ao 17 (.faddr 7 (.t 3)),
 ap 18 (.faddr 2 (.t 17)) [3],
 ap 19 (.load none (.t 18)) [4,3],
 ao 20 (.faddr 1 (.t 7)),
 ap 21 (.load none (.t 20)) [6],
 ap 22 (.idxs 1 (.t 19) (.t 21)) [5,7,4,3,6],
 ap 23 (.load none (.t 22)) [8,5,7,4,3,6],
 ap 24 (.bin .mul (.t 16) (.t 23)) [2,9,1,0,8,5,7,4,3,6],
 ao 25 (.load (some 10) (.t 3)),
 ao 26 (.mv (.t 1)),
 ao 27 (.mv (.t 2)),
 ap 28 (.call 153 [(.t 25),(.t 26),(.t 27)]) [11,12,13]] [
 ap 29 (.bin .sub (.t 24) (.t 28)) [10,14,2,9,1,0,8,5,7,4,3,6,11,12,13],
 ap 6 (.mv (.t 29)) [15,10,14,2,9,1,0,8,5,7,4,3,6,11,12,13]]) [6]) (.ret)))
def a135:AFn:=⟨3,[.t 6],b135,false⟩
def n135:Ann:=⟨[[1,2,3],[1,2,3,7],[6]],[],[],[],[],false,[]⟩
def b136:AC:=
 .seq (.region false [
 ao 4 (.mv (.c (.int .u64 0)))] [0,1]) (.seq (.region false [
 ao 5 (.mv (.t 0)),
 ao 6 (.mv (.t 1)),
 ao 7 (.bin .shl (.c (.int .u64 1)) (.t 6)),
 ao 8 (.bin .or (.t 5) (.t 7)),
 ao 4 (.mv (.t 8))] [4]) (.ret))
def a136:AFn:=⟨2,[.t 4],b136,false⟩
def n136:Ann:=⟨[[0,1],[4]],[],[],[],[],false,[]⟩
@[simp] def d137l0:AC:=
 .seq (.region false [
 ao 9 (.bin .lss (.t 8) (.t 7))] [0,1,7,8,9]) (.seq (.cond (.t 9) (.skip) (.exit 0)) (.seq (.block 1 (.seq (.region false [
 ao 10 (.mv (.t 8)),
 ao 5 (.mv (.t 10))] [0,1,5,7,8]) (.seq (.region false [
 ao 11 (.mv (.t 1)),
 ao 12 (.mv (.t 0)),
 ao 13 (.mv (.t 5)),
 ao 14 (.idxs 1 (.t 12) (.t 13)),
 ao 15 (.load none (.t 14)),
 ao 16 (.bin .eql (.t 11) (.t 15))] [0,1,5,7,8,16]) (.cond (.t 16) (.seq (.region false [
 ao 17 (.mv (.t 5)),
 ao 4 (.mv (.t 17))] [4]) (.ret)) (.skip))))) (.region false [
 ao 18 (.bin .add (.t 8) (.c (i64 1))),
 ao 8 (.mv (.t 18))] [0,1,7,8])))
def b137l0:AC:= .loop [0,1,7,8] [] d137l0
def b137:AC:=
 .seq (.region false [
 ao 4 (.mv (.c (i64 0)))] [0,1]) (.seq (.seq (.region false [
 ao 6 (.mv (.t 0)),
 ao 7 (.len (.t 6)),
 ao 8 (.mv (.c (i64 0)))] [0,1,7,8]) (.block 0 (b137l0))) (.seq (.region false [
 ao 4 (.mv (.c (i64 (-1))))] [4]) (.ret)))
def a137:AFn:=⟨2,[.t 4],b137,false⟩
def n137:Ann:=⟨[[0,1],[0,1,7,8],[0,1,7,8,9],[0,1,5,7,8],[0,1,5,7,8,16],[4],[0,1,7,8],[4]],[⟨[],[0,1,7,8],[]⟩],[],[],[],false,[]⟩
def b147:AC:=
 .seq (.region false [
 ao 4 (.mv (.c (.bool false)))] [0,1]) (.seq (.region false [
 ao 5 (.mv (.t 0)),
 ao 6 (.mv (.t 1)),
 ao 7 (.call 165 [(.t 5),(.t 6)]),
 ao 8 (.bin .geq (.t 7) (.c (i64 0))),
 ao 4 (.mv (.t 8))] [4]) (.ret))
def a147:AFn:=⟨2,[.t 4],b147,false⟩
def n147:Ann:=⟨[[0,1],[4]],[],[],[],[],false,[]⟩
def b148:AC:=
 .seq (.region false [
 ao 2 (.box (.t 0)),
 ao 3 (.mv (.c (.bool false)))] [1,2]) (.seq (.region false [
 ao 4 (.load (some 4) (.t 1)),
 ao 5 (.load (some 4) (.t 2)),
 ao 6 (.call 149 [(.t 4),(.t 5)]),
 ao 7 (.un .not (.t 6)),
 ao 3 (.mv (.t 7))] [3]) (.ret))
def a148:AFn:=⟨2,[.t 3],b148,false⟩
def n148:Ann:=⟨[[1,2],[3]],[],[],[],[],false,[]⟩
def b149:AC:=
 .seq (.region false [
 ao 2 (.box (.t 0)),
 ao 3 (.box (.t 1)),
 ao 4 (.mv (.c (.bool false)))] [2,3]) (.seq (.region false [
 ao 5 (.load (some 4) (.t 2)),
 ao 6 (.faddr 0 (.t 3)),
 ao 7 (.load none (.t 6)),
 ao 8 (.faddr 1 (.t 3)),
 ao 9 (.load none (.t 8)),
 ao 10 (.call 81 [(.t 5),(.t 7),(.t 9)]),
 ao 11 (.mv (.t 10)),
 ag 12 (.faddr 2 (.t 3)) 11 true [],
 ag 13 (.load none (.t 12)) 11 true [],
 ag 14 (.faddr 3 (.t 3)) 11 true [],
 ag 15 (.load none (.t 14)) 11 true [],
 ag 16 (.call 96 [(.t 13),(.c (i64 0)),(.t 15)]) 11 true [],
 ao 17 (.pick (.t 11) (.t 16) (.c (.bool false))),
 ao 18 (.mv (.t 17)),
 ag 19 (.faddr 3 (.t 3)) 18 true [],
 ag 20 (.load none (.t 19)) 18 true [],
 ag 21 (.bin .leq (.t 20) (.c (i64 40))) 18 true [],
 ao 22 (.pick (.t 18) (.t 21) (.c (.bool false))),
 ao 4 (.mv (.t 22))] [4]) (.ret))
def a149:AFn:=⟨2,[.t 4],b149,false⟩
def n149:Ann:=⟨[[2,3],[4]],[],[],[],[],false,[(11,160)]⟩
def b150:AC:=
 .seq (.region false [
 ao 7 (.box (.t 3))] [0,1,2,7]) (.seq (.region false [
 ao 8 (.mv (.t 0)),
 ao 9 (.mv (.t 1)),
 ao 10 (.mv (.t 2)),
 ao 11 (.faddr 1 (.t 7)),
 ao 12 (.load none (.t 11)),
 ao 13 (.call 124 [(.t 8),(.t 9),(.t 10),(.t 12)])] [0,1,2,7]) (.region false [
 ao 14 (.mv (.t 0)),
 ao 15 (.mv (.t 2)),
 ao 16 (.mv (.t 1)),
 ao 17 (.faddr 0 (.t 7)),
 ao 18 (.load none (.t 17)),
 ao 19 (.un .neg (.t 18)),
 ao 20 (.call 124 [(.t 14),(.t 15),(.t 16),(.t 19)])] []))
def a150:AFn:=⟨4,[],b150,false⟩
def n150:Ann:=⟨[[0,1,2,7],[0,1,2,7],[]],[],[],[],[],false,[]⟩
def b151:AC:=
 .seq (.region false [
 ao 4 (.mv (.c (.bool false)))] [0,1]) (.seq (.region false [
 ao 5 (.mv (.t 0)),
 ao 6 (.mv (.t 1)),
 ao 7 (.call 166 [(.t 5),(.t 6)]),
 ao 8 (.bin .geq (.t 7) (.c (i64 0))),
 ao 4 (.mv (.t 8))] [4]) (.ret))
def a151:AFn:=⟨2,[.t 4],b151,false⟩
def n151:Ann:=⟨[[0,1],[4]],[],[],[],[],false,[]⟩
def b152:AC:=
 .seq (.region false [
 ao 3 (.mv (.c (.bool false)))] [0,1]) (.seq (.region false [
 ao 4 (.mv (.t 0)),
 ao 5 (.bin .lss (.t 4) (.c (i64 0))),
 ao 6 (.mv (.t 5)),
 ag 7 (.mv (.t 0)) 6 false [],
 ag 8 (.load none (.t 1)) 6 false [],
 ag 9 (.bin .gtr (.t 7) (.t 8)) 6 false [],
 ao 10 (.pick (.t 6) (.c (.bool true)) (.t 9)),
 ao 3 (.mv (.t 10))] [3]) (.ret))
def a152:AFn:=⟨2,[.t 3],b152,false⟩
def n152:Ann:=⟨[[0,1],[3]],[],[],[],[],false,[]⟩
def b153:AC:=
 .seq (.region false [
 ao 3 (.box (.t 0)),
 ao 5 (.box (.t 2)),
 ao 6 (.mv (.c (i64 0)))] [1,3,5]) (.seq (.region false [
 ao 7 (.alloc [(i64 0)]),
 ⟨none, .store 1 (.t 7) (.c (i64 0)),none,[],[]⟩] [1,3,5,7]) (.seq (.region false [
 ao 9 (.mkfn 167 [] [(.t 3),(.t 5),(.t 7)]),
 ao 8 (.mv (.t 9))] [1,7,8]) (.seq (.region false [
 ao 10 (.mv (.t 8)),
 ao 11 (.mv (.t 1)),
 ao 12 (.bin .sub (.t 11) (.c (i64 1))),
 ao 13 (.mv (.t 1)),
 ao 14 (.bin .sub (.t 13) (.c (i64 1))),
 ao 15 (.callv (.t 10) [(.t 12),(.t 14)])] [1,7,8]) (.seq (.region false [
 ao 16 (.mv (.t 8)),
 ao 17 (.mv (.t 1)),
 ao 18 (.mv (.t 1)),
 ao 19 (.bin .add (.t 18) (.c (i64 1))),
 ao 20 (.callv (.t 16) [(.t 17),(.t 19)])] [7]) (.seq (.region false [
 ao 21 (.load none (.t 7)),
 ao 6 (.mv (.t 21))] [6]) (.ret))))))
def a153:AFn:=⟨3,[.t 6],b153,false⟩
def n153:Ann:=⟨[[1,3,5],[1,3,5,7],[1,7,8],[1,7,8],[7],[6]],[],[],[],[],false,[]⟩
@[simp] def d165l0:AC:=
 .seq (.region false [
 ao 9 (.bin .lss (.t 8) (.t 7))] [0,1,7,8,9]) (.seq (.cond (.t 9) (.skip) (.exit 0)) (.seq (.block 1 (.seq (.region false [
 ao 10 (.mv (.t 8)),
 ao 5 (.mv (.t 10))] [0,1,5,7,8]) (.seq (.region false [
 ao 11 (.mv (.t 1)),
 ao 12 (.mv (.t 0)),
 ao 13 (.mv (.t 5)),
 ao 14 (.idxs 4 (.t 12) (.t 13)),
 ao 15 (.load (some 4) (.t 14)),
 ao 16 (.callv (.t 11) [(.t 15)])] [0,1,5,7,8,16]) (.cond (.t 16) (.seq (.region false [
 ao 17 (.mv (.t 5)),
 ao 4 (.mv (.t 17))] [4]) (.ret)) (.skip))))) (.region false [
 ao 18 (.bin .add (.t 8) (.c (i64 1))),
 ao 8 (.mv (.t 18))] [0,1,7,8])))
def b165l0:AC:= .loop [0,1,7,8] [] d165l0
def b165:AC:=
 .seq (.region false [
 ao 4 (.mv (.c (i64 0)))] [0,1]) (.seq (.seq (.region false [
 ao 6 (.mv (.t 0)),
 ao 7 (.len (.t 6)),
 ao 8 (.mv (.c (i64 0)))] [0,1,7,8]) (.block 0 (b165l0))) (.seq (.region false [
 ao 4 (.mv (.c (i64 (-1))))] [4]) (.ret)))
def a165:AFn:=⟨2,[.t 4],b165,false⟩
def n165:Ann:=⟨[[0,1],[0,1,7,8],[0,1,7,8,9],[0,1,5,7,8],[0,1,5,7,8,16],[4],[0,1,7,8],[4]],[⟨[],[0,1,7,8],[]⟩],[],[],[],false,[]⟩
@[simp] def d166l0:AC:=
 .seq (.region false [
 ao 9 (.bin .lss (.t 8) (.t 7))] [0,1,7,8,9]) (.seq (.cond (.t 9) (.skip) (.exit 0)) (.seq (.block 1 (.seq (.region false [
 ao 10 (.mv (.t 8)),
 ao 5 (.mv (.t 10))] [0,1,5,7,8]) (.seq (.region false [
 ao 11 (.mv (.t 1)),
 ao 12 (.mv (.t 0)),
 ao 13 (.mv (.t 5)),
 ao 14 (.idxs 1 (.t 12) (.t 13)),
 ao 15 (.load none (.t 14)),
 ao 16 (.callv (.t 11) [(.t 15)])] [0,1,5,7,8,16]) (.cond (.t 16) (.seq (.region false [
 ao 17 (.mv (.t 5)),
 ao 4 (.mv (.t 17))] [4]) (.ret)) (.skip))))) (.region false [
 ao 18 (.bin .add (.t 8) (.c (i64 1))),
 ao 8 (.mv (.t 18))] [0,1,7,8])))
def b166l0:AC:= .loop [0,1,7,8] [] d166l0
def b166:AC:=
 .seq (.region false [
 ao 4 (.mv (.c (i64 0)))] [0,1]) (.seq (.seq (.region false [
 ao 6 (.mv (.t 0)),
 ao 7 (.len (.t 6)),
 ao 8 (.mv (.c (i64 0)))] [0,1,7,8]) (.block 0 (b166l0))) (.seq (.region false [
 ao 4 (.mv (.c (i64 (-1))))] [4]) (.ret)))
def a166:AFn:=⟨2,[.t 4],b166,false⟩
def n166:Ann:=⟨[[0,1],[0,1,7,8],[0,1,7,8,9],[0,1,5,7,8],[0,1,5,7,8,16],[4],[0,1,7,8],[4]],[⟨[],[0,1,7,8],[]⟩],[],[],[],false,[]⟩
def b167:AC:=
 .seq (.seq (.region false [
 ao 8 (.mv (.t 0)),
 ao 9 (.bin .lss (.t 8) (.c (i64 0))),
 ao 10 (.mv (.t 9)),
 ag 11 (.mv (.t 0)) 10 false [],
 ag 12 (.faddr 0 (.t 2)) 10 false [],
 ag 13 (.faddr 6 (.t 12)) 10 false [],
 ag 14 (.load none (.t 13)) 10 false [],
 ag 15 (.len (.t 14)) 10 false [],
 ag 16 (.bin .geq (.t 11) (.t 15)) 10 false [],
 ao 17 (.pick (.t 10) (.c (.bool true)) (.t 16))] [0,1,2,3,4,17]) (.cond (.t 17) (.ret) (.skip))) (.seq (.region true (spl [
 ao 18 (.faddr 0 (.t 2)),
 ap 19 (.faddr 6 (.t 18)) [0],
 ap 20 (.load none (.t 19)) [1,0],
 ao 21 (.mv (.t 0)),
 ap 22 (.idxs 5 (.t 20) (.t 21)) [2,3,1,0],
 ap 23 (.load (some 5) (.t 22)) [4,2,3,1,0],
 ao 24 (.faddr 7 (.t 2)),
 ap 25 (.faddr 0 (.t 24)) [6],
 ap 26 (.load none (.t 25)) [7,6],
 ao 27 (.faddr 7 (.t 2)),
 ap 28 (.faddr 1 (.t 27)) [9],
 ap 29 (.load none (.t 28)) [10,9]] [
 ap 30 (.call 168 [(.t 23),(.t 26),(.t 29)]) [5,8,11,4,2,3,1,0,7,6,10,9],
 ap 7 (.mv (.t 30)) [12,5,8,11,4,2,3,1,0,7,6,10,9]]) [1,3,4,7]) (.seq (.seq (.region false [
 ao 31 (.load none (.t 3)),
 ao 32 (.mv (.t 1)),
 ao 33 (.call 134 [(.t 31),(.t 32)])] [4,7,33]) (.cond (.t 33) (.region false [
 ao 34 (.mv (.t 7)),
 ao 35 (.bin .mul (.t 34) (.c (i64 2))),
 ao 7 (.mv (.t 35))] [4,7]) (.skip))) (.region false [
 ao 36 (.load none (.t 4)),
 ao 37 (.mv (.t 7)),
 ao 38 (.bin .add (.t 36) (.t 37)),
 ⟨none, .store 1 (.t 4) (.t 38),none,[],[]⟩] [])))
def a167:AFn:=⟨5,[],b167,false⟩
def n167:Ann:=⟨[[0,1,2,3,4,17],[1,3,4,7],[4,7,33],[4,7],[]],[],[],[],[],false,[(37,480),(34,480),(7,480)]⟩
def b168:AC:=
 .seq (.region false [
 ao 3 (.box (.t 0)),
 ao 6 (.mv (.c (i64 0)))] [1,2,3]) (.seq (.region false [
 ao 7 (.faddr 0 (.t 3)),
 ao 8 (.load none (.t 7)),
 ao 9 (.mv (.t 1)),
 ao 10 (.bin .mul (.t 8) (.t 9)),
 ao 11 (.faddr 1 (.t 3)),
 ao 12 (.load none (.t 11)),
 ao 13 (.mv (.t 2)),
 ao 14 (.bin .mul (.t 12) (.t 13)),
 ao 15 (.bin .add (.t 10) (.t 14)),
 ao 6 (.mv (.t 15))] [6]) (.ret))
def a168:AFn:=⟨3,[.t 6],b168,false⟩
def n168:Ann:=⟨[[1,2,3],[6]],[],[],[],[],false,[]⟩
end Go.Proofs.YtoedpegjoccnlaaGreat
