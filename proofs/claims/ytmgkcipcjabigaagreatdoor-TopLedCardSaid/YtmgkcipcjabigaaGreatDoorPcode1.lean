/-
  MADE BY PROGRAM (mkt.py, out of what Gen.lean prints): the functions' code for the evaluator.
-/
import Derived.Test.YtmgkcipcjabigaaGreatDoorAb7
set_option linter.unusedSimpArgs false
set_option linter.unusedVariables false
namespace Go.Proofs.YtmgkcipcjabigaaGreatDoor
open Go.Ab
@[simp] def d3l0:AC:=
 .seq (.seq (.region false [
 ao 34 (.mv (.t 6)),
 ao 35 (.faddr 1 (.t 5)),
 ao 36 (.load none (.t 35)),
 ao 37 (.len (.t 36)),
 ao 38 (.bin .lss (.t 34) (.t 37))] [1,2,5,6,38]) (.cond (.t 38) (.skip) (.exit 0))) (.seq (.block 1 (.region false [
 ao 41 (.load (some 6) (.t 5)),
 ao 42 (.mv (.t 6)),
 ao 43 (.call 9 [(.t 41),(.t 42)]),
 ⟨none, .store 6 (.t 5) (.t 43),none,[],[]⟩] [1,2,5,6])) (.region false [
 ao 39 (.mv (.t 6)),
 ao 40 (.bin .add (.t 39) (.c (i64 1))),
 ao 6 (.mv (.t 40))] [1,2,5,6]))
def b3l0:AC:= .loop [1,2,5,6] [32,80] d3l0
def b3:AC:=
 .seq (.region false [
 ao 2 (.box (.t 0)),
 ao 4 (.mv (.c (.bool false)))] [1,2]) (.seq (.seq (.region false [
 ao 16 (.load (some 6) (.t 2)),
 ao 17 (.call 4 [(.t 16)]),
 ao 18 (.mv (.t 17)),
 ag 19 (.load (some 6) (.t 2)) 18 false [],
 ag 20 (.call 5 [(.t 19)]) 18 false [],
 ag 21 (.bin .neq (.t 20) (.c (i64 0))) 18 false [],
 ao 22 (.pick (.t 18) (.c (.bool true)) (.t 21)),
 ao 23 (.mv (.t 22)),
 ag 24 (.load (some 6) (.t 2)) 23 false [],
 ag 25 (.mv (.t 1)) 23 false [],
 ag 26 (.call 6 [(.t 24),(.t 25)]) 23 false [],
 ag 27 (.un .not (.t 26)) 23 false [],
 ao 28 (.pick (.t 23) (.c (.bool true)) (.t 27))] [1,2,28]) (.cond (.t 28) (.seq (.region false [
 ao 29 (.call 7 []),
 ao 4 (.mv (.t 29))] [4]) (.ret)) (.skip))) (.seq (.region false [
 ao 30 (.load (some 6) (.t 2)),
 ao 31 (.call 8 [(.t 30)]),
 ao 5 (.alloc [(i64 0),(.sl .full 3 []),(.sl .full 1 []),(i64 0),(i64 0),(.sl .full 1 [])]),
 ⟨none, .store 6 (.t 5) (.t 31),none,[],[]⟩] [1,2,5]) (.seq (.seq (.freeze [496,1496,2496,3496,4496,5496,6496,7496,8496]) (.region false [
 ao 32 (.faddr 3 (.t 5)),
 ⟨none, .store 1 (.t 32) (.c (i64 0)),none,[],[]⟩,
 ao 33 (.faddr 4 (.t 5)),
 ⟨none, .store 1 (.t 33) (.c (i64 1)),none,[],[]⟩] [1,2,5])) (.seq (.seq (.region false [
 ao 6 (.mv (.c (i64 0)))] [1,2,5,6]) (.block 0 (b3l0))) (.seq (.region false [
 ao 44 (.load (some 6) (.t 2)),
 ao 45 (.mv (.t 1)),
 ao 46 (.call 10 [(.t 44),(.t 45),(.c (i64 0))]),
 ao 7 (.alloc [(i64 0),(i64 0),(i64 0),(.sl .full 3 []),(.sl .full 2 [])]),
 ⟨none, .store 5 (.t 7) (.t 46),none,[],[]⟩] [1,2,5,7]) (.seq (.seq (.region false [
 ao 47 (.load (some 5) (.t 7)),
 ao 48 (.call 11 [(.t 47)]),
 ao 49 (.bin .neq (.t 48) (.c (i64 0)))] [1,2,5,7,49]) (.cond (.t 49) (.seq (.region false [
 ao 50 (.call 7 []),
 ao 4 (.mv (.t 50))] [4]) (.ret)) (.skip))) (.seq (.region false [
 ao 52 (.load (some 6) (.t 5)),
 ao 53 (.mv (.t 1)),
 ao 54 (.call 12 [(.t 52),(.t 53)]),
 ao 51 (.mv (.t 54)),
 ao 55 (.ext (.t 51) 0),
 ao 56 (.ext (.t 51) 1),
 ao 8 (.mv (.t 55)),
 ao 9 (.mv (.t 56))] [1,2,7,8,9]) (.seq (.region false [
 ao 58 (.load (some 5) (.t 7)),
 ao 59 (.call 13 [(.t 58),(.c (i64 1))]),
 ao 57 (.mv (.t 59)),
 ao 60 (.ext (.t 57) 0),
 ao 61 (.ext (.t 57) 1),
 ao 10 (.mv (.t 60)),
 ao 11 (.mv (.t 61))] [1,2,8,9,10,11]) (.seq (.seq (.region false [
 ao 62 (.mv (.t 9)),
 ao 63 (.bin .neq (.t 62) (.c (i64 0))),
 ao 64 (.mv (.t 63)),
 ag 65 (.mv (.t 9)) 64 true [],
 ag 66 (.bin .neq (.t 65) (.c (i64 3))) 64 true [],
 ao 67 (.pick (.t 64) (.t 66) (.c (.bool false))),
 ao 68 (.mv (.t 67)),
 ag 69 (.mv (.t 11)) 68 false [],
 ag 70 (.bin .neq (.t 69) (.c (i64 0))) 68 false [],
 ag 71 (.mv (.t 70)) 68 false [],
 ag 72 (.mv (.t 11)) 71 true [],
 ag 73 (.bin .neq (.t 72) (.c (i64 3))) 71 true [],
 ag 74 (.pick (.t 71) (.t 73) (.c (.bool false))) 68 false [],
 ao 75 (.pick (.t 68) (.c (.bool true)) (.t 74))] [1,2,8,9,10,11,75]) (.cond (.t 75) (.seq (.region false [
 ao 4 (.mv (.c (.bool false)))] [4]) (.ret)) (.skip))) (.seq (.seq (.region false [
 ao 76 (.mv (.t 9)),
 ao 77 (.bin .neq (.t 76) (.c (i64 0))),
 ao 78 (.mv (.t 77)),
 ag 79 (.mv (.t 8)) 78 false [],
 ag 80 (.bin .gtr (.t 79) (.c (i64 4))) 78 false [],
 ao 81 (.pick (.t 78) (.c (.bool true)) (.t 80))] [1,2,8,10,11,81]) (.cond (.t 81) (.seq (.region false [
 ao 82 (.mv (.t 11)),
 ao 83 (.bin .eql (.t 82) (.c (i64 3))),
 ao 84 (.mv (.t 83)),
 ag 85 (.call 7 []) 84 true [],
 ao 86 (.pick (.t 84) (.t 85) (.c (.bool false))),
 ao 4 (.mv (.t 86))] [4]) (.ret)) (.skip))) (.seq (.seq (.region false [
 ao 87 (.mv (.t 11)),
 ao 88 (.bin .neq (.t 87) (.c (i64 0))),
 ao 89 (.mv (.t 88)),
 ag 90 (.mv (.t 10)) 89 false [],
 ag 91 (.mv (.t 8)) 89 false [],
 ag 92 (.bin .neq (.t 90) (.t 91)) 89 false [],
 ao 93 (.pick (.t 89) (.c (.bool true)) (.t 92)),
 ao 94 (.mv (.t 93)),
 ag 95 (.mv (.t 8)) 94 false [],
 ag 96 (.bin .lss (.t 95) (.c (i64 1))) 94 false [],
 ao 97 (.pick (.t 94) (.c (.bool true)) (.t 96))] [1,2,8,97]) (.cond (.t 97) (.seq (.region false [
 ao 4 (.mv (.c (.bool false)))] [4]) (.ret)) (.skip))) (.seq (.region false [
 ao 99 (.load (some 6) (.t 2)),
 ao 100 (.mv (.t 1)),
 ao 101 (.mv (.t 8)),
 ao 102 (.call 10 [(.t 99),(.t 100),(.t 101)]),
 ao 103 (.call 14 [(.t 102),(.c (i64 0))]),
 ao 98 (.mv (.t 103)),
 ao 104 (.ext (.t 98) 0),
 ao 105 (.ext (.t 98) 1),
 ao 12 (.mv (.t 104)),
 ao 13 (.mv (.t 105))] [1,2,8,12,13]) (.seq (.region false [
 ao 107 (.load (some 6) (.t 2)),
 ao 108 (.mv (.t 1)),
 ao 109 (.mv (.t 8)),
 ao 110 (.bin .sub (.t 109) (.c (i64 1))),
 ao 111 (.call 10 [(.t 107),(.t 108),(.t 110)]),
 ao 112 (.call 15 [(.t 111)]),
 ao 106 (.mv (.t 112)),
 ao 113 (.ext (.t 106) 0),
 ao 114 (.ext (.t 106) 1),
 ao 14 (.mv (.t 113)),
 ao 15 (.mv (.t 114))] [12,13,14,15]) (.seq (.region false [
 ao 115 (.mv (.t 13)),
 ao 116 (.bin .eql (.t 115) (.c (i64 0))),
 ao 117 (.mv (.t 116)),
 ag 118 (.mv (.t 15)) 117 true [],
 ag 119 (.bin .eql (.t 118) (.c (i64 0))) 117 true [],
 ao 120 (.pick (.t 117) (.t 119) (.c (.bool false))),
 ao 121 (.mv (.t 120)),
 ag 122 (.mv (.t 12)) 121 true [],
 ag 123 (.bin .eql (.t 122) (.c (i64 1))) 121 true [],
 ao 124 (.pick (.t 121) (.t 123) (.c (.bool false))),
 ao 125 (.mv (.t 124)),
 ag 126 (.mv (.t 14)) 125 true [],
 ag 127 (.bin .eql (.t 126) (.c (i64 0))) 125 true [],
 ao 128 (.pick (.t 125) (.t 127) (.c (.bool false))),
 ao 129 (.mv (.t 128)),
 ag 130 (.call 7 []) 129 true [],
 ao 131 (.pick (.t 129) (.t 130) (.c (.bool false))),
 ao 4 (.mv (.t 131))] [4]) (.ret)))))))))))))))
def a3:AFn:=⟨2,[.t 4],b3,false⟩
def n3:Ann:=⟨[[1,2],[1,2,28],[4],[1,2,5],[1,2,5],[1,2,5,6],[1,2,5,6,38],[1,2,5,6],[1,2,5,6],[1,2,5,7],[1,2,5,7,49],[4],[1,2,7,8,9],[1,2,8,9,10,11],[1,2,8,9,10,11,75],[4],[1,2,8,10,11,81],[4],[1,2,8,97],[4],[1,2,8,12,13],[12,13,14,15],[4]],[⟨[],[1,2,5,6],[32,80]⟩],[],[[],[],[],[],[496,1496,2496,3496,4496,5496,6496,7496,8496],[],[],[],[],[],[],[],[],[],[],[],[],[],[],[],[],[],[]],[],false,[(126,1792),(122,1648),(118,1792),(115,1648),(15,1792),(14,1792),(114,1792),(113,1792),(106,1792),(109,864),(13,1648),(12,1648),(105,1648),(104,1648),(98,1648),(101,864),(95,864),(91,864),(90,944),(87,944),(82,944),(79,864),(76,864),(72,944),(69,944),(65,864),(62,864),(11,944),(10,944),(61,944),(60,944),(57,944),(9,864),(8,864),(56,864),(55,864),(51,864),(4,464),(18,272)]⟩
def b4:AC:=
 .seq (.region false [
 ao 1 (.box (.t 0)),
 ao 2 (.mv (.c (.bool false)))] [1]) (.seq (.region false [
 ao 3 (.faddr 1 (.t 1)),
 ao 4 (.load none (.t 3)),
 ao 5 (.len (.t 4)),
 ao 6 (.bin .gtr (.t 5) (.c (i64 40))),
 ao 7 (.mv (.t 6)),
 ag 8 (.faddr 2 (.t 1)) 7 false [],
 ag 9 (.load none (.t 8)) 7 false [],
 ag 10 (.len (.t 9)) 7 false [],
 ag 11 (.bin .gtr (.t 10) (.c (i64 40))) 7 false [],
 ao 12 (.pick (.t 7) (.c (.bool true)) (.t 11)),
 ao 13 (.mv (.t 12)),
 ag 14 (.faddr 5 (.t 1)) 13 false [],
 ag 15 (.load none (.t 14)) 13 false [],
 ag 16 (.len (.t 15)) 13 false [],
 ag 17 (.bin .gtr (.t 16) (.c (i64 40))) 13 false [],
 ao 18 (.pick (.t 13) (.c (.bool true)) (.t 17)),
 ao 2 (.mv (.t 18))] [2]) (.ret))
def a4:AFn:=⟨1,[.t 2],b4,false⟩
def n4:Ann:=⟨[[1],[2]],[],[],[],[],false,[]⟩
@[simp] def d5l0:AC:=
 .seq (.seq (.region false [
 ao 27 (.mv (.t 3)),
 ao 28 (.faddr 1 (.t 1)),
 ao 29 (.load none (.t 28)),
 ao 30 (.len (.t 29)),
 ao 31 (.bin .lss (.t 27) (.t 30))] [1,3,31]) (.cond (.t 31) (.skip) (.exit 0))) (.seq (.block 1 (.seq (.region false [
 ao 34 (.faddr 1 (.t 1)),
 ao 35 (.load none (.t 34)),
 ao 36 (.mv (.t 3)),
 ao 37 (.idxs 3 (.t 35) (.t 36)),
 ao 38 (.load (some 3) (.t 37)),
 ao 4 (.alloc [(i64 0),(i64 0),(i64 0)]),
 ⟨none, .store 3 (.t 4) (.t 38),none,[],[]⟩] [1,3,4]) (.seq (.region false [
 ao 39 (.load (some 6) (.t 1)),
 ao 40 (.faddr 0 (.t 4)),
 ao 41 (.load none (.t 40)),
 ao 42 (.call 6 [(.t 39),(.t 41)]),
 ao 43 (.un .not (.t 42)),
 ao 44 (.mv (.t 43)),
 ag 45 (.load (some 6) (.t 1)) 44 false [],
 ag 46 (.faddr 1 (.t 4)) 44 false [],
 ag 47 (.load none (.t 46)) 44 false [],
 ag 48 (.call 6 [(.t 45),(.t 47)]) 44 false [],
 ag 49 (.un .not (.t 48)) 44 false [],
 ag 50 (.mv (.t 49)) 44 false [],
 ag 51 (.faddr 1 (.t 4)) 50 true [],
 ag 52 (.load none (.t 51)) 50 true [],
 ag 53 (.bin .neq (.t 52) (.c (i64 (-1)))) 50 true [],
 ag 54 (.pick (.t 50) (.t 53) (.c (.bool false))) 44 false [],
 ao 55 (.pick (.t 44) (.c (.bool true)) (.t 54)),
 ao 56 (.mv (.t 55)),
 ag 57 (.faddr 0 (.t 4)) 56 false [],
 ag 58 (.load none (.t 57)) 56 false [],
 ag 59 (.faddr 1 (.t 4)) 56 false [],
 ag 60 (.load none (.t 59)) 56 false [],
 ag 61 (.bin .eql (.t 58) (.t 60)) 56 false [],
 ao 62 (.pick (.t 56) (.c (.bool true)) (.t 61)),
 ao 63 (.mv (.t 62)),
 ag 64 (.faddr 2 (.t 4)) 63 false [],
 ag 65 (.load none (.t 64)) 63 false [],
 ag 66 (.call 16 [(.t 65),(.c (i64 0)),(.c (i64 20))]) 63 false [],
 ag 67 (.un .not (.t 66)) 63 false [],
 ao 68 (.pick (.t 63) (.c (.bool true)) (.t 67))] [1,3,68]) (.cond (.t 68) (.seq (.region false [
 ao 2 (.mv (.c (i64 60)))] [2]) (.ret)) (.skip))))) (.region false [
 ao 32 (.mv (.t 3)),
 ao 33 (.bin .add (.t 32) (.c (i64 1))),
 ao 3 (.mv (.t 33))] [1,3]))
def b5l0:AC:= .loop [1,3] [16,112,288,384,1184,1312] d5l0
def b5:AC:=
 .seq (.region false [
 ao 1 (.box (.t 0)),
 ao 2 (.mv (.c (i64 0)))] [1]) (.seq (.seq (.region false [
 ao 5 (.faddr 0 (.t 1)),
 ao 6 (.load none (.t 5)),
 ao 7 (.call 16 [(.t 6),(.c (i64 1)),(.c (i64 5))]),
 ao 8 (.un .not (.t 7)),
 ao 9 (.mv (.t 8)),
 ag 10 (.faddr 1 (.t 1)) 9 false [],
 ag 11 (.load none (.t 10)) 9 false [],
 ag 12 (.len (.t 11)) 9 false [],
 ag 13 (.bin .gtr (.t 12) (.c (i64 8))) 9 false [],
 ao 14 (.pick (.t 9) (.c (.bool true)) (.t 13)),
 ao 15 (.mv (.t 14)),
 ag 16 (.faddr 3 (.t 1)) 15 false [],
 ag 17 (.load none (.t 16)) 15 false [],
 ag 18 (.call 16 [(.t 17),(.c (i64 0)),(.c (i64 20))]) 15 false [],
 ag 19 (.un .not (.t 18)) 15 false [],
 ao 20 (.pick (.t 15) (.c (.bool true)) (.t 19)),
 ao 21 (.mv (.t 20)),
 ag 22 (.faddr 4 (.t 1)) 21 false [],
 ag 23 (.load none (.t 22)) 21 false [],
 ag 24 (.call 16 [(.t 23),(.c (i64 1)),(.c (i64 9))]) 21 false [],
 ag 25 (.un .not (.t 24)) 21 false [],
 ao 26 (.pick (.t 21) (.c (.bool true)) (.t 25))] [1,26]) (.cond (.t 26) (.seq (.region false [
 ao 2 (.mv (.c (i64 60)))] [2]) (.ret)) (.skip))) (.seq (.seq (.region false [
 ao 3 (.mv (.c (i64 0)))] [1,3]) (.block 0 (b5l0))) (.seq (.seq (.region false [
 ao 69 (.faddr 2 (.t 1)),
 ao 70 (.load none (.t 69)),
 ao 71 (.faddr 0 (.t 1)),
 ao 72 (.load none (.t 71)),
 ao 73 (.bin .sub (.t 72) (.c (i64 1))),
 ao 74 (.call 17 [(.t 70),(.c (i64 0)),(.t 73)]),
 ao 75 (.un .not (.t 74)),
 ao 76 (.mv (.t 75)),
 ag 77 (.faddr 5 (.t 1)) 76 false [],
 ag 78 (.load none (.t 77)) 76 false [],
 ag 79 (.faddr 0 (.t 1)) 76 false [],
 ag 80 (.load none (.t 79)) 76 false [],
 ag 81 (.bin .sub (.t 80) (.c (i64 1))) 76 false [],
 ag 82 (.call 17 [(.t 78),(.c (i64 0)),(.t 81)]) 76 false [],
 ag 83 (.un .not (.t 82)) 76 false [],
 ao 84 (.pick (.t 76) (.c (.bool true)) (.t 83)),
 ao 85 (.mv (.t 84)),
 ag 86 (.faddr 5 (.t 1)) 85 false [],
 ag 87 (.load none (.t 86)) 85 false [],
 ag 88 (.len (.t 87)) 85 false [],
 ag 89 (.bin .eql (.t 88) (.c (i64 0))) 85 false [],
 ao 90 (.pick (.t 85) (.c (.bool true)) (.t 89))] [90]) (.cond (.t 90) (.seq (.region false [
 ao 2 (.mv (.c (i64 60)))] [2]) (.ret)) (.skip))) (.seq (.region false [
 ao 2 (.mv (.c (i64 0)))] [2]) (.ret)))))
def a5:AFn:=⟨1,[.t 2],b5,false⟩
def n5:Ann:=⟨[[1],[1,26],[2],[1,3],[1,3,31],[1,3,4],[1,3,68],[2],[1,3],[90],[2],[2]],[⟨[],[1,3],[16,112,288,384,1184,1312]⟩],[],[],[],false,[]⟩
def b6:AC:=
 .seq (.region false [
 ao 2 (.box (.t 0)),
 ao 4 (.mv (.c (.bool false)))] [1,2]) (.seq (.region false [
 ao 5 (.mv (.t 1)),
 ao 6 (.faddr 0 (.t 2)),
 ao 7 (.load none (.t 6)),
 ao 8 (.bin .sub (.t 7) (.c (i64 1))),
 ao 9 (.call 16 [(.t 5),(.c (i64 0)),(.t 8)]),
 ao 4 (.mv (.t 9))] [4]) (.ret))
def a6:AFn:=⟨2,[.t 4],b6,false⟩
def n6:Ann:=⟨[[1,2],[4]],[],[],[],[],false,[(4,144)]⟩
def b7:AC:=
 .seq (.region false [
 ao 0 (.mv (.c (.bool false)))] []) (.seq (.region false [
 ao 8 (.call 18 []),
 ao 7 (.mv (.t 8)),
 ao 9 (.ext (.t 7) 0),
 ao 10 (.ext (.t 7) 1),
 ao 1 (.alloc [(i64 0),(i64 0),(i64 0),(.sl .full 3 []),(.sl .full 2 [])]),
 ao 2 (.alloc [(i64 0),(i64 0),(i64 0),(.sl .full 3 []),(.sl .full 2 [])]),
 ⟨none, .store 5 (.t 1) (.t 9),none,[],[]⟩,
 ⟨none, .store 5 (.t 2) (.t 10),none,[],[]⟩] [1]) (.seq (.region false [
 ao 12 (.load (some 5) (.t 1)),
 ao 13 (.call 15 [(.t 12)]),
 ao 11 (.mv (.t 13)),
 ao 14 (.ext (.t 11) 0),
 ao 15 (.ext (.t 11) 1),
 ao 3 (.mv (.t 14)),
 ao 4 (.mv (.t 15))] [3,4]) (.seq (.region false [
 ao 17 (.call 20 []),
 ao 18 (.call 19 [(.t 17)]),
 ao 16 (.mv (.t 18)),
 ao 19 (.ext (.t 16) 0),
 ao 20 (.ext (.t 16) 1),
 ao 5 (.mv (.t 19)),
 ao 6 (.mv (.t 20))] [3,4,5,6]) (.seq (.region false [
 ao 21 (.mv (.t 4)),
 ao 22 (.bin .eql (.t 21) (.c (i64 0))),
 ao 23 (.mv (.t 22)),
 ag 24 (.mv (.t 6)) 23 true [],
 ag 25 (.bin .eql (.t 24) (.c (i64 0))) 23 true [],
 ao 26 (.pick (.t 23) (.t 25) (.c (.bool false))),
 ao 27 (.mv (.t 26)),
 ag 28 (.mv (.t 3)) 27 true [],
 ag 29 (.bin .eql (.t 28) (.c (i64 10))) 27 true [],
 ao 30 (.pick (.t 27) (.t 29) (.c (.bool false))),
 ao 31 (.mv (.t 30)),
 ag 32 (.mv (.t 5)) 31 true [],
 ag 33 (.bin .eql (.t 32) (.c (i64 13))) 31 true [],
 ao 34 (.pick (.t 31) (.t 33) (.c (.bool false))),
 ao 0 (.mv (.t 34))] [0]) (.ret)))))
def a7:AFn:=⟨0,[.t 0],b7,false⟩
def n7:Ann:=⟨[[],[1],[3,4],[3,4,5,6],[0]],[],[],[],[],false,[(32,288),(28,208),(24,288),(21,208),(6,288),(5,288),(20,288),(19,288),(16,288),(4,208),(3,208),(15,208),(14,208),(11,208),(10,128),(9,128),(7,128)]⟩
def b8:AC:=
 .seq (.region false [
 ao 1 (.box (.t 0)),
 ao 2 (.alloc [(i64 0),(.sl .full 3 []),(.sl .full 1 []),(i64 0),(i64 0),(.sl .full 1 [])])] [1,2]) (.seq (.region false [
 ao 4 (.load (some 6) (.t 1)),
 ao 3 (.alloc [(i64 0),(.sl .full 3 []),(.sl .full 1 []),(i64 0),(i64 0),(.sl .full 1 [])]),
 ⟨none, .store 6 (.t 3) (.t 4),none,[],[]⟩] [1,2,3]) (.seq (.region false [
 ao 5 (.lit [(i64 0),(i64 0),(i64 0)] 0 []),
 ao 6 (.faddr 1 (.t 1)),
 ao 7 (.load none (.t 6)),
 ao 8 (.appm 3 24 (.t 5) (.t 7)),
 ao 9 (.faddr 1 (.t 3)),
 ⟨none, .store 1 (.t 9) (.t 8),none,[],[]⟩] [1,2,3]) (.seq (.region false [
 ao 10 (.lit [(i64 0)] 0 []),
 ao 11 (.faddr 2 (.t 1)),
 ao 12 (.load none (.t 11)),
 ao 13 (.app 1 8 (.t 10) (.t 12)),
 ao 14 (.faddr 2 (.t 3)),
 ⟨none, .store 1 (.t 14) (.t 13),none,[],[]⟩] [1,2,3]) (.seq (.region false [
 ao 15 (.lit [(i64 0)] 0 []),
 ao 16 (.faddr 5 (.t 1)),
 ao 17 (.load none (.t 16)),
 ao 18 (.app 1 8 (.t 15) (.t 17)),
 ao 19 (.faddr 5 (.t 3)),
 ⟨none, .store 1 (.t 19) (.t 18),none,[],[]⟩] [2,3]) (.seq (.region false [
 ao 20 (.load (some 6) (.t 3)),
 ⟨none, .store 6 (.t 2) (.t 20),none,[],[]⟩] [2]) (.ret))))))
def a8:AFn:=⟨1,[.cell 2 (some 6)],b8,true⟩
def n8:Ann:=⟨[[1,2],[1,2,3],[1,2,3],[1,2,3],[2,3],[2]],[],[],[],[8],true,[]⟩
def b9:AC:=
 .seq (.region false [
 ao 2 (.box (.t 0)),
 ao 4 (.alloc [(i64 0),(.sl .full 3 []),(.sl .full 1 []),(i64 0),(i64 0),(.sl .full 1 [])])] [1,2,4]) (.seq (.region false [
 ao 7 (.load (some 6) (.t 2)),
 ao 8 (.call 8 [(.t 7)]),
 ao 5 (.alloc [(i64 0),(.sl .full 3 []),(.sl .full 1 []),(i64 0),(i64 0),(.sl .full 1 [])]),
 ⟨none, .store 6 (.t 5) (.t 8),none,[],[]⟩] [1,4,5]) (.seq (.region false [
 ao 9 (.faddr 1 (.t 5)),
 ao 10 (.load none (.t 9)),
 ao 11 (.mv (.t 1)),
 ao 12 (.idxs 3 (.t 10) (.t 11)),
 ao 13 (.load (some 3) (.t 12)),
 ao 6 (.alloc [(i64 0),(i64 0),(i64 0)]),
 ⟨none, .store 3 (.t 6) (.t 13),none,[],[]⟩] [1,4,5,6]) (.seq (.region false [
 ao 14 (.faddr 2 (.t 6)),
 ⟨none, .store 1 (.t 14) (.c (i64 0)),none,[],[]⟩] [1,4,5,6]) (.seq (.region false [
 ao 15 (.faddr 1 (.t 5)),
 ao 16 (.load none (.t 15)),
 ao 17 (.mv (.t 1)),
 ao 18 (.load (some 3) (.t 6)),
 ao 19 (.idxs 3 (.t 16) (.t 17)),
 ⟨none, .store 3 (.t 19) (.t 18),none,[],[]⟩] [4,5]) (.seq (.region false [
 ao 20 (.load (some 6) (.t 5)),
 ⟨none, .store 6 (.t 4) (.t 20),none,[],[]⟩] [4]) (.ret))))))
def a9:AFn:=⟨2,[.cell 4 (some 6)],b9,false⟩
def n9:Ann:=⟨[[1,2,4],[1,4,5],[1,4,5,6],[1,4,5,6],[4,5],[4]],[],[],[],[],false,[]⟩
@[simp] def d10l0:AC:=
 .seq (.seq (.region false [
 ao 18 (.mv (.t 8)),
 ao 19 (.faddr 1 (.t 3)),
 ao 20 (.load none (.t 19)),
 ao 21 (.len (.t 20)),
 ao 22 (.bin .lss (.t 18) (.t 21))] [3,6,7,8,22]) (.cond (.t 22) (.skip) (.exit 0))) (.seq (.block 1 (.seq (.region false [
 ao 25 (.faddr 1 (.t 3)),
 ao 26 (.load none (.t 25)),
 ao 27 (.mv (.t 8)),
 ao 28 (.idxs 3 (.t 26) (.t 27)),
 ao 29 (.load (some 3) (.t 28)),
 ao 9 (.alloc [(i64 0),(i64 0),(i64 0)]),
 ⟨none, .store 3 (.t 9) (.t 29),none,[],[]⟩] [3,6,7,8,9]) (.seq (.seq (.region false [
 ao 30 (.faddr 1 (.t 9)),
 ao 31 (.load none (.t 30)),
 ao 32 (.bin .eql (.t 31) (.c (i64 (-1))))] [3,6,7,8,9,32]) (.cond (.t 32) (.region false [
 ao 33 (.faddr 0 (.t 3)),
 ao 34 (.load none (.t 33)),
 ao 35 (.faddr 1 (.t 9)),
 ⟨none, .store 1 (.t 35) (.t 34),none,[],[]⟩] [3,6,7,8,9]) (.skip))) (.region false [
 ao 36 (.faddr 3 (.t 7)),
 ao 37 (.load none (.t 36)),
 ao 38 (.faddr 0 (.t 9)),
 ao 39 (.load none (.t 38)),
 ao 40 (.faddr 1 (.t 9)),
 ao 41 (.load none (.t 40)),
 ao 42 (.build [(i64 0),(i64 0),(.bool false)] [(0,1,(.t 39)),(1,1,(.t 41))]),
 ao 43 (.lit [(i64 0),(i64 0),(.bool false)] 1 [(0,(.t 42))]),
 ao 44 (.app 3 24 (.t 37) (.t 43)),
 ao 45 (.faddr 3 (.t 7)),
 ⟨none, .store 1 (.t 45) (.t 44),none,[],[]⟩] [3,6,7,8])))) (.region false [
 ao 23 (.mv (.t 8)),
 ao 24 (.bin .add (.t 23) (.c (i64 1))),
 ao 8 (.mv (.t 24))] [3,6,7,8]))
def b10l0:AC:= .loop [3,6,7,8] [48,96,112,117] d10l0
def b10:AC:=
 .seq (.region false [
 ao 3 (.box (.t 0)),
 ao 6 (.alloc [(i64 0),(i64 0),(i64 0),(.sl .full 3 []),(.sl .full 2 [])])] [1,2,3,6]) (.seq (.region false [
 ao 10 (.faddr 0 (.t 3)),
 ao 11 (.load none (.t 10)),
 ao 12 (.bin .add (.t 11) (.c (i64 1))),
 ao 13 (.mv (.t 2)),
 ao 14 (.mv (.t 1)),
 ao 15 (.build [(i64 0),(i64 0)] [(0,1,(.t 14)),(1,1,(.c (i64 1)))]),
 ao 16 (.lit [(i64 0),(i64 0)] 1 [(0,(.t 15))]),
 ao 17 (.build [(i64 0),(i64 0),(i64 0),(.sl .full 3 []),(.sl .full 2 [])] [(0,1,(.t 12)),(1,1,(.t 13)),(2,1,(.c (i64 2))),(4,1,(.t 16))]),
 ao 7 (.alloc [(i64 0),(i64 0),(i64 0),(.sl .full 3 []),(.sl .full 2 [])]),
 ⟨none, .store 5 (.t 7) (.t 17),none,[],[]⟩] [3,6,7]) (.seq (.seq (.region false [
 ao 8 (.mv (.c (i64 0)))] [3,6,7,8]) (.block 0 (.seq (.thawc 7 3 117 3) (b10l0)))) (.seq (.region false [
 ao 46 (.load (some 5) (.t 7)),
 ⟨none, .store 5 (.t 6) (.t 46),none,[],[]⟩] [6]) (.ret))))
def a10:AFn:=⟨3,[.cell 6 (some 5)],b10,false⟩
def n10:Ann:=⟨[[1,2,3,6],[3,6,7],[3,6,7,8],[3,6,7,8,22],[3,6,7,8,9],[3,6,7,8,9,32],[3,6,7,8,9],[3,6,7,8],[3,6,7,8],[6]],[⟨[.c 7 3 117 3],[3,6,7,8],[48,96,112,117]⟩],[],[],[],false,[]⟩
@[simp] def d11l0:AC:=
 .seq (.seq (.region false [
 ao 35 (.mv (.t 3)),
 ao 36 (.faddr 3 (.t 1)),
 ao 37 (.load none (.t 36)),
 ao 38 (.len (.t 37)),
 ao 39 (.bin .lss (.t 35) (.t 38))] [1,3,39]) (.cond (.t 39) (.skip) (.exit 0))) (.seq (.block 1 (.seq (.region false [
 ao 42 (.faddr 3 (.t 1)),
 ao 43 (.load none (.t 42)),
 ao 44 (.mv (.t 3)),
 ao 45 (.idxs 3 (.t 43) (.t 44)),
 ao 46 (.load (some 3) (.t 45)),
 ao 4 (.alloc [(i64 0),(i64 0),(.bool false)]),
 ⟨none, .store 3 (.t 4) (.t 46),none,[],[]⟩] [1,3,4]) (.seq (.region false [
 ao 47 (.load (some 5) (.t 1)),
 ao 48 (.faddr 0 (.t 4)),
 ao 49 (.load none (.t 48)),
 ao 50 (.call 22 [(.t 47),(.t 49)]),
 ao 51 (.un .not (.t 50)),
 ao 52 (.mv (.t 51)),
 ag 53 (.load (some 5) (.t 1)) 52 false [],
 ag 54 (.faddr 1 (.t 4)) 52 false [],
 ag 55 (.load none (.t 54)) 52 false [],
 ag 56 (.call 22 [(.t 53),(.t 55)]) 52 false [],
 ag 57 (.un .not (.t 56)) 52 false [],
 ao 58 (.pick (.t 52) (.c (.bool true)) (.t 57)),
 ao 59 (.mv (.t 58)),
 ag 60 (.faddr 0 (.t 4)) 59 false [],
 ag 61 (.load none (.t 60)) 59 false [],
 ag 62 (.faddr 1 (.t 4)) 59 false [],
 ag 63 (.load none (.t 62)) 59 false [],
 ag 64 (.bin .eql (.t 61) (.t 63)) 59 false [],
 ao 65 (.pick (.t 59) (.c (.bool true)) (.t 64))] [1,3,65]) (.cond (.t 65) (.seq (.region false [
 ao 2 (.mv (.c (i64 30)))] [2]) (.ret)) (.skip))))) (.region false [
 ao 40 (.mv (.t 3)),
 ao 41 (.bin .add (.t 40) (.c (i64 1))),
 ao 3 (.mv (.t 41))] [1,3]))
def b11l0:AC:= .loop [1,3] [16,96,144,224,320,1296,1376] d11l0
@[simp] def d11l1:AC:=
 .seq (.seq (.region false [
 ao 66 (.mv (.t 5)),
 ao 67 (.faddr 4 (.t 1)),
 ao 68 (.load none (.t 67)),
 ao 69 (.len (.t 68)),
 ao 70 (.bin .lss (.t 66) (.t 69))] [1,5,70]) (.cond (.t 70) (.skip) (.exit 2))) (.seq (.block 3 (.seq (.region false [
 ao 73 (.faddr 4 (.t 1)),
 ao 74 (.load none (.t 73)),
 ao 75 (.mv (.t 5)),
 ao 76 (.idxs 2 (.t 74) (.t 75)),
 ao 77 (.load (some 2) (.t 76)),
 ao 6 (.alloc [(i64 0),(i64 0)]),
 ⟨none, .store 2 (.t 6) (.t 77),none,[],[]⟩] [1,5,6]) (.seq (.region false [
 ao 78 (.load (some 5) (.t 1)),
 ao 79 (.faddr 0 (.t 6)),
 ao 80 (.load none (.t 79)),
 ao 81 (.call 22 [(.t 78),(.t 80)]),
 ao 82 (.un .not (.t 81)),
 ao 83 (.mv (.t 82)),
 ag 84 (.faddr 1 (.t 6)) 83 false [],
 ag 85 (.load none (.t 84)) 83 false [],
 ag 86 (.call 21 [(.t 85),(.c (i64 0)),(.c (i64 99))]) 83 false [],
 ag 87 (.un .not (.t 86)) 83 false [],
 ao 88 (.pick (.t 83) (.c (.bool true)) (.t 87))] [1,5,88]) (.cond (.t 88) (.seq (.region false [
 ao 2 (.mv (.c (i64 30)))] [2]) (.ret)) (.skip))))) (.region false [
 ao 71 (.mv (.t 5)),
 ao 72 (.bin .add (.t 71) (.c (i64 1))),
 ao 5 (.mv (.t 72))] [1,5]))
def b11l1:AC:= .loop [1,5] [16,64,144,224,320,800,896] d11l1
def b11:AC:=
 .seq (.region false [
 ao 1 (.box (.t 0)),
 ao 2 (.mv (.c (i64 0)))] [1]) (.seq (.seq (.region false [
 ao 7 (.faddr 0 (.t 1)),
 ao 8 (.load none (.t 7)),
 ao 9 (.call 21 [(.t 8),(.c (i64 1)),(.c (i64 4))]),
 ao 10 (.un .not (.t 9)),
 ao 11 (.mv (.t 10)),
 ag 12 (.faddr 1 (.t 1)) 11 false [],
 ag 13 (.load none (.t 12)) 11 false [],
 ag 14 (.call 21 [(.t 13),(.c (i64 0)),(.c (i64 4))]) 11 false [],
 ag 15 (.un .not (.t 14)) 11 false [],
 ao 16 (.pick (.t 11) (.c (.bool true)) (.t 15)),
 ao 17 (.mv (.t 16)),
 ag 18 (.faddr 2 (.t 1)) 17 false [],
 ag 19 (.load none (.t 18)) 17 false [],
 ag 20 (.call 21 [(.t 19),(.c (i64 0)),(.c (i64 3))]) 17 false [],
 ag 21 (.un .not (.t 20)) 17 false [],
 ao 22 (.pick (.t 17) (.c (.bool true)) (.t 21)),
 ao 23 (.mv (.t 22)),
 ag 24 (.faddr 3 (.t 1)) 23 false [],
 ag 25 (.load none (.t 24)) 23 false [],
 ag 26 (.len (.t 25)) 23 false [],
 ag 27 (.bin .gtr (.t 26) (.c (i64 5))) 23 false [],
 ao 28 (.pick (.t 23) (.c (.bool true)) (.t 27)),
 ao 29 (.mv (.t 28)),
 ag 30 (.faddr 4 (.t 1)) 29 false [],
 ag 31 (.load none (.t 30)) 29 false [],
 ag 32 (.len (.t 31)) 29 false [],
 ag 33 (.bin .gtr (.t 32) (.c (i64 3))) 29 false [],
 ao 34 (.pick (.t 29) (.c (.bool true)) (.t 33))] [1,34]) (.cond (.t 34) (.seq (.region false [
 ao 2 (.mv (.c (i64 30)))] [2]) (.ret)) (.skip))) (.seq (.seq (.region false [
 ao 3 (.mv (.c (i64 0)))] [1,3]) (.block 0 (b11l0))) (.seq (.seq (.region false [
 ao 5 (.mv (.c (i64 0)))] [1,5]) (.block 2 (b11l1))) (.seq (.region false [
 ao 2 (.mv (.c (i64 0)))] [2]) (.ret)))))
def a11:AFn:=⟨1,[.t 2],b11,false⟩
def n11:Ann:=⟨[[1],[1,34],[2],[1,3],[1,3,39],[1,3,4],[1,3,65],[2],[1,3],[1,5],[1,5,70],[1,5,6],[1,5,88],[2],[1,5],[2]],[⟨[],[1,3],[16,96,144,224,320,1296,1376]⟩,⟨[],[1,5],[16,64,144,224,320,800,896]⟩],[],[],[],false,[]⟩
def b12:AC:=
 .seq (.region false [
 ao 2 (.box (.t 0)),
 ao 4 (.mv (.c (i64 0))),
 ao 5 (.mv (.c (i64 0)))] [1,2]) (.seq (.seq (.region false [
 ao 10 (.load (some 6) (.t 2)),
 ao 11 (.call 23 [(.t 10)]),
 ao 6 (.mv (.t 11))] [1,2,6]) (.seq (.region false [
 ao 12 (.mv (.t 6)),
 ao 13 (.bin .neq (.t 12) (.c (i64 0)))] [1,2,6,13]) (.cond (.t 13) (.seq (.region false [
 ao 14 (.mv (.t 6)),
 ao 4 (.mv (.c (i64 0))),
 ao 5 (.mv (.t 14))] [4,5]) (.ret)) (.skip)))) (.seq (.seq (.region false [
 ao 15 (.load (some 6) (.t 2)),
 ao 16 (.mv (.t 1)),
 ao 17 (.call 24 [(.t 15),(.t 16)]),
 ao 18 (.un .not (.t 17))] [1,2,18]) (.cond (.t 18) (.seq (.region false [
 ao 4 (.mv (.c (i64 0))),
 ao 5 (.mv (.c (i64 1)))] [4,5]) (.ret)) (.skip))) (.seq (.region false [
 ao 20 (.load (some 6) (.t 2)),
 ao 21 (.mv (.t 1)),
 ao 22 (.lit [(i64 0)] 1 [(0,(.t 21))]),
 ao 23 (.call 25 [(.t 20),(.c (.bool true)),(.t 22)]),
 ao 19 (.mv (.t 23)),
 ao 24 (.ext (.t 19) 0),
 ao 25 (.ext (.t 19) 1),
 ao 26 (.ext (.t 19) 2),
 ao 8 (.alloc [(i64 0),(i64 0)]),
 ao 7 (.mv (.t 24)),
 ⟨none, .store 2 (.t 8) (.t 25),none,[],[]⟩,
 ao 9 (.mv (.t 26))] [8,9]) (.seq (.seq (.region false [
 ao 27 (.mv (.t 9)),
 ao 28 (.bin .neq (.t 27) (.c (i64 0)))] [8,9,28]) (.cond (.t 28) (.seq (.region false [
 ao 29 (.mv (.t 9)),
 ao 4 (.mv (.c (i64 0))),
 ao 5 (.mv (.t 29))] [4,5]) (.ret)) (.skip))) (.seq (.region false [
 ao 30 (.faddr 0 (.t 8)),
 ao 31 (.load none (.t 30)),
 ao 4 (.mv (.t 31)),
 ao 5 (.mv (.c (i64 0)))] [4,5]) (.ret))))))
def a12:AFn:=⟨2,[.t 4, .t 5],b12,false⟩
def n12:Ann:=⟨[[1,2],[1,2,6],[1,2,6,13],[4,5],[1,2,18],[4,5],[8,9],[8,9,28],[4,5],[4,5]],[],[],[],[],false,[(29,368),(27,368),(9,368),(7,368),(26,368),(25,368),(24,368),(19,368),(5,176),(14,176),(12,176),(6,176)]⟩
@[simp] def d13l0:AC:=
 .seq (.region false [
 ao 21 (.bin .lss (.t 20) (.c (i64 5)))] [1,6,7,20,21]) (.seq (.cond (.t 21) (.skip) (.exit 0)) (.seq (.block 1 (.seq (.region false [
 ao 22 (.mv (.t 20)),
 ao 23 (.faddr 0 (.t 7)),
 ⟨none, .store 1 (.t 23) (.t 22),none,[],[]⟩] [1,6,7,20]) (.seq (.region false [
 ao 24 (.mv (.t 6)),
 ao 25 (.load (some 5) (.t 7)),
 ao 26 (.call 27 [(.t 24),(.t 25)]),
 ao 27 (.mv (.t 1)),
 ao 28 (.bin .geq (.t 26) (.t 27))] [1,6,7,20,28]) (.cond (.t 28) (.seq (.region false [
 ao 29 (.faddr 0 (.t 7)),
 ao 30 (.load none (.t 29)),
 ao 4 (.mv (.t 30)),
 ao 5 (.mv (.c (i64 0)))] [4,5]) (.ret)) (.skip))))) (.region false [
 ao 31 (.bin .add (.t 20) (.c (i64 1))),
 ao 20 (.mv (.t 31))] [1,6,7,20])))
def b13l0:AC:= .loop [1,6,7,20] [32,112,208,1208] d13l0
def b13:AC:=
 .seq (.region false [
 ao 2 (.box (.t 0)),
 ao 4 (.mv (.c (i64 0))),
 ao 5 (.mv (.c (i64 0)))] [1,2]) (.seq (.region false [
 ao 10 (.load (some 5) (.t 2)),
 ao 11 (.mv (.t 1)),
 ao 12 (.bin .geq (.t 11) (.c (i64 0))),
 ao 13 (.call 26 [(.t 10),(.t 12)]),
 ao 9 (.mv (.t 13)),
 ao 14 (.ext (.t 9) 0),
 ao 15 (.ext (.t 9) 1),
 ao 16 (.ext (.t 9) 2),
 ao 7 (.alloc [(i64 0),(i64 0),(i64 0),(i64 0),(i64 0)]),
 ao 6 (.mv (.t 14)),
 ⟨none, .store 5 (.t 7) (.t 15),none,[],[]⟩,
 ao 8 (.mv (.t 16))] [1,6,7,8]) (.seq (.seq (.region false [
 ao 17 (.mv (.t 8)),
 ao 18 (.bin .neq (.t 17) (.c (i64 0)))] [1,6,7,8,18]) (.cond (.t 18) (.seq (.region false [
 ao 19 (.mv (.t 8)),
 ao 4 (.mv (.c (i64 0))),
 ao 5 (.mv (.t 19))] [4,5]) (.ret)) (.skip))) (.seq (.seq (.region false [
 ao 20 (.mv (.c (i64 0)))] [1,6,7,20]) (.block 0 (b13l0))) (.seq (.region false [
 ao 4 (.mv (.c (i64 0))),
 ao 5 (.mv (.c (i64 3)))] [4,5]) (.ret)))))
def a13:AFn:=⟨2,[.t 4, .t 5],b13,false⟩
def n13:Ann:=⟨[[1,2],[1,6,7,8],[1,6,7,8,18],[4,5],[1,6,7,20],[1,6,7,20,21],[1,6,7,20],[1,6,7,20,28],[4,5],[1,6,7,20],[4,5]],[⟨[],[1,6,7,20],[32,112,208,1208]⟩],[],[],[],false,[(24,208),(5,208),(19,208),(17,208),(8,208),(6,208),(16,208),(15,208),(14,208),(9,208)]⟩
def b14:AC:=
 .seq (.region false [
 ao 2 (.box (.t 0)),
 ao 4 (.mv (.c (i64 0))),
 ao 5 (.mv (.c (i64 0)))] [1,2]) (.seq (.region true (spl [
 ao 13 (.load (some 5) (.t 2)),
 ao 14 (.mv (.t 1)),
 ao 15 (.faddr 4 (.t 2)),
 ap 16 (.load none (.t 15)) [2],
 ap 17 (.len (.t 16)) [3,2],
 ap 18 (.bin .sub (.t 17) (.c (i64 1))) [4,3,2],
 ap 19 (.call 28 [(.t 14),(.c (i64 0)),(.t 18)]) [1,5,4,3,2],
 ap 20 (.call 26 [(.t 13),(.t 19)]) [0,6,1,5,4,3,2],
 ap 12 (.mv (.t 20)) [7,0,6,1,5,4,3,2],
 ap 21 (.ext (.t 12) 0) [8,7,0,6,1,5,4,3,2],
 ap 22 (.ext (.t 12) 1) [8,7,0,6,1,5,4,3,2],
 ⟨(some 23), .ext (.t 12) 2,none,[8,7,0,6,1,5,4,3,2],[112]⟩,
 ao 7 (.alloc [(i64 0),(i64 0),(i64 0),(i64 0),(i64 0)]),
 ap 6 (.mv (.t 21)) [9,12,8,7,0,6,1,5,4,3,2],
 ⟨none, .store 5 (.t 7) (.t 22),none,[10,13,9,12,8,7,0,6,1,5,4,3,2],[]⟩] [
 ap 8 (.mv (.t 23)) [11,14,10,13,9,12,8,7,0,6,1,5,4,3,2]]) [1,2,7,8]) (.seq (.seq (.region false [
 ao 24 (.mv (.t 8)),
 ao 25 (.bin .neq (.t 24) (.c (i64 0)))] [1,2,7,8,25]) (.cond (.t 25) (.seq (.region false [
 ao 26 (.mv (.t 8)),
 ao 4 (.mv (.c (i64 0))),
 ao 5 (.mv (.t 26))] [4,5]) (.ret)) (.skip))) (.seq (.region false [
 ao 28 (.load (some 5) (.t 2)),
 ao 29 (.call 26 [(.t 28),(.c (.bool true))]),
 ao 27 (.mv (.t 29)),
 ao 30 (.ext (.t 27) 0),
 ao 31 (.ext (.t 27) 1),
 ao 32 (.ext (.t 27) 2),
 ao 10 (.alloc [(i64 0),(i64 0),(i64 0),(i64 0),(i64 0)]),
 ao 9 (.mv (.t 30)),
 ⟨none, .store 5 (.t 10) (.t 31),none,[],[]⟩,
 ao 11 (.mv (.t 32))] [1,7,9]) (.seq (.region false [
 ao 33 (.mv (.t 9)),
 ao 34 (.build [(i64 0),(i64 0)] [(1,1,(.c (i64 1)))]),
 ao 35 (.lit [(i64 0),(i64 0)] 1 [(0,(.t 34))]),
 ao 36 (.nilck (.t 33)),
 ao 37 (.faddr 0 (.t 36)),
 ao 38 (.faddr 4 (.t 37)),
 ⟨none, .store 1 (.t 38) (.t 35),none,[],[]⟩] [1,7,9]) (.seq (.region false [
 ao 39 (.mv (.t 1)),
 ao 40 (.faddr 2 (.t 7)),
 ao 41 (.idxa 3 1 (.t 40) (.t 39)),
 ao 42 (.load none (.t 41)),
 ao 43 (.build [(i64 0),(i64 0),(i64 0)] [(0,1,(.t 42))]),
 ao 44 (.faddr 2 (.t 7)),
 ⟨none, .store 3 (.t 44) (.t 43),none,[],[]⟩] [7,9]) (.seq (.block 0 (.seq (.region false [
 ao 46 (.mv (.t 9)),
 ao 47 (.load (some 5) (.t 7)),
 ao 48 (.call 27 [(.t 46),(.t 47)]),
 ao 49 (.bin .eql (.t 48) (.c (i64 1))),
 ao 45 (.mv (.t 49))] [7,9,45]) (.cond (.t 45) (.seq (.region false [
 ao 4 (.mv (.c (i64 1))),
 ao 5 (.mv (.c (i64 0)))] [4,5]) (.ret)) (.seq (.region false [
 ao 51 (.mv (.t 9)),
 ao 52 (.load (some 5) (.t 7)),
 ao 53 (.mkmap (some 5)),
 ao 54 (.call 29 [(.t 51),(.t 52),(.t 53)]),
 ao 55 (.un .not (.t 54)),
 ao 50 (.mv (.t 55))] [50]) (.cond (.t 50) (.seq (.region false [
 ao 4 (.mv (.c (i64 2))),
 ao 5 (.mv (.c (i64 0)))] [4,5]) (.ret)) (.skip)))))) (.seq (.region false [
 ao 4 (.mv (.c (i64 3))),
 ao 5 (.mv (.c (i64 0)))] [4,5]) (.ret))))))))
def a14:AFn:=⟨2,[.t 4, .t 5],b14,false⟩
def n14:Ann:=⟨[[1,2],[1,2,7,8],[1,2,7,8,25],[4,5],[1,7,9],[1,7,9],[7,9],[7,9,45],[4,5],[50],[4,5],[4,5]],[],[],[],[],false,[(51,464),(46,464),(33,464),(11,464),(9,464),(32,464),(31,464),(30,464),(27,464),(5,320),(26,320),(24,320),(8,320),(6,320),(23,320),(22,320),(21,320),(12,320)]⟩
def b15:AC:=
 .seq (.region false [
 ao 1 (.box (.t 0)),
 ao 2 (.mv (.c (i64 0))),
 ao 3 (.mv (.c (i64 0)))] [1]) (.seq (.region false [
 ao 8 (.load (some 5) (.t 1)),
 ao 9 (.call 26 [(.t 8),(.c (.bool true))]),
 ao 7 (.mv (.t 9)),
 ao 10 (.ext (.t 7) 0),
 ao 11 (.ext (.t 7) 1),
 ao 12 (.ext (.t 7) 2),
 ao 5 (.alloc [(i64 0),(i64 0),(i64 0),(i64 0),(i64 0)]),
 ao 4 (.mv (.t 10)),
 ⟨none, .store 5 (.t 5) (.t 11),none,[],[]⟩,
 ao 6 (.mv (.t 12))] [4,5,6]) (.seq (.seq (.region false [
 ao 13 (.mv (.t 6)),
 ao 14 (.bin .neq (.t 13) (.c (i64 0)))] [4,5,6,14]) (.cond (.t 14) (.seq (.region false [
 ao 15 (.mv (.t 6)),
 ao 2 (.mv (.c (i64 0))),
 ao 3 (.mv (.t 15))] [2,3]) (.ret)) (.skip))) (.seq (.region false [
 ao 16 (.mv (.t 4)),
 ao 17 (.load (some 5) (.t 5)),
 ao 18 (.call 27 [(.t 16),(.t 17)]),
 ao 2 (.mv (.t 18)),
 ao 3 (.mv (.c (i64 0)))] [2,3]) (.ret))))
def a15:AFn:=⟨1,[.t 2, .t 3],b15,false⟩
def n15:Ann:=⟨[[1],[4,5,6],[4,5,6,14],[2,3],[2,3]],[],[],[],[],false,[(2,288),(16,144),(3,144),(15,144),(13,144),(6,144),(4,144),(12,144),(11,144),(10,144),(7,144)]⟩
def b16:AC:=
 .seq (.region false [
 ao 6 (.mv (.c (.bool false)))] [0,1,2]) (.seq (.region false [
 ao 7 (.mv (.t 0)),
 ao 8 (.mv (.t 1)),
 ao 9 (.mv (.t 2)),
 ao 10 (.call 30 [(.t 7),(.t 8),(.t 9)]),
 ao 6 (.mv (.t 10))] [6]) (.ret))
def a16:AFn:=⟨3,[.t 6],b16,false⟩
def n16:Ann:=⟨[[0,1,2],[6]],[],[],[],[],false,[(6,160)]⟩
@[simp] def d17l0:AC:=
 .seq (.seq (.region false [
 ao 8 (.mv (.t 7)),
 ao 9 (.mv (.t 0)),
 ao 10 (.len (.t 9)),
 ao 11 (.bin .lss (.t 8) (.t 10))] [0,1,2,7,11]) (.cond (.t 11) (.skip) (.exit 0))) (.seq (.block 1 (.seq (.region true (spl [
 ao 14 (.mv (.t 0)),
 ao 15 (.mv (.t 7)),
 ap 16 (.idxs 1 (.t 14) (.t 15)) [0,1],
 ap 17 (.load none (.t 16)) [2,0,1],
 ao 18 (.mv (.t 1)),
 ao 19 (.mv (.t 2)),
 ap 20 (.call 30 [(.t 17),(.t 18),(.t 19)]) [3,4,5,2,0,1],
 ap 21 (.un .not (.t 20)) [6,3,4,5,2,0,1],
 ap 22 (.mv (.t 21)) [7,6,3,4,5,2,0,1],
 ag 23 (.mv (.t 7)) 22 false [8,7,6,3,4,5,2,0,1],
 ag 24 (.bin .gtr (.t 23) (.c (i64 0))) 22 false [9,8,7,6,3,4,5,2,0,1],
 ag 25 (.mv (.t 24)) 22 false [10,9,8,7,6,3,4,5,2,0,1],
 ag 26 (.mv (.t 0)) 25 true [11,10,9,8,7,6,3,4,5,2,0,1],
 ag 27 (.mv (.t 7)) 25 true [11,10,9,8,7,6,3,4,5,2,0,1],
 ag 28 (.idxs 1 (.t 26) (.t 27)) 25 true [12,13,11,10,9,8,7,6,3,4,5,2,0,1],
 ag 29 (.load none (.t 28)) 25 true [14,12,13,11,10,9,8,7,6,3,4,5,2,0,1],
 ag 30 (.mv (.t 0)) 25 true [11,10,9,8,7,6,3,4,5,2,0,1],
 ag 31 (.mv (.t 7)) 25 true [11,10,9,8,7,6,3,4,5,2,0,1],
 ag 32 (.bin .sub (.t 31) (.c (i64 1))) 25 true [17,11,10,9,8,7,6,3,4,5,2,0,1],
 ag 33 (.idxs 1 (.t 30) (.t 32)) 25 true [16,18,17,11,10,9,8,7,6,3,4,5,2,0,1],
 ag 34 (.load none (.t 33)) 25 true [19,16,18,17,11,10,9,8,7,6,3,4,5,2,0,1]] [
 ag 35 (.bin .leq (.t 29) (.t 34)) 25 true [15,20,14,12,13,19,16,18,17,11,10,9,8,7,6,3,4,5,2,0,1],
 ag 36 (.pick (.t 25) (.t 35) (.c (.bool false))) 22 false [21,15,20,14,12,13,19,16,18,17,11,10,9,8,7,6,3,4,5,2,0,1],
 ap 37 (.pick (.t 22) (.c (.bool true)) (.t 36)) [22,21,15,20,14,12,13,19,16,18,17,11,10,9,8,7,6,3,4,5,2,0,1]]) [0,1,2,7,37]) (.cond (.t 37) (.seq (.region false [
 ao 6 (.mv (.c (.bool false)))] [6]) (.ret)) (.skip)))) (.region false [
 ao 12 (.mv (.t 7)),
 ao 13 (.bin .add (.t 12) (.c (i64 1))),
 ao 7 (.mv (.t 13))] [0,1,2,7]))
def b17l0:AC:= .loop [0,1,2,7] [] d17l0
def b17:AC:=
 .seq (.region false [
 ao 6 (.mv (.c (.bool false)))] [0,1,2]) (.seq (.seq (.region false [
 ao 7 (.mv (.c (i64 0)))] [0,1,2,7]) (.block 0 (b17l0))) (.seq (.region false [
 ao 6 (.mv (.c (.bool true)))] [6]) (.ret)))
def a17:AFn:=⟨3,[.t 6],b17,false⟩
def n17:Ann:=⟨[[0,1,2],[0,1,2,7],[0,1,2,7,11],[0,1,2,7,37],[6],[0,1,2,7],[6]],[⟨[],[0,1,2,7],[]⟩],[],[],[],false,[]⟩
def b18:AC:=
 .seq (.region false [
 ao 0 (.alloc [(i64 0),(i64 0),(i64 0),(.sl .full 3 []),(.sl .full 2 [])]),
 ao 1 (.alloc [(i64 0),(i64 0),(i64 0),(.sl .full 3 []),(.sl .full 2 [])])] [0,1]) (.seq (.region false [
 ao 2 (.build [(i64 0),(i64 0),(.bool false)] [(0,1,(.c (i64 0))),(1,1,(.c (i64 1))),(2,1,(.c (.bool true)))]),
 ao 3 (.build [(i64 0),(i64 0),(.bool false)] [(0,1,(.c (i64 1))),(1,1,(.c (i64 2)))]),
 ao 4 (.lit [(i64 0),(i64 0),(.bool false)] 2 [(0,(.t 2)),(1,(.t 3))]),
 ao 5 (.build [(i64 0),(i64 0)] [(0,1,(.c (i64 0))),(1,1,(.c (i64 10)))]),
 ao 6 (.build [(i64 0),(i64 0)] [(0,1,(.c (i64 1))),(1,1,(.c (i64 7)))]),
 ao 7 (.lit [(i64 0),(i64 0)] 2 [(0,(.t 5)),(1,(.t 6))]),
 ao 8 (.build [(i64 0),(i64 0),(i64 0),(.sl .full 3 []),(.sl .full 2 [])] [(0,1,(.c (i64 3))),(1,1,(.c (i64 2))),(2,1,(.c (i64 1))),(3,1,(.t 4)),(4,1,(.t 7))]),
 ⟨none, .store 5 (.t 0) (.t 8),none,[],[]⟩] [0,1]) (.seq (.region true (spl [
 ao 9 (.load (some 5) (.t 0)),
 ao 10 (.load (some 5) (.t 0)),
 ao 11 (.lit [(i64 0)] 1 [(0,(.c (i64 0)))]),
 ap 12 (.call 31 [(.t 10),(.t 11)]) [1,2]] [
 ⟨none, .store 5 (.t 0) (.t 9),none,[3,0,1,2],[]⟩,
 ⟨none, .store 5 (.t 1) (.t 12),none,[4,3,0,1,2],[]⟩]) [0,1]) (.ret)))
def a18:AFn:=⟨0,[.cell 0 (some 5), .cell 1 (some 5)],b18,false⟩
def n18:Ann:=⟨[[0,1],[0,1],[0,1]],[],[],[],[],false,[]⟩
def b19:AC:=
 .seq (.region false [
 ao 1 (.box (.t 0)),
 ao 2 (.mv (.c (i64 0))),
 ao 3 (.mv (.c (i64 0)))] [1]) (.seq (.seq (.region false [
 ao 8 (.load (some 6) (.t 1)),
 ao 9 (.call 23 [(.t 8)]),
 ao 4 (.mv (.t 9))] [1,4]) (.seq (.region false [
 ao 10 (.mv (.t 4)),
 ao 11 (.bin .neq (.t 10) (.c (i64 0)))] [1,4,11]) (.cond (.t 11) (.seq (.region false [
 ao 12 (.mv (.t 4)),
 ao 2 (.mv (.c (i64 0))),
 ao 3 (.mv (.t 12))] [2,3]) (.ret)) (.skip)))) (.seq (.region false [
 ao 14 (.load (some 6) (.t 1)),
 ao 15 (.faddr 5 (.t 1)),
 ao 16 (.load none (.t 15)),
 ao 17 (.call 25 [(.t 14),(.c (.bool true)),(.t 16)]),
 ao 13 (.mv (.t 17)),
 ao 18 (.ext (.t 13) 0),
 ao 19 (.ext (.t 13) 1),
 ao 20 (.ext (.t 13) 2),
 ao 6 (.alloc [(i64 0),(i64 0)]),
 ao 5 (.mv (.t 18)),
 ⟨none, .store 2 (.t 6) (.t 19),none,[],[]⟩,
 ao 7 (.mv (.t 20))] [6,7]) (.seq (.seq (.region false [
 ao 21 (.mv (.t 7)),
 ao 22 (.bin .neq (.t 21) (.c (i64 0)))] [6,7,22]) (.cond (.t 22) (.seq (.region false [
 ao 23 (.mv (.t 7)),
 ao 2 (.mv (.c (i64 0))),
 ao 3 (.mv (.t 23))] [2,3]) (.ret)) (.skip))) (.seq (.region false [
 ao 24 (.faddr 0 (.t 6)),
 ao 25 (.load none (.t 24)),
 ao 2 (.mv (.t 25)),
 ao 3 (.mv (.c (i64 0)))] [2,3]) (.ret)))))
def a19:AFn:=⟨1,[.t 2, .t 3],b19,false⟩
def n19:Ann:=⟨[[1],[1,4],[1,4,11],[2,3],[6,7],[6,7,22],[2,3],[2,3]],[],[],[],[],false,[(23,272),(21,272),(7,272),(5,272),(20,272),(19,272),(18,272),(13,272),(3,144),(12,144),(10,144),(4,144)]⟩
def b20:AC:=
 .seq (.region false [
 ao 0 (.alloc [(i64 0),(.sl .full 3 []),(.sl .full 1 []),(i64 0),(i64 0),(.sl .full 1 [])])] [0]) (.seq (.region false [
 ao 1 (.build [(i64 0),(i64 0),(i64 0)] [(0,1,(.c (i64 0))),(1,1,(.c (i64 (-1)))),(2,1,(.c (i64 5)))]),
 ao 2 (.build [(i64 0),(i64 0),(i64 0)] [(0,1,(.c (i64 0))),(1,1,(.c (i64 1))),(2,1,(.c (i64 2)))]),
 ao 3 (.build [(i64 0),(i64 0),(i64 0)] [(0,1,(.c (i64 1))),(1,1,(.c (i64 2))),(2,1,(.c (i64 1)))]),
 ao 4 (.lit [(i64 0),(i64 0),(i64 0)] 3 [(0,(.t 1)),(1,(.t 2)),(2,(.t 3))]),
 ao 5 (.lit [(i64 0)] 1 [(0,(.c (i64 1)))]),
 ao 6 (.lit [(i64 0)] 2 [(0,(.c (i64 1))),(1,(.c (i64 2)))]),
 ao 7 (.build [(i64 0),(.sl .full 3 []),(.sl .full 1 []),(i64 0),(i64 0),(.sl .full 1 [])] [(0,1,(.c (i64 3))),(1,1,(.t 4)),(2,1,(.t 5)),(3,1,(.c (i64 1))),(4,1,(.c (i64 1))),(5,1,(.t 6))]),
 ⟨none, .store 6 (.t 0) (.t 7),none,[],[]⟩] [0]) (.ret))
def a20:AFn:=⟨0,[.cell 0 (some 6)],b20,false⟩
def n20:Ann:=⟨[[0],[0]],[],[],[],[],false,[]⟩
def b21:AC:=
 .seq (.region false [
 ao 6 (.mv (.c (.bool false)))] [0,1,2]) (.seq (.region false [
 ao 7 (.mv (.t 0)),
 ao 8 (.mv (.t 1)),
 ao 9 (.mv (.t 2)),
 ao 10 (.call 30 [(.t 7),(.t 8),(.t 9)]),
 ao 6 (.mv (.t 10))] [6]) (.ret))
def a21:AFn:=⟨3,[.t 6],b21,false⟩
def n21:Ann:=⟨[[0,1,2],[6]],[],[],[],[],false,[(6,160)]⟩
def b22:AC:=
 .seq (.region false [
 ao 2 (.box (.t 0)),
 ao 4 (.mv (.c (.bool false)))] [1,2]) (.seq (.region false [
 ao 5 (.mv (.t 1)),
 ao 6 (.faddr 0 (.t 2)),
 ao 7 (.load none (.t 6)),
 ao 8 (.bin .sub (.t 7) (.c (i64 1))),
 ao 9 (.call 21 [(.t 5),(.c (i64 0)),(.t 8)]),
 ao 4 (.mv (.t 9))] [4]) (.ret))
def a22:AFn:=⟨2,[.t 4],b22,false⟩
def n22:Ann:=⟨[[1,2],[4]],[],[],[],[],false,[(4,144)]⟩
def b23:AC:=
 .seq (.region false [
 ao 1 (.box (.t 0)),
 ao 2 (.mv (.c (i64 0)))] [1]) (.seq (.region false [
 ao 5 (.mkfn 32 [] [(.t 1)]),
 ao 3 (.mv (.t 5))] [1,3]) (.seq (.region false [
 ao 6 (.mkfn 33 [] [(.t 1)]),
 ao 4 (.mv (.t 6))] [1,3,4]) (.seq (.block 0 (.seq (.seq (.region false [
 ao 8 (.faddr 0 (.t 1)),
 ao 9 (.load none (.t 8)),
 ao 10 (.call 35 [(.t 9),(.c (i64 1)),(.c (i64 5))]),
 ao 11 (.un .not (.t 10)),
 ao 7 (.mv (.t 11))] [1,3,4,7]) (.cond (.t 7) (.skip) (.seq (.region false [
 ao 12 (.faddr 1 (.t 1)),
 ao 13 (.load none (.t 12)),
 ao 14 (.len (.t 13)),
 ao 15 (.bin .gtr (.t 14) (.c (i64 8))),
 ao 7 (.mv (.t 15))] [1,3,4,7]) (.cond (.t 7) (.skip) (.region false [
 ao 16 (.faddr 1 (.t 1)),
 ao 17 (.load none (.t 16)),
 ao 18 (.mv (.t 4)),
 ao 19 (.call 36 [(.t 17),(.t 18)]),
 ao 7 (.mv (.t 19))] [1,3,7]))))) (.cond (.t 7) (.seq (.region false [
 ao 2 (.mv (.c (i64 60)))] [2]) (.ret)) (.seq (.seq (.region false [
 ao 21 (.faddr 2 (.t 1)),
 ao 22 (.load none (.t 21)),
 ao 23 (.mv (.t 3)),
 ao 24 (.call 37 [(.t 22),(.t 23)]),
 ao 25 (.un .not (.t 24)),
 ao 20 (.mv (.t 25))] [1,3,20]) (.cond (.t 20) (.skip) (.seq (.region false [
 ao 26 (.faddr 5 (.t 1)),
 ao 27 (.load none (.t 26)),
 ao 28 (.mv (.t 3)),
 ao 29 (.call 37 [(.t 27),(.t 28)]),
 ao 30 (.un .not (.t 29)),
 ao 20 (.mv (.t 30))] [1,20]) (.cond (.t 20) (.skip) (.seq (.region false [
 ao 31 (.faddr 5 (.t 1)),
 ao 32 (.load none (.t 31)),
 ao 33 (.len (.t 32)),
 ao 34 (.bin .eql (.t 33) (.c (i64 0))),
 ao 20 (.mv (.t 34))] [1,20]) (.cond (.t 20) (.skip) (.seq (.region false [
 ao 35 (.faddr 3 (.t 1)),
 ao 36 (.load none (.t 35)),
 ao 37 (.call 35 [(.t 36),(.c (i64 0)),(.c (i64 20))]),
 ao 38 (.un .not (.t 37)),
 ao 20 (.mv (.t 38))] [1,20]) (.cond (.t 20) (.skip) (.region false [
 ao 39 (.faddr 4 (.t 1)),
 ao 40 (.load none (.t 39)),
 ao 41 (.call 35 [(.t 40),(.c (i64 1)),(.c (i64 9))]),
 ao 42 (.un .not (.t 41)),
 ao 20 (.mv (.t 42))] [20]))))))))) (.cond (.t 20) (.seq (.region false [
 ao 2 (.mv (.c (i64 60)))] [2]) (.ret)) (.skip)))))) (.seq (.region false [
 ao 2 (.mv (.c (i64 0)))] [2]) (.ret)))))
def a23:AFn:=⟨1,[.t 2],b23,false⟩
def n23:Ann:=⟨[[1],[1,3],[1,3,4],[1,3,4,7],[1,3,4,7],[1,3,7],[2],[1,3,20],[1,20],[1,20],[1,20],[20],[2],[2]],[],[],[],[],false,[(7,304)]⟩
def b24:AC:=
 .seq (.region false [
 ao 2 (.box (.t 0)),
 ao 4 (.mv (.c (.bool false)))] [1,2]) (.seq (.region false [
 ao 5 (.mv (.t 1)),
 ao 6 (.faddr 0 (.t 2)),
 ao 7 (.load none (.t 6)),
 ao 8 (.bin .sub (.t 7) (.c (i64 1))),
 ao 9 (.call 35 [(.t 5),(.c (i64 0)),(.t 8)]),
 ao 4 (.mv (.t 9))] [4]) (.ret))
def a24:AFn:=⟨2,[.t 4],b24,false⟩
def n24:Ann:=⟨[[1,2],[4]],[],[],[],[],false,[(4,144)]⟩
def b25:AC:=
 .seq (.region false [
 ao 3 (.box (.t 0)),
 ao 6 (.mv (.c .nilp)),
 ao 7 (.alloc [(i64 0),(i64 0)]),
 ao 8 (.mv (.c (i64 0)))] [1,2,3,7]) (.seq (.region false [
 ao 11 (.load (some 6) (.t 3)),
 ao 12 (.mv (.t 1)),
 ao 13 (.call 38 [(.t 11),(.t 12)]),
 ao 9 (.mv (.t 13))] [2,7,9]) (.seq (.region false [
 ao 14 (.mv (.t 9)),
 ao 15 (.mv (.t 2)),
 ao 16 (.call 40 [(.t 15)]),
 ao 17 (.call 39 [(.t 14),(.t 16)]),
 ao 10 (.alloc [(i64 0),(i64 0)]),
 ⟨none, .store 2 (.t 10) (.t 17),none,[],[]⟩] [7,9,10]) (.seq (.seq (.region false [
 ao 18 (.load (some 2) (.t 10)),
 ao 19 (.mv (.c (.agg [(i64 1073741824),(i64 1073741824)]))),
 ao 20 (.eqa [true,true] false (.t 18) (.t 19))] [7,9,10,20]) (.cond (.t 20) (.seq (.region true (spl [
 ao 21 (.mv (.c (.agg [(i64 1073741824),(i64 1073741824)]))),
 ao 6 (.mv (.c .nilp))] [
 ⟨none, .store 2 (.t 7) (.t 21),none,[0,1],[]⟩,
 ap 8 (.mv (.c (i64 3))) [2,0,1]]) [6,7,8]) (.ret)) (.skip))) (.seq (.region true (spl [
 ao 22 (.mv (.t 9)),
 ao 23 (.load (some 2) (.t 10)),
 ap 6 (.mv (.t 22)) [0]] [
 ⟨none, .store 2 (.t 7) (.t 23),none,[1,2,0],[]⟩,
 ap 8 (.mv (.c (i64 0))) [3,1,2,0]]) [6,7,8]) (.ret)))))
def a25:AFn:=⟨3,[.t 6, .cell 7 (some 2), .t 8],b25,false⟩
def n25:Ann:=⟨[[1,2,3,7],[2,7,9],[7,9,10],[7,9,10,20],[6,7,8],[6,7,8]],[],[],[],[],false,[(6,208),(22,208),(14,208),(9,208)]⟩
@[simp] def d26l0:AC:=
 .seq (.region false [
 ao 33 (.bin .lss (.t 32) (.t 31))] [2,5,8,31,32,33]) (.seq (.cond (.t 33) (.skip) (.exit 0)) (.seq (.block 1 (.seq (.region false [
 ao 34 (.mv (.t 32)),
 ao 9 (.mv (.t 34))] [2,5,8,9,31,32]) (.seq (.region true (spl [
 ao 35 (.mv (.t 9)),
 ap 36 (.call 42 [(.t 35)]) [0],
 ap 37 (.len (.t 36)) [1,0],
 ao 38 (.faddr 2 (.t 2)),
 ap 39 (.load none (.t 38)) [3]] [
 ap 40 (.bin .leq (.t 37) (.t 39)) [2,4,1,0,3]]) [2,5,8,9,31,32,40]) (.cond (.t 40) (.region false [
 ao 41 (.mv (.t 8)),
 ao 42 (.mv (.t 8)),
 ao 43 (.nilck (.t 42)),
 ao 44 (.faddr 5 (.t 43)),
 ao 45 (.load none (.t 44)),
 ao 46 (.mv (.t 9)),
 ao 47 (.lit [(i64 0)] 1 [(0,(.t 46))]),
 ao 48 (.app 1 8 (.t 45) (.t 47)),
 ao 49 (.nilck (.t 41)),
 ao 50 (.faddr 5 (.t 49)),
 ⟨none, .store 1 (.t 50) (.t 48),none,[],[]⟩] [2,5,8,31,32]) (.skip))))) (.region false [
 ao 51 (.bin .add (.t 32) (.c (i64 1))),
 ao 32 (.mv (.t 51))] [2,5,8,31,32])))
def b26l0:AC:= .loop [2,5,8,31,32] [32,80,133,400,432] d26l0
@[simp] def d26l1:AC:=
 .seq (.region false [
 ao 64 (.bin .lss (.t 63) (.t 62))] [2,5,8,10,61,62,63,64]) (.seq (.cond (.t 64) (.skip) (.exit 2)) (.seq (.block 3 (.seq (.region false [
 ao 65 (.mv (.t 63)),
 ao 66 (.idxs 3 (.t 61) (.t 63)),
 ao 67 (.load (some 3) (.t 66)),
 ao 12 (.alloc [(i64 0),(i64 0),(.bool false)]),
 ao 11 (.mv (.t 65)),
 ⟨none, .store 3 (.t 12) (.t 67),none,[],[]⟩] [2,5,8,10,11,12,61,62,63]) (.seq (.region false [
 ao 68 (.faddr 2 (.t 12)),
 ao 69 (.load none (.t 68))] [2,5,8,10,11,61,62,63,69]) (.cond (.t 69) (.region true (spl [
 ao 70 (.faddr 1 (.t 10)),
 ap 71 (.load none (.t 70)) [0],
 ao 72 (.mv (.t 11)),
 ap 73 (.bin .shl (.c (i64 1)) (.t 72)) [2]] [
 ap 74 (.bin .or (.t 71) (.t 73)) [1,3,0,2],
 ap 75 (.faddr 1 (.t 10)) [4,1,3,0,2],
 ⟨none, .store 1 (.t 75) (.t 74),none,[5,4,1,3,0,2],[]⟩]) [2,5,8,10,61,62,63]) (.skip))))) (.region false [
 ao 76 (.bin .add (.t 63) (.c (i64 1))),
 ao 63 (.mv (.t 76))] [2,5,8,10,61,62,63])))
def b26l1:AC:= .loop [2,5,8,10,61,62,63] [32,80,160,400,432] d26l1
@[simp] def d26l2:AC:=
 .seq (.region false [
 ao 81 (.bin .lss (.t 80) (.t 79))] [5,8,10,78,79,80,81]) (.seq (.cond (.t 81) (.skip) (.exit 4)) (.seq (.block 5 (.seq (.region false [
 ao 82 (.mv (.t 80)),
 ao 83 (.idxs 2 (.t 78) (.t 80)),
 ao 84 (.load (some 2) (.t 83)),
 ao 14 (.alloc [(i64 0),(i64 0)]),
 ao 13 (.mv (.t 82)),
 ⟨none, .store 2 (.t 14) (.t 84),none,[],[]⟩] [5,8,10,13,14,78,79,80]) (.region false [
 ao 85 (.mv (.t 13)),
 ao 86 (.faddr 0 (.t 14)),
 ao 87 (.load none (.t 86)),
 ao 88 (.faddr 2 (.t 10)),
 ao 89 (.idxa 3 1 (.t 88) (.t 85)),
 ⟨none, .store 1 (.t 89) (.t 87),none,[],[]⟩] [5,8,10,78,79,80]))) (.region false [
 ao 90 (.bin .add (.t 80) (.c (i64 1))),
 ao 80 (.mv (.t 90))] [5,8,10,78,79,80])))
def b26l2:AC:= .loop [5,8,10,78,79,80] [32,80,160,400,432] d26l2
def b26:AC:=
 .seq (.region false [
 ao 2 (.box (.t 0)),
 ao 4 (.mv (.c .nilp)),
 ao 5 (.alloc [(i64 0),(i64 0),(i64 0),(i64 0),(i64 0)]),
 ao 6 (.mv (.c (i64 0)))] [1,2,5]) (.seq (.seq (.region false [
 ao 15 (.load (some 5) (.t 2)),
 ao 16 (.call 41 [(.t 15)]),
 ao 7 (.mv (.t 16))] [1,2,5,7]) (.seq (.region false [
 ao 17 (.mv (.t 7)),
 ao 18 (.bin .neq (.t 17) (.c (i64 0)))] [1,2,5,7,18]) (.cond (.t 18) (.seq (.region false [
 ao 19 (.build [(i64 0),(i64 0),(i64 0),(i64 0),(i64 0)] []),
 ao 20 (.mv (.t 7)),
 ao 4 (.mv (.c .nilp)),
 ⟨none, .store 5 (.t 5) (.t 19),none,[],[]⟩,
 ao 6 (.mv (.t 20))] [4,5,6]) (.ret)) (.skip)))) (.seq (.seq (.region false [
 ao 21 (.mv (.t 1)),
 ao 22 (.un .not (.t 21))] [2,5,22]) (.cond (.t 22) (.seq (.region false [
 ao 23 (.build [(i64 0),(i64 0),(i64 0),(i64 0),(i64 0)] []),
 ao 4 (.mv (.c .nilp)),
 ⟨none, .store 5 (.t 5) (.t 23),none,[],[]⟩,
 ao 6 (.mv (.c (i64 1)))] [4,5,6]) (.ret)) (.skip))) (.seq (.region false [
 ao 24 (.load (some 5) (.t 2)),
 ao 25 (.mkmap (some 5)),
 ao 26 (.build [(i64 0),(i64 0),(i64 0),(.sl .full 3 []),(.sl .full 2 []),(.sl .full 1 []),(.mp .nilp)] [(0,5,(.t 24)),(6,1,(.t 25))]),
 ao 27 (.box (.t 26)),
 ao 8 (.mv (.t 27))] [2,5,8]) (.seq (.seq (.region false [
 ao 28 (.faddr 3 (.t 2)),
 ao 29 (.load none (.t 28)),
 ao 30 (.len (.t 29)),
 ao 31 (.bin .shl (.c (i64 1)) (.t 30)),
 ao 32 (.mv (.c (i64 0)))] [2,5,8,31,32]) (.block 0 (.seq (.thawc 8 5 133 101) (b26l0)))) (.seq (.region false [
 ao 52 (.mv (.t 8)),
 ao 53 (.nilck (.t 52)),
 ao 54 (.faddr 5 (.t 53)),
 ao 55 (.load none (.t 54)),
 ao 56 (.call 43 [(.t 55),(.c (.fn 44 [] []))])] [2,5,8]) (.seq (.seq (.freeze [133]) (.region false [
 ao 57 (.faddr 1 (.t 2)),
 ao 58 (.load none (.t 57)),
 ao 59 (.build [(i64 0),(i64 0),(i64 0),(i64 0),(i64 0)] [(0,1,(.t 58))]),
 ao 10 (.alloc [(i64 0),(i64 0),(i64 0),(i64 0),(i64 0)]),
 ⟨none, .store 5 (.t 10) (.t 59),none,[],[]⟩] [2,5,8,10])) (.seq (.seq (.region false [
 ao 60 (.faddr 3 (.t 2)),
 ao 61 (.load none (.t 60)),
 ao 62 (.len (.t 61)),
 ao 63 (.mv (.c (i64 0)))] [2,5,8,10,61,62,63]) (.block 2 (b26l1))) (.seq (.seq (.region false [
 ao 77 (.faddr 4 (.t 2)),
 ao 78 (.load none (.t 77)),
 ao 79 (.len (.t 78)),
 ao 80 (.mv (.c (i64 0)))] [5,8,10,78,79,80]) (.block 4 (b26l2))) (.seq (.region true (spl [
 ao 91 (.mv (.t 8)),
 ao 92 (.load (some 5) (.t 10)),
 ap 4 (.mv (.t 91)) [0]] [
 ⟨none, .store 5 (.t 5) (.t 92),none,[1,2,0],[]⟩,
 ap 6 (.mv (.c (i64 0))) [3,1,2,0]]) [4,5,6]) (.ret))))))))))
def a26:AFn:=⟨2,[.t 4, .cell 5 (some 5), .t 6],b26,false⟩
def n26:Ann:=⟨[[1,2,5],[1,2,5,7],[1,2,5,7,18],[4,5,6],[2,5,22],[4,5,6],[2,5,8],[2,5,8,31,32],[2,5,8,31,32,33],[2,5,8,9,31,32],[2,5,8,9,31,32,40],[2,5,8,31,32],[2,5,8,31,32],[2,5,8],[2,5,8,10],[2,5,8,10,61,62,63],[2,5,8,10,61,62,63,64],[2,5,8,10,11,12,61,62,63],[2,5,8,10,11,61,62,63,69],[2,5,8,10,61,62,63],[2,5,8,10,61,62,63],[5,8,10,78,79,80],[5,8,10,78,79,80,81],[5,8,10,13,14,78,79,80],[5,8,10,78,79,80],[5,8,10,78,79,80],[4,5,6]],[⟨[.c 8 5 133 101],[2,5,8,31,32],[32,80,133,400,432]⟩,⟨[],[2,5,8,10,61,62,63],[32,80,160,400,432]⟩,⟨[],[5,8,10,78,79,80],[32,80,160,400,432]⟩],[],[[],[],[],[],[],[],[],[],[],[],[],[],[],[],[133],[],[],[],[],[],[],[],[],[],[],[],[]],[],false,[(4,432),(91,432),(52,432),(42,432),(41,432),(8,432),(6,256),(20,256),(17,256),(7,256)]⟩
@[simp] def d27l0:AC:=
 .seq (.region false [
 ao 34 (.bin .lss (.t 33) (.t 32))] [0,3,7,31,32,33,34]) (.seq (.cond (.t 34) (.skip) (.exit 0)) (.seq (.block 1 (.seq (.region false [
 ao 35 (.idxs 1 (.t 31) (.t 33)),
 ao 36 (.load none (.t 35)),
 ao 9 (.mv (.t 36))] [0,3,7,9,31,32,33]) (.region false [
 ao 37 (.mv (.t 7)),
 ao 38 (.mv (.t 0)),
 ao 39 (.load (some 5) (.t 3)),
 ao 40 (.mv (.t 9)),
 ao 41 (.call 48 [(.t 38),(.t 39),(.t 40)]),
 ao 42 (.mm true (.t 37) (.t 41)),
 ao 7 (.mv (.t 42))] [0,3,7,31,32,33]))) (.region false [
 ao 43 (.bin .add (.t 33) (.c (i64 1))),
 ao 33 (.mv (.t 43))] [0,3,7,31,32,33])))
def b27l0:AC:= .loop [0,3,7,31,32,33] [48,256] d27l0
def b27:AC:=
 .seq (.region false [
 ao 3 (.box (.t 1)),
 ao 4 (.mv (.c (i64 0)))] [0,3]) (.seq (.seq (.region false [
 ao 10 (.faddr 0 (.t 3)),
 ao 11 (.load none (.t 10)),
 ao 12 (.bin .eql (.t 11) (.c (i64 0)))] [0,3,12]) (.cond (.t 12) (.seq (.region false [
 ao 13 (.mv (.t 0)),
 ao 14 (.faddr 2 (.t 3)),
 ao 15 (.load (some 3) (.t 14)),
 ao 16 (.call 47 [(.t 13),(.t 15)]),
 ao 4 (.mv (.t 16))] [4]) (.ret)) (.skip))) (.seq (.seq (.region true (spl [
 ao 18 (.mv (.t 0)),
 ap 19 (.nilck (.t 18)) [0],
 ap 20 (.faddr 6 (.t 19)) [1,0],
 ap 21 (.load none (.t 20)) [2,1,0],
 ao 22 (.load (some 5) (.t 3)),
 ap 23 (.mget (some 5) true (.t 21) (.t 22)) [3,4,2,1,0],
 ap 17 (.mv (.t 23)) [5,3,4,2,1,0],
 ap 24 (.ext (.t 17) 0) [6,5,3,4,2,1,0],
 ap 25 (.ext (.t 17) 1) [6,5,3,4,2,1,0],
 ap 5 (.mv (.t 24)) [7,6,5,3,4,2,1,0]] [
 ap 6 (.mv (.t 25)) [8,9,7,6,5,3,4,2,1,0]]) [0,3,5,6]) (.seq (.region false [
 ao 26 (.mv (.t 6))] [0,3,5,26]) (.cond (.t 26) (.seq (.region false [
 ao 27 (.mv (.t 5)),
 ao 4 (.mv (.t 27))] [4]) (.ret)) (.skip)))) (.seq (.region false [
 ao 7 (.mv (.c (i64 0)))] [0,3,7]) (.seq (.seq (.region false [
 ao 28 (.mv (.t 0)),
 ao 29 (.nilck (.t 28)),
 ao 30 (.faddr 5 (.t 29)),
 ao 31 (.load none (.t 30)),
 ao 32 (.len (.t 31)),
 ao 33 (.mv (.c (i64 0)))] [0,3,7,31,32,33]) (.block 0 (b27l0))) (.seq (.region true (spl [
 ao 44 (.mv (.t 0)),
 ap 45 (.nilck (.t 44)) [0],
 ap 46 (.faddr 6 (.t 45)) [1,0],
 ap 47 (.load none (.t 46)) [2,1,0],
 ao 48 (.load (some 5) (.t 3)),
 ao 49 (.mv (.t 7))] [
 ⟨none, .mput (some 5) (.t 47) (.t 48) (.t 49),none,[3,4,5,2,1,0],[]⟩]) [7]) (.seq (.region false [
 ao 50 (.mv (.t 7)),
 ao 4 (.mv (.t 50))] [4]) (.ret)))))))
def a27:AFn:=⟨2,[.t 4],b27,false⟩
def n27:Ann:=⟨[[0,3],[0,3,12],[4],[0,3,5,6],[0,3,5,26],[4],[0,3,7],[0,3,7,31,32,33],[0,3,7,31,32,33,34],[0,3,7,9,31,32,33],[0,3,7,31,32,33],[0,3,7,31,32,33],[7],[4]],[⟨[],[0,3,7,31,32,33],[48,256]⟩],[],[],[],false,[(4,256)]⟩
def b28:AC:=
 .seq (.region false [
 ao 6 (.mv (.c (.bool false)))] [0,1,2]) (.seq (.region false [
 ao 7 (.mv (.t 0)),
 ao 8 (.mv (.t 1)),
 ao 9 (.bin .geq (.t 7) (.t 8)),
 ao 10 (.mv (.t 9)),
 ag 11 (.mv (.t 0)) 10 true [],
 ag 12 (.mv (.t 2)) 10 true [],
 ag 13 (.bin .leq (.t 11) (.t 12)) 10 true [],
 ao 14 (.pick (.t 10) (.t 13) (.c (.bool false))),
 ao 6 (.mv (.t 14))] [6]) (.ret))
def a28:AFn:=⟨3,[.t 6],b28,false⟩
def n28:Ann:=⟨[[0,1,2],[6]],[],[],[],[],false,[]⟩
def b29l1:AC:=
 .region false [
 ao 9 (.alloc [(i64 0),(i64 0),(i64 0),(i64 0),(i64 0)]),
 ⟨none, .store 5 (.t 9) (.t 35),none,[],[]⟩] [3,4,5,6,9,25,26,27]
def b29l2:AC:=
 .block 3 (.seq (.region false [
 ao 36 (.load none (.t 3)),
 ao 37 (.load (some 5) (.t 9)),
 ao 38 (.load none (.t 5)),
 ao 39 (.call 29 [(.t 36),(.t 37),(.t 38)])] [3,4,5,6,25,26,27,39]) (.cond (.t 39) (.seq (.region false [
 ⟨none, .store 1 (.t 6) (.c (.bool true)),none,[],[]⟩] [6]) (.ret)) (.skip)))
@[simp] def d29l0:AC:=
 .seq (.region false [
 ao 28 (.bin .lss (.t 27) (.t 26))] [3,4,5,6,25,26,27,28]) (.seq (.cond (.t 28) (.skip) (.exit 0)) (.seq (.block 1 (.seq (.region false [
 ao 29 (.idxs 1 (.t 25) (.t 27)),
 ao 30 (.load none (.t 29)),
 ao 8 (.mv (.t 30))] [3,4,5,6,8,25,26,27]) (.seq (.region false [
 ao 31 (.load none (.t 3)),
 ao 32 (.load (some 5) (.t 4)),
 ao 33 (.mv (.t 8)),
 ao 34 (.call 49 [(.t 31),(.t 32),(.t 33)])] [3,4,5,6,25,26,27,34]) (.block 2 (.rng 464 [35] b29l1 b29l2 (.t 34)))))) (.region false [
 ao 40 (.bin .add (.t 27) (.c (i64 1))),
 ao 27 (.mv (.t 40))] [3,4,5,6,25,26,27])))
def b29l0:AC:= .loop [3,4,5,6,25,26,27] [48,64,80,96,256] d29l0
def b29:AC:=
 .seq (.region false [
 ao 3 (.box (.t 0)),
 ao 4 (.box (.t 1)),
 ao 5 (.box (.t 2)),
 ao 6 (.alloc [(.bool false)])] [3,4,5,6]) (.seq (.seq (.region false [
 ao 10 (.faddr 0 (.t 4)),
 ao 11 (.load none (.t 10)),
 ao 12 (.bin .eql (.t 11) (.c (i64 0)))] [3,4,5,6,12]) (.cond (.t 12) (.seq (.region false [
 ao 13 (.load none (.t 3)),
 ao 14 (.faddr 2 (.t 4)),
 ao 15 (.load (some 3) (.t 14)),
 ao 16 (.call 47 [(.t 13),(.t 15)]),
 ao 17 (.bin .gtr (.t 16) (.c (i64 0))),
 ⟨none, .store 1 (.t 6) (.t 17),none,[],[]⟩] [6]) (.ret)) (.skip))) (.seq (.seq (.region false [
 ao 18 (.load none (.t 5)),
 ao 19 (.load (some 5) (.t 4)),
 ao 20 (.mget (some 5) false (.t 18) (.t 19)),
 ao 21 (.bin .gtr (.t 20) (.c (i64 0)))] [3,4,5,6,21]) (.cond (.t 21) (.seq (.region false [
 ⟨none, .store 1 (.t 6) (.c (.bool false)),none,[],[]⟩] [6]) (.ret)) (.skip))) (.seq (.seq (.region false [
 ao 22 (.load none (.t 3)),
 ao 23 (.nilck (.t 22)),
 ao 24 (.faddr 5 (.t 23)),
 ao 25 (.load none (.t 24)),
 ao 26 (.len (.t 25)),
 ao 27 (.mv (.c (i64 0)))] [3,4,5,6,25,26,27]) (.block 0 (b29l0))) (.seq (.region true (spl [
 ao 41 (.load none (.t 5)),
 ao 42 (.load (some 5) (.t 4)),
 ⟨(some 43), .mget (some 5) false (.t 41) (.t 42),none,[0,1],[999999]⟩,
 ⟨(some 44), .bin .add (.t 43) (.c (i64 1)),none,[2,0,1],[999999]⟩,
 ap 45 (.ment (some 5) (.t 41) (.t 42)) [0,1],
 ap 46 (.ext (.t 45) 1) [4,0,1]] [
 ⟨none, .mest (.t 41) (.t 46) (.t 44),none,[3,5,2,4,0,1],[]⟩]) [6]) (.seq (.region false [
 ⟨none, .store 1 (.t 6) (.c (.bool false)),none,[],[]⟩] [6]) (.ret))))))
def a29:AFn:=⟨3,[.cell 6 none],b29,false⟩
def n29:Ann:=⟨[[3,4,5,6],[3,4,5,6,12],[6],[3,4,5,6,21],[6],[3,4,5,6,25,26,27],[3,4,5,6,25,26,27,28],[3,4,5,6,8,25,26,27],[3,4,5,6,25,26,27,34],[3,4,5,6,9,25,26,27],[3,4,5,6,25,26,27,39],[6],[3,4,5,6,25,26,27],[6],[6]],[⟨[],[3,4,5,6,25,26,27],[48,64,80,96,256]⟩],[464],[],[],false,[(2000045,999999)]⟩
def b30:AC:=
 .seq (.region false [
 ao 6 (.mv (.c (.bool false)))] [0,1,2]) (.seq (.region false [
 ao 7 (.mv (.t 1)),
 ao 8 (.mv (.t 0)),
 ao 9 (.bin .leq (.t 7) (.t 8)),
 ao 10 (.mv (.t 9)),
 ag 11 (.mv (.t 0)) 10 true [],
 ag 12 (.mv (.t 2)) 10 true [],
 ag 13 (.bin .leq (.t 11) (.t 12)) 10 true [],
 ao 14 (.pick (.t 10) (.t 13) (.c (.bool false))),
 ao 6 (.mv (.t 14))] [6]) (.ret))
def a30:AFn:=⟨3,[.t 6],b30,false⟩
def n30:Ann:=⟨[[0,1,2],[6]],[],[],[],[],false,[]⟩
@[simp] def d31l0:AC:=
 .seq (.seq (.region false [
 ao 10 (.mv (.t 6)),
 ao 11 (.mv (.t 1)),
 ao 12 (.len (.t 11)),
 ao 13 (.bin .lss (.t 10) (.t 12))] [1,4,5,6,13]) (.cond (.t 13) (.skip) (.exit 0))) (.seq (.block 1 (.seq (.region true (spl [
 ao 16 (.faddr 3 (.t 5)),
 ap 17 (.load none (.t 16)) [0],
 ao 18 (.mv (.t 1)),
 ao 19 (.mv (.t 6)),
 ap 20 (.idxs 1 (.t 18) (.t 19)) [2,3],
 ap 21 (.load none (.t 20)) [4,2,3],
 ap 22 (.idxs 3 (.t 17) (.t 21)) [1,5,0,4,2,3],
 ap 23 (.load (some 3) (.t 22)) [6,1,5,0,4,2,3],
 ao 7 (.alloc [(i64 0),(i64 0),(.bool false)])] [
 ⟨none, .store 3 (.t 7) (.t 23),none,[7,8,6,1,5,0,4,2,3],[]⟩]) [1,4,5,6,7]) (.seq (.region false [
 ao 24 (.faddr 2 (.t 7)),
 ao 25 (.load none (.t 24)),
 ao 26 (.un .not (.t 25)),
 ao 27 (.faddr 2 (.t 7)),
 ⟨none, .store 1 (.t 27) (.t 26),none,[],[]⟩] [1,4,5,6,7]) (.region true (spl [
 ao 28 (.faddr 3 (.t 5)),
 ap 29 (.load none (.t 28)) [0],
 ao 30 (.mv (.t 1)),
 ao 31 (.mv (.t 6)),
 ap 32 (.idxs 1 (.t 30) (.t 31)) [2,3],
 ap 33 (.load none (.t 32)) [4,2,3],
 ao 34 (.load (some 3) (.t 7))] [
 ap 35 (.idxs 3 (.t 29) (.t 33)) [1,5,6,0,4,2,3],
 ⟨none, .store 3 (.t 35) (.t 34),none,[7,1,5,6,0,4,2,3],[]⟩]) [1,4,5,6])))) (.region false [
 ao 14 (.mv (.t 6)),
 ao 15 (.bin .add (.t 14) (.c (i64 1))),
 ao 6 (.mv (.t 15))] [1,4,5,6]))
def b31l0:AC:= .loop [1,4,5,6] [32,64,80,144,1144] d31l0
def b31:AC:=
 .seq (.region false [
 ao 2 (.box (.t 0)),
 ao 4 (.alloc [(i64 0),(i64 0),(i64 0),(.sl .full 3 []),(.sl .full 2 [])])] [1,2,4]) (.seq (.region false [
 ao 8 (.load (some 5) (.t 2)),
 ao 9 (.call 50 [(.t 8)]),
 ao 5 (.alloc [(i64 0),(i64 0),(i64 0),(.sl .full 3 []),(.sl .full 2 [])]),
 ⟨none, .store 5 (.t 5) (.t 9),none,[],[]⟩] [1,4,5]) (.seq (.seq (.region false [
 ao 6 (.mv (.c (i64 0)))] [1,4,5,6]) (.block 0 (b31l0))) (.seq (.region false [
 ao 36 (.load (some 5) (.t 5)),
 ⟨none, .store 5 (.t 4) (.t 36),none,[],[]⟩] [4]) (.ret))))
def a31:AFn:=⟨2,[.cell 4 (some 5)],b31,false⟩
def n31:Ann:=⟨[[1,2,4],[1,4,5],[1,4,5,6],[1,4,5,6,13],[1,4,5,6,7],[1,4,5,6,7],[1,4,5,6],[1,4,5,6],[4]],[⟨[],[1,4,5,6],[32,64,80,144,1144]⟩],[],[],[],false,[]⟩
def b32:AC:=
 .seq (.region false [
 ao 3 (.mv (.c (.bool false)))] [0,1]) (.seq (.region false [
 ao 4 (.load (some 6) (.t 1)),
 ao 5 (.mv (.t 0)),
 ao 6 (.call 24 [(.t 4),(.t 5)]),
 ao 3 (.mv (.t 6))] [3]) (.ret))
def a32:AFn:=⟨2,[.t 3],b32,false⟩
def n32:Ann:=⟨[[0,1],[3]],[],[],[],[],false,[(3,96)]⟩
def b33:AC:=
 .seq (.region false [
 ao 2 (.box (.t 0)),
 ao 3 (.mv (.c (.bool false)))] [1,2]) (.seq (.region false [
 ao 4 (.load (some 6) (.t 1)),
 ao 5 (.faddr 0 (.t 2)),
 ao 6 (.load none (.t 5)),
 ao 7 (.call 24 [(.t 4),(.t 6)]),
 ao 8 (.un .not (.t 7)),
 ao 9 (.mv (.t 8)),
 ag 10 (.load (some 6) (.t 1)) 9 false [],
 ag 11 (.faddr 1 (.t 2)) 9 false [],
 ag 12 (.load none (.t 11)) 9 false [],
 ag 13 (.call 34 [(.t 10),(.t 12)]) 9 false [],
 ag 14 (.un .not (.t 13)) 9 false [],
 ao 15 (.pick (.t 9) (.c (.bool true)) (.t 14)),
 ao 16 (.mv (.t 15)),
 ag 17 (.faddr 0 (.t 2)) 16 false [],
 ag 18 (.load none (.t 17)) 16 false [],
 ag 19 (.faddr 1 (.t 2)) 16 false [],
 ag 20 (.load none (.t 19)) 16 false [],
 ag 21 (.bin .eql (.t 18) (.t 20)) 16 false [],
 ao 22 (.pick (.t 16) (.c (.bool true)) (.t 21)),
 ao 23 (.mv (.t 22)),
 ag 24 (.faddr 2 (.t 2)) 23 false [],
 ag 25 (.load none (.t 24)) 23 false [],
 ag 26 (.call 35 [(.t 25),(.c (i64 0)),(.c (i64 20))]) 23 false [],
 ag 27 (.un .not (.t 26)) 23 false [],
 ao 28 (.pick (.t 23) (.c (.bool true)) (.t 27)),
 ao 3 (.mv (.t 28))] [3]) (.ret))
def a33:AFn:=⟨2,[.t 3],b33,false⟩
def n33:Ann:=⟨[[1,2],[3]],[],[],[],[],false,[]⟩
def b34:AC:=
 .seq (.region false [
 ao 2 (.box (.t 0)),
 ao 4 (.mv (.c (.bool false)))] [1,2]) (.seq (.region false [
 ao 5 (.mv (.t 1)),
 ao 6 (.bin .eql (.t 5) (.c (i64 (-1)))),
 ao 7 (.mv (.t 6)),
 ag 8 (.load (some 6) (.t 2)) 7 false [],
 ag 9 (.mv (.t 1)) 7 false [],
 ag 10 (.call 24 [(.t 8),(.t 9)]) 7 false [],
 ao 11 (.pick (.t 7) (.c (.bool true)) (.t 10)),
 ao 4 (.mv (.t 11))] [4]) (.ret))
def a34:AFn:=⟨2,[.t 4],b34,false⟩
def n34:Ann:=⟨[[1,2],[4]],[],[],[],[],false,[]⟩
def b35:AC:=
 .seq (.region false [
 ao 6 (.mv (.c (.bool false)))] [0,1,2]) (.seq (.region false [
 ao 7 (.mv (.t 0)),
 ao 8 (.mv (.t 1)),
 ao 9 (.bin .geq (.t 7) (.t 8)),
 ao 10 (.mv (.t 9)),
 ag 11 (.mv (.t 0)) 10 true [],
 ag 12 (.mv (.t 2)) 10 true [],
 ag 13 (.bin .leq (.t 11) (.t 12)) 10 true [],
 ao 14 (.pick (.t 10) (.t 13) (.c (.bool false))),
 ao 6 (.mv (.t 14))] [6]) (.ret))
def a35:AFn:=⟨3,[.t 6],b35,false⟩
def n35:Ann:=⟨[[0,1,2],[6]],[],[],[],[],false,[]⟩
def b36:AC:=
 .seq (.region false [
 ao 4 (.mv (.c (.bool false)))] [0,1]) (.seq (.region false [
 ao 5 (.mv (.t 0)),
 ao 6 (.mv (.t 1)),
 ao 7 (.call 51 [(.t 5),(.t 6)]),
 ao 8 (.bin .geq (.t 7) (.c (i64 0))),
 ao 4 (.mv (.t 8))] [4]) (.ret))
def a36:AFn:=⟨2,[.t 4],b36,false⟩
def n36:Ann:=⟨[[0,1],[4]],[],[],[],[],false,[]⟩
@[simp] def d37l0:AC:=
 .seq (.region false [
 ao 10 (.bin .lss (.t 9) (.t 8))] [0,1,7,8,9,10]) (.seq (.cond (.t 10) (.skip) (.exit 0)) (.seq (.block 1 (.seq (.region false [
 ao 11 (.mv (.t 9)),
 ao 12 (.idxs 1 (.t 7) (.t 9)),
 ao 13 (.load none (.t 12)),
 ao 5 (.mv (.t 11)),
 ao 6 (.mv (.t 13))] [0,1,5,6,7,8,9]) (.seq (.region false [
 ao 14 (.mv (.t 1)),
 ao 15 (.mv (.t 6)),
 ao 16 (.callv (.t 14) [(.t 15)]),
 ao 17 (.un .not (.t 16)),
 ao 18 (.mv (.t 17)),
 ag 19 (.mv (.t 5)) 18 false [],
 ag 20 (.bin .gtr (.t 19) (.c (i64 0))) 18 false [],
 ag 21 (.mv (.t 20)) 18 false [],
 ag 22 (.mv (.t 0)) 21 true [],
 ag 23 (.mv (.t 5)) 21 true [],
 ag 24 (.bin .sub (.t 23) (.c (i64 1))) 21 true [],
 ag 25 (.idxs 1 (.t 22) (.t 24)) 21 true [],
 ag 26 (.load none (.t 25)) 21 true [],
 ag 27 (.mv (.t 6)) 21 true [],
 ag 28 (.bin .geq (.t 26) (.t 27)) 21 true [],
 ag 29 (.pick (.t 21) (.t 28) (.c (.bool false))) 18 false [],
 ao 30 (.pick (.t 18) (.c (.bool true)) (.t 29))] [0,1,7,8,9,30]) (.cond (.t 30) (.seq (.region false [
 ao 4 (.mv (.c (.bool false)))] [4]) (.ret)) (.skip))))) (.region false [
 ao 31 (.bin .add (.t 9) (.c (i64 1))),
 ao 9 (.mv (.t 31))] [0,1,7,8,9])))
def b37l0:AC:= .loop [0,1,7,8,9] [] d37l0
def b37:AC:=
 .seq (.region false [
 ao 4 (.mv (.c (.bool false)))] [0,1]) (.seq (.seq (.region false [
 ao 7 (.mv (.t 0)),
 ao 8 (.len (.t 7)),
 ao 9 (.mv (.c (i64 0)))] [0,1,7,8,9]) (.block 0 (b37l0))) (.seq (.region false [
 ao 4 (.mv (.c (.bool true)))] [4]) (.ret)))
def a37:AFn:=⟨2,[.t 4],b37,false⟩
def n37:Ann:=⟨[[0,1],[0,1,7,8,9],[0,1,7,8,9,10],[0,1,5,6,7,8,9],[0,1,7,8,9,30],[4],[0,1,7,8,9],[4]],[⟨[],[0,1,7,8,9],[]⟩],[],[],[],false,[]⟩
def b38l2:AC:=
 .seq (.region false [
 ao 8 (.alloc [(i64 0),(i64 0)]),
 ⟨none, .store 2 (.t 8) (.t 30),none,[],[]⟩] [2,5,6,7,8,31]) (.region false [
 ao 9 (.mv (.t 31))] [2,5,6,7,8,9])
def b38l3:AC:=
 .block 5 (.seq (.region false [
 ao 32 (.load none (.t 5)),
 ao 33 (.load (some 2) (.t 8)),
 ao 34 (.mv (.t 9)),
 ao 35 (.call 53 [(.t 32),(.t 33),(.t 34)]),
 ao 10 (.alloc [(i64 0),(i64 0)]),
 ⟨none, .store 2 (.t 10) (.t 35),none,[],[]⟩] [2,5,6,7,10]) (.seq (.region true (spl [
 ao 36 (.load (some 2) (.t 10)),
 ao 37 (.load none (.t 5)),
 ao 38 (.load none (.t 7)),
 ap 39 (.call 39 [(.t 37),(.t 38)]) [1,2]] [
 ap 40 (.call 54 [(.t 36),(.t 39)]) [0,3,1,2]]) [2,5,6,7,10,40]) (.cond (.t 40) (.seq (.region true (spl [
 ao 41 (.load none (.t 5)),
 ap 42 (.nilck (.t 41)) [0],
 ap 43 (.faddr 7 (.t 42)) [1,0],
 ap 44 (.load none (.t 43)) [2,1,0],
 ao 45 (.load none (.t 7)),
 ao 46 (.load (some 2) (.t 10))] [
 ⟨none, .mqput (.t 44) (.t 45) (.t 46),none,[3,4,5,2,1,0],[]⟩]) [2,5,6,7]) (.region false [
 ⟨none, .store 1 (.t 6) (.c (.bool true)),none,[],[]⟩] [2,5,6,7])) (.skip))))
@[simp] def d38l1:AC:=
 .seq (.seq (.region true (spl [
 ao 19 (.load none (.t 7)),
 ao 20 (.faddr 0 (.t 2)),
 ap 21 (.load none (.t 20)) [1],
 ap 22 (.bin .add (.t 21) (.c (i64 1))) [2,1],
 ap 23 (.bin .shl (.c (.int .u8 1)) (.t 22)) [3,2,1]] [
 ap 24 (.bin .lss (.t 19) (.t 23)) [0,4,3,2,1]]) [2,5,6,7,24]) (.cond (.t 24) (.skip) (.exit 2))) (.seq (.block 3 (.seq (.region false [
 ao 27 (.load none (.t 5)),
 ao 28 (.load none (.t 7)),
 ao 29 (.call 52 [(.t 27),(.t 28)])] [2,5,6,7,29]) (.block 4 (.rng 608 [30,31] b38l2 b38l3 (.t 29))))) (.seq (.seq (.region false [
 ao 47 (.load none (.t 7))] [2,5,6,47]) (.seq (.freeze [2000112]) (.region false [
 ao 7 (.alloc [(.int .u8 0)]),
 ⟨none, .store 1 (.t 7) (.t 47),none,[],[]⟩] [2,5,6,7]))) (.region false [
 ao 25 (.load none (.t 7)),
 ao 26 (.bin .add (.t 25) (.c (.int .u8 1))),
 ⟨none, .store 1 (.t 7) (.t 26),none,[],[]⟩] [2,5,6,7])))
def b38l1:AC:= .loop [2,5,6,7] [32,80,96,112,208,272] d38l1
@[simp] def d38l0:AC:=
 .seq (.seq (.region false [
 ao 18 (.load none (.t 6))] [2,5,6,18]) (.cond (.t 18) (.skip) (.exit 0))) (.seq (.block 1 (.seq (.region false [
 ⟨none, .store 1 (.t 6) (.c (.bool false)),none,[],[]⟩] [2,5,6]) (.seq (.region false [
 ao 7 (.alloc [(.int .u8 0)]),
 ⟨none, .store 1 (.t 7) (.c (.int .u8 1)),none,[],[]⟩] [2,5,6,7]) (.block 2 (b38l1))))) (.seq (.region false [
 ao 48 (.load none (.t 6))] [2,5,48]) (.seq (.freeze [2000096]) (.region false [
 ao 6 (.alloc [(.bool false)]),
 ⟨none, .store 1 (.t 6) (.t 48),none,[],[]⟩] [2,5,6]))))
def b38l0:AC:= .loop [2,5,6] [32,80,96,208,272] d38l0
def b38:AC:=
 .seq (.region false [
 ao 2 (.box (.t 0)),
 ao 4 (.mv (.c .nilp))] [1,2]) (.seq (.region false [
 ao 11 (.load (some 6) (.t 2)),
 ao 12 (.mv (.t 1)),
 ao 13 (.mkmq),
 ao 14 (.build [(i64 0),(i64 0)] []),
 ⟨none, .mqput (.t 13) (.c (.int .u8 1)) (.t 14),none,[],[]⟩,
 ao 15 (.mv (.t 13)),
 ao 16 (.build [(i64 0),(.sl .full 3 []),(.sl .full 1 []),(i64 0),(i64 0),(.sl .full 1 []),(.bool false),(.mp .nilp)] [(0,6,(.t 11)),(6,1,(.t 12)),(7,1,(.t 15))]),
 ao 17 (.box (.t 16)),
 ao 5 (.alloc [.nilp]),
 ⟨none, .store 1 (.t 5) (.t 17),none,[],[]⟩] [2,5]) (.seq (.seq (.region false [
 ao 6 (.alloc [(.bool false)]),
 ⟨none, .store 1 (.t 6) (.c (.bool true)),none,[],[]⟩] [2,5,6]) (.block 0 (b38l0))) (.seq (.region false [
 ao 49 (.load none (.t 5)),
 ao 4 (.mv (.t 49))] [4]) (.ret))))
def a38:AFn:=⟨2,[.t 4],b38,false⟩
def n38:Ann:=⟨[[1,2],[2,5],[2,5,6],[2,5,6,18],[2,5,6],[2,5,6,7],[2,5,6,7,24],[2,5,6,7,29],[2,5,6,7,8,31],[2,5,6,7,8,9],[2,5,6,7,10],[2,5,6,7,10,40],[2,5,6,7],[2,5,6,7],[2,5,6,47],[2,5,6,7],[2,5,6,7],[2,5,48],[2,5,6],[4]],[⟨[],[2,5,6],[32,80,96,208,272]⟩,⟨[],[2,5,6,7],[32,80,96,112,208,272]⟩],[608],[[],[],[],[],[],[],[],[],[],[],[],[],[],[],[],[2000112],[],[],[2000096],[]],[],false,[]⟩
def b39:AC:=
 .seq (.region false [
 ao 4 (.alloc [(i64 0),(i64 0)])] [0,1,4]) (.seq (.seq (.region false [
 ao 8 (.mv (.t 0)),
 ao 9 (.nilck (.t 8)),
 ao 10 (.faddr 7 (.t 9)),
 ao 11 (.load none (.t 10)),
 ao 12 (.mv (.t 1)),
 ao 13 (.mqget true (.t 11) (.t 12)),
 ao 7 (.mv (.t 13)),
 ao 14 (.ext (.t 7) 0),
 ao 15 (.ext (.t 7) 1),
 ao 5 (.alloc [(i64 0),(i64 0)]),
 ⟨none, .store 2 (.t 5) (.t 14),none,[],[]⟩,
 ao 6 (.mv (.t 15))] [4,5,6]) (.seq (.region false [
 ao 16 (.mv (.t 6))] [4,5,16]) (.cond (.t 16) (.seq (.region false [
 ao 17 (.load (some 2) (.t 5)),
 ⟨none, .store 2 (.t 4) (.t 17),none,[],[]⟩] [4]) (.ret)) (.skip)))) (.seq (.region false [
 ao 18 (.mv (.c (.agg [(i64 1073741824),(i64 1073741824)]))),
 ⟨none, .store 2 (.t 4) (.t 18),none,[],[]⟩] [4]) (.ret)))
def a39:AFn:=⟨2,[.cell 4 (some 2)],b39,false⟩
def n39:Ann:=⟨[[0,1,4],[4,5,6],[4,5,16],[4],[4]],[],[],[],[],false,[]⟩
@[simp] def d40l0:AC:=
 .seq (.region false [
 ao 8 (.bin .lss (.t 7) (.t 6))] [2,5,6,7,8]) (.seq (.cond (.t 8) (.skip) (.exit 0)) (.seq (.block 1 (.seq (.region false [
 ao 9 (.idxs 1 (.t 5) (.t 7)),
 ao 10 (.load none (.t 9)),
 ao 4 (.mv (.t 10))] [2,4,5,6,7]) (.region false [
 ao 11 (.mv (.t 2)),
 ao 12 (.mv (.t 4)),
 ao 13 (.bin .add (.t 12) (.c (i64 1))),
 ao 14 (.bin .shl (.c (.int .u8 1)) (.t 13)),
 ao 15 (.bin .or (.t 11) (.t 14)),
 ao 2 (.mv (.t 15))] [2,5,6,7]))) (.region false [
 ao 16 (.bin .add (.t 7) (.c (i64 1))),
 ao 7 (.mv (.t 16))] [2,5,6,7])))
def b40l0:AC:= .loop [2,5,6,7] [] d40l0
def b40:AC:=
 .seq (.region false [
 ao 2 (.mv (.c (.int .u8 0)))] [0,2]) (.seq (.seq (.region false [
 ao 5 (.mv (.t 0)),
 ao 6 (.len (.t 5)),
 ao 7 (.mv (.c (i64 0)))] [2,5,6,7]) (.block 0 (b40l0))) (.seq (.region false [
 ao 17 (.mv (.t 2)),
 ao 2 (.mv (.t 17))] [2]) (.ret)))
def a40:AFn:=⟨1,[.t 2],b40,false⟩
def n40:Ann:=⟨[[0,2],[2,5,6,7],[2,5,6,7,8],[2,4,5,6,7],[2,5,6,7],[2,5,6,7],[2]],[⟨[],[2,5,6,7],[]⟩],[],[],[],false,[]⟩
def b41:AC:=
 .seq (.region false [
 ao 1 (.box (.t 0)),
 ao 2 (.mv (.c (i64 0)))] [1]) (.seq (.region false [
 ao 6 (.faddr 0 (.t 1)),
 ao 7 (.load none (.t 6)),
 ao 8 (.bin .sub (.t 7) (.c (i64 1))),
 ao 3 (.alloc [(i64 0)]),
 ⟨none, .store 1 (.t 3) (.t 8),none,[],[]⟩] [1,3]) (.seq (.region false [
 ao 9 (.mkfn 55 [] [(.t 3)]),
 ao 4 (.mv (.t 9))] [1,3,4]) (.seq (.region false [
 ao 10 (.mkfn 56 [] [(.t 3)]),
 ao 5 (.mv (.t 10))] [1,4,5]) (.seq (.seq (.region false [
 ao 11 (.faddr 0 (.t 1)),
 ao 12 (.load none (.t 11)),
 ao 13 (.call 28 [(.t 12),(.c (i64 1)),(.c (i64 4))]),
 ao 14 (.un .not (.t 13)),
 ao 15 (.mv (.t 14)),
 ag 16 (.faddr 1 (.t 1)) 15 false [],
 ag 17 (.load none (.t 16)) 15 false [],
 ag 18 (.call 28 [(.t 17),(.c (i64 0)),(.c (i64 4))]) 15 false [],
 ag 19 (.un .not (.t 18)) 15 false [],
 ao 20 (.pick (.t 15) (.c (.bool true)) (.t 19)),
 ao 21 (.mv (.t 20)),
 ag 22 (.faddr 2 (.t 1)) 21 false [],
 ag 23 (.load none (.t 22)) 21 false [],
 ag 24 (.call 28 [(.t 23),(.c (i64 0)),(.c (i64 3))]) 21 false [],
 ag 25 (.un .not (.t 24)) 21 false [],
 ao 26 (.pick (.t 21) (.c (.bool true)) (.t 25)),
 ao 27 (.mv (.t 26)),
 ag 28 (.faddr 3 (.t 1)) 27 false [],
 ag 29 (.load none (.t 28)) 27 false [],
 ag 30 (.len (.t 29)) 27 false [],
 ag 31 (.bin .gtr (.t 30) (.c (i64 5))) 27 false [],
 ao 32 (.pick (.t 27) (.c (.bool true)) (.t 31)),
 ao 33 (.mv (.t 32)),
 ag 34 (.faddr 3 (.t 1)) 33 false [],
 ag 35 (.load none (.t 34)) 33 false [],
 ag 36 (.mv (.t 4)) 33 false [],
 ag 37 (.call 57 [(.t 35),(.t 36)]) 33 false [],
 ao 38 (.pick (.t 33) (.c (.bool true)) (.t 37)),
 ao 39 (.mv (.t 38)),
 ag 40 (.faddr 4 (.t 1)) 39 false [],
 ag 41 (.load none (.t 40)) 39 false [],
 ag 42 (.len (.t 41)) 39 false [],
 ag 43 (.bin .gtr (.t 42) (.c (i64 3))) 39 false [],
 ao 44 (.pick (.t 39) (.c (.bool true)) (.t 43)),
 ao 45 (.mv (.t 44)),
 ag 46 (.faddr 4 (.t 1)) 45 false [],
 ag 47 (.load none (.t 46)) 45 false [],
 ag 48 (.mv (.t 5)) 45 false [],
 ag 49 (.call 58 [(.t 47),(.t 48)]) 45 false [],
 ao 50 (.pick (.t 45) (.c (.bool true)) (.t 49))] [50]) (.cond (.t 50) (.seq (.region false [
 ao 2 (.mv (.c (i64 30)))] [2]) (.ret)) (.skip))) (.seq (.region false [
 ao 2 (.mv (.c (i64 0)))] [2]) (.ret))))))
def a41:AFn:=⟨1,[.t 2],b41,false⟩
def n41:Ann:=⟨[[1],[1,3],[1,3,4],[1,4,5],[50],[2],[2]],[],[],[],[],false,[]⟩
@[simp] def d42l0:AC:=
 .seq (.seq (.region false [
 ao 5 (.mv (.t 0)),
 ao 6 (.mv (.t 4)),
 ao 7 (.bin .shr (.t 5) (.t 6)),
 ao 8 (.bin .gtr (.t 7) (.c (i64 0)))] [0,3,4,8]) (.cond (.t 8) (.skip) (.exit 0))) (.seq (.block 1 (.seq (.region false [
 ao 11 (.mv (.t 0)),
 ao 12 (.mv (.t 4)),
 ao 13 (.bin .shr (.t 11) (.t 12)),
 ao 14 (.bin .and (.t 13) (.c (i64 1))),
 ao 15 (.bin .eql (.t 14) (.c (i64 1)))] [0,3,4,15]) (.cond (.t 15) (.region false [
 ao 16 (.mv (.t 3)),
 ao 17 (.mv (.t 4)),
 ao 18 (.lit [(i64 0)] 1 [(0,(.t 17))]),
 ao 19 (.app 1 8 (.t 16) (.t 18)),
 ao 3 (.mv (.t 19))] [0,3,4]) (.skip)))) (.region false [
 ao 9 (.mv (.t 4)),
 ao 10 (.bin .add (.t 9) (.c (i64 1))),
 ao 4 (.mv (.t 10))] [0,3,4]))
def b42l0:AC:= .loop [0,3,4] [49] d42l0
def b42:AC:=
 .seq (.region false [
 ao 2 (.mv (.c (.sl .full 1 [])))] [0]) (.seq (.region false [
 ao 3 (.mv (.c (.sl .full 1 [])))] [0,3]) (.seq (.seq (.region false [
 ao 4 (.mv (.c (i64 0)))] [0,3,4]) (.block 0 (.seq (.thaw 3 49 1) (b42l0)))) (.seq (.region false [
 ao 20 (.mv (.t 3)),
 ao 2 (.mv (.t 20))] [2]) (.ret))))
def a42:AFn:=⟨1,[.t 2],b42,false⟩
def n42:Ann:=⟨[[0],[0,3],[0,3,4],[0,3,4,8],[0,3,4,15],[0,3,4],[0,3,4],[2]],[⟨[.t 3 49 1],[0,3,4],[49]⟩],[],[],[],false,[]⟩
def b44:AC:=
 .seq (.region false [
 ao 4 (.mv (.c (i64 0)))] [0,1]) (.seq (.region false [
 ao 7 (.mv (.t 0)),
 ao 8 (.call 42 [(.t 7)]),
 ao 9 (.mv (.t 1)),
 ao 10 (.call 42 [(.t 9)]),
 ao 5 (.mv (.t 8)),
 ao 6 (.mv (.t 10))] [5,6]) (.seq (.region false [
 ao 11 (.mv (.t 5)),
 ao 12 (.len (.t 11)),
 ao 13 (.mv (.t 6)),
 ao 14 (.len (.t 13)),
 ao 15 (.bin .sub (.t 12) (.t 14)),
 ao 16 (.mv (.t 5)),
 ao 17 (.mv (.t 6)),
 ao 18 (.call 46 [(.t 16),(.t 17)]),
 ao 19 (.lit [(i64 0)] 2 [(0,(.t 15)),(1,(.t 18))]),
 ao 20 (.call 45 [(.t 19)]),
 ao 4 (.mv (.t 20))] [4]) (.ret)))
def a44:AFn:=⟨2,[.t 4],b44,false⟩
def n44:Ann:=⟨[[0,1],[5,6],[4]],[],[],[],[],false,[(4,320),(17,160),(16,128),(13,160),(11,128),(6,160),(5,128)]⟩
@[simp] def d45l0:AC:=
 .seq (.region false [
 ao 9 (.bin .lss (.t 8) (.t 7))] [3,6,7,8,9]) (.seq (.cond (.t 9) (.skip) (.exit 0)) (.seq (.block 1 (.seq (.region false [
 ao 10 (.idxs 1 (.t 6) (.t 8)),
 ao 11 (.load none (.t 10)),
 ao 5 (.mv (.t 11))] [3,5,6,7,8]) (.seq (.region false [
 ao 12 (.mv (.t 5)),
 ao 13 (.mv (.t 3)),
 ao 14 (.bin .neq (.t 12) (.t 13))] [3,5,6,7,8,14]) (.cond (.t 14) (.seq (.region false [
 ao 15 (.mv (.t 5)),
 ao 2 (.mv (.t 15))] [2]) (.ret)) (.skip))))) (.region false [
 ao 16 (.bin .add (.t 8) (.c (i64 1))),
 ao 8 (.mv (.t 16))] [3,6,7,8])))
def b45l0:AC:= .loop [3,6,7,8] [] d45l0
def b45:AC:=
 .seq (.region false [
 ao 2 (.mv (.c (i64 0)))] [0]) (.seq (.region false [
 ao 3 (.mv (.c (i64 0)))] [0,3]) (.seq (.seq (.region false [
 ao 6 (.mv (.t 0)),
 ao 7 (.len (.t 6)),
 ao 8 (.mv (.c (i64 0)))] [3,6,7,8]) (.block 0 (b45l0))) (.seq (.region false [
 ao 17 (.mv (.t 3)),
 ao 2 (.mv (.t 17))] [2]) (.ret))))
def a45:AFn:=⟨1,[.t 2],b45,false⟩
def n45:Ann:=⟨[[0],[0,3],[3,6,7,8],[3,6,7,8,9],[3,5,6,7,8],[3,5,6,7,8,14],[2],[3,6,7,8],[2]],[⟨[],[3,6,7,8],[]⟩],[],[],[],false,[]⟩
@[simp] def d46l0:AC:=
 .seq (.region false [
 ao 12 (.bin .lss (.t 11) (.t 10))] [0,1,9,10,11,12]) (.seq (.cond (.t 12) (.skip) (.exit 0)) (.seq (.block 1 (.seq (.region false [
 ao 13 (.mv (.t 11)),
 ao 14 (.idxs 1 (.t 9) (.t 11)),
 ao 15 (.load none (.t 14)),
 ao 5 (.mv (.t 13)),
 ao 6 (.mv (.t 15))] [0,1,5,6,9,10,11]) (.seq (.seq (.region false [
 ao 16 (.mv (.t 5)),
 ao 17 (.mv (.t 1)),
 ao 18 (.len (.t 17)),
 ao 19 (.bin .geq (.t 16) (.t 18))] [0,1,5,6,9,10,11,19]) (.cond (.t 19) (.seq (.region false [
 ao 4 (.mv (.c (i64 1)))] [4]) (.ret)) (.skip))) (.seq (.region false [
 ao 20 (.mv (.t 1)),
 ao 21 (.mv (.t 5)),
 ao 22 (.idxs 1 (.t 20) (.t 21)),
 ao 23 (.load none (.t 22)),
 ao 7 (.mv (.t 23))] [0,1,6,7,9,10,11]) (.seq (.region false [
 ao 24 (.mv (.t 6)),
 ao 25 (.mv (.t 7)),
 ao 26 (.call 61 [(.t 24),(.t 25)]),
 ao 8 (.mv (.t 26))] [0,1,8,9,10,11]) (.seq (.region false [
 ao 27 (.mv (.t 8)),
 ao 28 (.bin .neq (.t 27) (.c (i64 0)))] [0,1,8,9,10,11,28]) (.cond (.t 28) (.seq (.region false [
 ao 29 (.mv (.t 8)),
 ao 4 (.mv (.t 29))] [4]) (.ret)) (.skip)))))))) (.region false [
 ao 30 (.bin .add (.t 11) (.c (i64 1))),
 ao 11 (.mv (.t 30))] [0,1,9,10,11])))
def b46l0:AC:= .loop [0,1,9,10,11] [] d46l0
def b46:AC:=
 .seq (.region false [
 ao 4 (.mv (.c (i64 0)))] [0,1]) (.seq (.seq (.region false [
 ao 9 (.mv (.t 0)),
 ao 10 (.len (.t 9)),
 ao 11 (.mv (.c (i64 0)))] [0,1,9,10,11]) (.block 0 (b46l0))) (.seq (.seq (.region false [
 ao 31 (.mv (.t 0)),
 ao 32 (.len (.t 31)),
 ao 33 (.mv (.t 1)),
 ao 34 (.len (.t 33)),
 ao 35 (.bin .lss (.t 32) (.t 34))] [35]) (.cond (.t 35) (.seq (.region false [
 ao 4 (.mv (.c (i64 (-1))))] [4]) (.ret)) (.skip))) (.seq (.region false [
 ao 4 (.mv (.c (i64 0)))] [4]) (.ret))))
def a46:AFn:=⟨2,[.t 4],b46,false⟩
def n46:Ann:=⟨[[0,1],[0,1,9,10,11],[0,1,9,10,11,12],[0,1,5,6,9,10,11],[0,1,5,6,9,10,11,19],[4],[0,1,6,7,9,10,11],[0,1,8,9,10,11],[0,1,8,9,10,11,28],[4],[0,1,9,10,11],[35],[4],[4]],[⟨[],[0,1,9,10,11],[]⟩],[],[],[],false,[(4,416),(29,416),(27,416),(8,416)]⟩
@[simp] def d47l0:AC:=
 .seq (.region false [
 ao 15 (.bin .lss (.t 14) (.t 13))] [0,3,5,12,13,14,15]) (.seq (.cond (.t 15) (.skip) (.exit 0)) (.seq (.block 1 (.seq (.region false [
 ao 16 (.mv (.t 14)),
 ao 17 (.idxs 2 (.t 12) (.t 14)),
 ao 18 (.load (some 2) (.t 17)),
 ao 7 (.alloc [(i64 0),(i64 0)]),
 ao 6 (.mv (.t 16)),
 ⟨none, .store 2 (.t 7) (.t 18),none,[],[]⟩] [0,3,5,6,7,12,13,14]) (.seq (.region true (spl [
 ao 19 (.mv (.t 6)),
 ap 20 (.idxa 3 1 (.t 3) (.t 19)) [0],
 ap 21 (.load none (.t 20)) [1,0],
 ao 22 (.mv (.t 0)),
 ap 23 (.nilck (.t 22)) [3],
 ap 24 (.faddr 0 (.t 23)) [4,3],
 ap 25 (.faddr 0 (.t 24)) [5,4,3],
 ap 26 (.load none (.t 25)) [6,5,4,3],
 ap 27 (.bin .sub (.t 26) (.c (i64 1))) [7,6,5,4,3]] [
 ap 28 (.bin .eql (.t 21) (.t 27)) [2,8,1,0,7,6,5,4,3]]) [0,3,5,7,12,13,14,28]) (.cond (.t 28) (.region false [
 ao 29 (.mv (.t 5)),
 ao 30 (.faddr 1 (.t 7)),
 ao 31 (.load none (.t 30)),
 ao 32 (.bin .add (.t 29) (.t 31)),
 ao 5 (.mv (.t 32))] [0,3,5,12,13,14]) (.skip))))) (.region false [
 ao 33 (.bin .add (.t 14) (.c (i64 1))),
 ao 14 (.mv (.t 33))] [0,3,5,12,13,14])))
def b47l0:AC:= .loop [0,3,5,12,13,14] [48] d47l0
def b47:AC:=
 .seq (.region false [
 ao 3 (.box (.t 1)),
 ao 4 (.mv (.c (i64 0)))] [0,3]) (.seq (.region false [
 ao 5 (.mv (.c (i64 0)))] [0,3,5]) (.seq (.seq (.region false [
 ao 8 (.mv (.t 0)),
 ao 9 (.nilck (.t 8)),
 ao 10 (.faddr 0 (.t 9)),
 ao 11 (.faddr 4 (.t 10)),
 ao 12 (.load none (.t 11)),
 ao 13 (.len (.t 12)),
 ao 14 (.mv (.c (i64 0)))] [0,3,5,12,13,14]) (.block 0 (b47l0))) (.seq (.region false [
 ao 34 (.mv (.t 5)),
 ao 4 (.mv (.t 34))] [4]) (.ret))))
def a47:AFn:=⟨2,[.t 4],b47,false⟩
def n47:Ann:=⟨[[0,3],[0,3,5],[0,3,5,12,13,14],[0,3,5,12,13,14,15],[0,3,5,6,7,12,13,14],[0,3,5,7,12,13,14,28],[0,3,5,12,13,14],[0,3,5,12,13,14],[4]],[⟨[],[0,3,5,12,13,14],[48]⟩],[],[],[],false,[]⟩
def b48l0:AC:=
 .region false [
 ao 8 (.alloc [(i64 0),(i64 0),(i64 0),(i64 0),(i64 0)]),
 ⟨none, .store 5 (.t 8) (.t 14),none,[],[]⟩] [3,7,8]
def b48l1:AC:=
 .block 1 (.seq (.region false [
 ao 15 (.load none (.t 3)),
 ao 16 (.load (some 5) (.t 8)),
 ao 17 (.call 27 [(.t 15),(.t 16)]),
 ao 9 (.mv (.t 17))] [7,9]) (.seq (.region false [
 ao 18 (.load none (.t 7)),
 ao 19 (.bin .lss (.t 18) (.c (i64 0))),
 ao 20 (.mv (.t 19)),
 ag 21 (.mv (.t 9)) 20 false [],
 ag 22 (.load none (.t 7)) 20 false [],
 ag 23 (.bin .lss (.t 21) (.t 22)) 20 false [],
 ao 24 (.pick (.t 20) (.c (.bool true)) (.t 23))] [7,9,24]) (.cond (.t 24) (.region false [
 ao 25 (.mv (.t 9)),
 ⟨none, .store 1 (.t 7) (.t 25),none,[],[]⟩] [7]) (.skip))))
def b48:AC:=
 .seq (.region false [
 ao 3 (.box (.t 0)),
 ao 4 (.box (.t 1)),
 ao 6 (.mv (.c (i64 0)))] [2,3,4]) (.seq (.region false [
 ao 7 (.alloc [(i64 0)]),
 ⟨none, .store 1 (.t 7) (.c (i64 (-1))),none,[],[]⟩] [2,3,4,7]) (.seq (.seq (.region false [
 ao 10 (.load none (.t 3)),
 ao 11 (.load (some 5) (.t 4)),
 ao 12 (.mv (.t 2)),
 ao 13 (.call 49 [(.t 10),(.t 11),(.t 12)])] [3,7,13]) (.block 0 (.rng 768 [14] b48l0 b48l1 (.t 13)))) (.seq (.region false [
 ao 26 (.load none (.t 7)),
 ao 6 (.mv (.t 26))] [6]) (.ret))))
def a48:AFn:=⟨3,[.t 6],b48,false⟩
def n48:Ann:=⟨[[2,3,4],[2,3,4,7],[3,7,13],[3,7,8],[7,9],[7,9,24],[7],[6]],[],[768],[],[],false,[(25,272),(21,272),(9,272)]⟩
def b49:AC:=
 .seq (.region false [
 ao 3 (.box (.t 0)),
 ao 4 (.box (.t 1)),
 ao 6 (.mv (.c .nilf))] [2,3,4]) (.seq (.region false [
 ao 8 (.faddr 0 (.t 4)),
 ao 9 (.load none (.t 8)),
 ao 10 (.bin .sub (.t 9) (.c (i64 1))),
 ao 11 (.faddr 1 (.t 4)),
 ao 12 (.load none (.t 11)),
 ao 13 (.mv (.t 2)),
 ao 14 (.bin .xor (.t 12) (.t 13)),
 ao 15 (.faddr 2 (.t 4)),
 ao 16 (.load (some 3) (.t 15)),
 ao 17 (.build [(i64 0),(i64 0),(i64 0),(i64 0),(i64 0)] [(0,1,(.t 10)),(1,1,(.t 14)),(2,3,(.t 16))]),
 ao 7 (.alloc [(i64 0),(i64 0),(i64 0),(i64 0),(i64 0)]),
 ⟨none, .store 5 (.t 7) (.t 17),none,[],[]⟩] [3,4,7]) (.seq (.region false [
 ao 18 (.mkfn 62 [] [(.t 3),(.t 7),(.t 4)]),
 ao 6 (.mv (.t 18))] [6]) (.ret)))
def a49:AFn:=⟨3,[.t 6],b49,false⟩
def n49:Ann:=⟨[[2,3,4],[3,4,7],[6]],[],[],[],[],false,[]⟩
def b50:AC:=
 .seq (.region false [
 ao 1 (.box (.t 0)),
 ao 2 (.alloc [(i64 0),(i64 0),(i64 0),(.sl .full 3 []),(.sl .full 2 [])])] [1,2]) (.seq (.region true (spl [
 ao 3 (.faddr 0 (.t 1)),
 ap 4 (.load none (.t 3)) [0],
 ao 5 (.faddr 1 (.t 1)),
 ap 6 (.load none (.t 5)) [2],
 ao 7 (.faddr 2 (.t 1)),
 ap 8 (.load none (.t 7)) [4],
 ao 9 (.lit [(i64 0),(i64 0),(.bool false)] 0 []),
 ao 10 (.faddr 3 (.t 1)),
 ap 11 (.load none (.t 10)) [7],
 ap 12 (.appm 3 24 (.t 9) (.t 11)) [6,8,7],
 ao 13 (.lit [(i64 0),(i64 0)] 0 []),
 ao 14 (.faddr 4 (.t 1)),
 ap 15 (.load none (.t 14)) [11],
 ap 16 (.appm 2 16 (.t 13) (.t 15)) [10,12,9,11,6,8,7]] [
 ap 17 (.build [(i64 0),(i64 0),(i64 0),(.sl .full 3 []),(.sl .full 2 [])] [(0,1,(.t 4)),(1,1,(.t 6)),(2,1,(.t 8)),(3,1,(.t 12)),(4,1,(.t 16))]) [1,3,5,13,0,2,4,10,12,9,11,6,8,7],
 ⟨none, .store 5 (.t 2) (.t 17),none,[14,1,3,5,13,0,2,4,10,12,9,11,6,8,7],[]⟩]) [2]) (.ret))
def a50:AFn:=⟨1,[.cell 2 (some 5)],b50,true⟩
def n50:Ann:=⟨[[1,2],[2]],[],[],[],[12,16],true,[]⟩
@[simp] def d51l0:AC:=
 .seq (.region false [
 ao 9 (.bin .lss (.t 8) (.t 7))] [0,1,7,8,9]) (.seq (.cond (.t 9) (.skip) (.exit 0)) (.seq (.block 1 (.seq (.region false [
 ao 10 (.mv (.t 8)),
 ao 5 (.mv (.t 10))] [0,1,5,7,8]) (.seq (.region false [
 ao 11 (.mv (.t 1)),
 ao 12 (.mv (.t 0)),
 ao 13 (.mv (.t 5)),
 ao 14 (.idxs 3 (.t 12) (.t 13)),
 ao 15 (.load (some 3) (.t 14)),
 ao 16 (.callv (.t 11) [(.t 15)])] [0,1,5,7,8,16]) (.cond (.t 16) (.seq (.region false [
 ao 17 (.mv (.t 5)),
 ao 4 (.mv (.t 17))] [4]) (.ret)) (.skip))))) (.region false [
 ao 18 (.bin .add (.t 8) (.c (i64 1))),
 ao 8 (.mv (.t 18))] [0,1,7,8])))
def b51l0:AC:= .loop [0,1,7,8] [] d51l0
def b51:AC:=
 .seq (.region false [
 ao 4 (.mv (.c (i64 0)))] [0,1]) (.seq (.seq (.region false [
 ao 6 (.mv (.t 0)),
 ao 7 (.len (.t 6)),
 ao 8 (.mv (.c (i64 0)))] [0,1,7,8]) (.block 0 (b51l0))) (.seq (.region false [
 ao 4 (.mv (.c (i64 (-1))))] [4]) (.ret)))
def a51:AFn:=⟨2,[.t 4],b51,false⟩
def n51:Ann:=⟨[[0,1],[0,1,7,8],[0,1,7,8,9],[0,1,5,7,8],[0,1,5,7,8,16],[4],[0,1,7,8],[4]],[⟨[],[0,1,7,8],[]⟩],[],[],[],false,[]⟩
def b52:AC:=
 .seq (.region false [
 ao 2 (.box (.t 0)),
 ao 3 (.box (.t 1)),
 ao 4 (.mv (.c .nilf))] [2,3]) (.seq (.region false [
 ao 5 (.mkfn 65 [] [(.t 2),(.t 3)]),
 ao 4 (.mv (.t 5))] [4]) (.ret))
def a52:AFn:=⟨2,[.t 4],b52,false⟩
def n52:Ann:=⟨[[2,3],[4]],[],[],[],[],false,[]⟩
@[simp] def d53l0:AC:=
 .seq (.region false [
 ao 15 (.bin .lss (.t 14) (.t 13))] [0,4,6,7,12,13,14,15]) (.seq (.cond (.t 15) (.skip) (.exit 0)) (.seq (.block 1 (.seq (.region false [
 ao 16 (.idxs 1 (.t 12) (.t 14)),
 ao 17 (.load none (.t 16)),
 ao 9 (.mv (.t 17))] [0,4,6,7,9,12,13,14]) (.seq (.region false [
 ao 18 (.mv (.t 0)),
 ao 19 (.mv (.t 9)),
 ao 20 (.call 39 [(.t 18),(.t 19)]),
 ao 10 (.alloc [(i64 0),(i64 0)]),
 ⟨none, .store 2 (.t 10) (.t 20),none,[],[]⟩] [0,4,6,7,10,12,13,14]) (.seq (.region false [
 ao 21 (.load (some 2) (.t 7)),
 ao 22 (.load (some 2) (.t 10)),
 ao 23 (.call 54 [(.t 21),(.t 22)])] [0,4,6,7,10,12,13,14,23]) (.cond (.t 23) (.region false [
 ao 24 (.load (some 2) (.t 10)),
 ⟨none, .store 2 (.t 7) (.t 24),none,[],[]⟩] [0,4,6,7,12,13,14]) (.skip)))))) (.region false [
 ao 25 (.bin .add (.t 14) (.c (i64 1))),
 ao 14 (.mv (.t 25))] [0,4,6,7,12,13,14])))
def b53l0:AC:= .loop [0,4,6,7,12,13,14] [64,96,112] d53l0
def b53:AC:=
 .seq (.region false [
 ao 4 (.box (.t 1)),
 ao 6 (.alloc [(i64 0),(i64 0)])] [0,2,4,6]) (.seq (.region false [
 ao 11 (.build [(i64 0),(i64 0)] [(0,1,(.c (i64 (-1)))),(1,1,(.c (i64 (-1))))]),
 ao 7 (.alloc [(i64 0),(i64 0)]),
 ⟨none, .store 2 (.t 7) (.t 11),none,[],[]⟩] [0,2,4,6,7]) (.seq (.seq (.region false [
 ao 12 (.mv (.t 2)),
 ao 13 (.len (.t 12)),
 ao 14 (.mv (.c (i64 0)))] [0,4,6,7,12,13,14]) (.block 0 (b53l0))) (.seq (.seq (.region false [
 ao 26 (.load (some 2) (.t 7)),
 ao 27 (.mv (.c (.agg [(i64 1073741824),(i64 1073741824)]))),
 ao 28 (.eqa [true,true] false (.t 26) (.t 27))] [0,4,6,7,28]) (.cond (.t 28) (.seq (.region false [
 ao 29 (.mv (.c (.agg [(i64 1073741824),(i64 1073741824)]))),
 ⟨none, .store 2 (.t 6) (.t 29),none,[],[]⟩] [6]) (.ret)) (.skip))) (.seq (.region true (spl [
 ao 30 (.mv (.t 0)),
 ap 31 (.nilck (.t 30)) [0],
 ap 32 (.faddr 0 (.t 31)) [1,0],
 ap 33 (.load (some 6) (.t 32)) [2,1,0],
 ao 34 (.load (some 2) (.t 4)),
 ap 35 (.call 67 [(.t 33),(.t 34)]) [3,4,2,1,0],
 ao 36 (.faddr 0 (.t 7)),
 ap 37 (.load none (.t 36)) [6],
 ap 38 (.bin .add (.t 35) (.t 37)) [5,7,3,4,2,1,0,6],
 ao 39 (.faddr 1 (.t 7)),
 ap 40 (.load none (.t 39)) [9],
 ap 41 (.bin .add (.t 40) (.c (i64 1))) [10,9]] [
 ap 42 (.build [(i64 0),(i64 0)] [(0,1,(.t 38)),(1,1,(.t 41))]) [8,11,5,7,3,4,2,1,0,6,10,9],
 ⟨none, .store 2 (.t 6) (.t 42),none,[12,8,11,5,7,3,4,2,1,0,6,10,9],[]⟩]) [6]) (.ret)))))
def a53:AFn:=⟨3,[.cell 6 (some 2)],b53,false⟩
def n53:Ann:=⟨[[0,2,4,6],[0,2,4,6,7],[0,4,6,7,12,13,14],[0,4,6,7,12,13,14,15],[0,4,6,7,9,12,13,14],[0,4,6,7,10,12,13,14],[0,4,6,7,10,12,13,14,23],[0,4,6,7,12,13,14],[0,4,6,7,12,13,14],[0,4,6,7,28],[6],[6]],[⟨[],[0,4,6,7,12,13,14],[64,96,112]⟩],[],[],[],false,[]⟩
def b54:AC:=
 .seq (.region false [
 ao 2 (.box (.t 0)),
 ao 3 (.box (.t 1)),
 ao 4 (.mv (.c (.bool false)))] [2,3]) (.seq (.region false [
 ao 5 (.faddr 0 (.t 2)),
 ao 6 (.load none (.t 5)),
 ao 7 (.faddr 0 (.t 3)),
 ao 8 (.load none (.t 7)),
 ao 9 (.bin .lss (.t 6) (.t 8)),
 ao 10 (.mv (.t 9)),
 ag 11 (.faddr 0 (.t 2)) 10 false [],
 ag 12 (.load none (.t 11)) 10 false [],
 ag 13 (.faddr 0 (.t 3)) 10 false [],
 ag 14 (.load none (.t 13)) 10 false [],
 ag 15 (.bin .eql (.t 12) (.t 14)) 10 false [],
 ag 16 (.mv (.t 15)) 10 false [],
 ag 17 (.faddr 1 (.t 2)) 16 true [],
 ag 18 (.load none (.t 17)) 16 true [],
 ag 19 (.faddr 1 (.t 3)) 16 true [],
 ag 20 (.load none (.t 19)) 16 true [],
 ag 21 (.bin .lss (.t 18) (.t 20)) 16 true [],
 ag 22 (.pick (.t 16) (.t 21) (.c (.bool false))) 10 false [],
 ao 23 (.pick (.t 10) (.c (.bool true)) (.t 22)),
 ao 4 (.mv (.t 23))] [4]) (.ret))
def a54:AFn:=⟨2,[.t 4],b54,false⟩
def n54:Ann:=⟨[[2,3],[4]],[],[],[],[],false,[]⟩
def b55:AC:=
 .seq (.region false [
 ao 2 (.box (.t 0)),
 ao 3 (.mv (.c (.bool false)))] [1,2]) (.seq (.region false [
 ao 4 (.faddr 0 (.t 2)),
 ao 5 (.load none (.t 4)),
 ao 6 (.load none (.t 1)),
 ao 7 (.call 28 [(.t 5),(.c (i64 0)),(.t 6)]),
 ao 8 (.un .not (.t 7)),
 ao 9 (.mv (.t 8)),
 ag 10 (.faddr 1 (.t 2)) 9 false [],
 ag 11 (.load none (.t 10)) 9 false [],
 ag 12 (.load none (.t 1)) 9 false [],
 ag 13 (.call 28 [(.t 11),(.c (i64 0)),(.t 12)]) 9 false [],
 ag 14 (.un .not (.t 13)) 9 false [],
 ao 15 (.pick (.t 9) (.c (.bool true)) (.t 14)),
 ao 16 (.mv (.t 15)),
 ag 17 (.faddr 0 (.t 2)) 16 false [],
 ag 18 (.load none (.t 17)) 16 false [],
 ag 19 (.faddr 1 (.t 2)) 16 false [],
 ag 20 (.load none (.t 19)) 16 false [],
 ag 21 (.bin .eql (.t 18) (.t 20)) 16 false [],
 ao 22 (.pick (.t 16) (.c (.bool true)) (.t 21)),
 ao 3 (.mv (.t 22))] [3]) (.ret))
def a55:AFn:=⟨2,[.t 3],b55,false⟩
def n55:Ann:=⟨[[1,2],[3]],[],[],[],[],false,[]⟩
def b56:AC:=
 .seq (.region false [
 ao 2 (.box (.t 0)),
 ao 3 (.mv (.c (.bool false)))] [1,2]) (.seq (.region false [
 ao 4 (.faddr 0 (.t 2)),
 ao 5 (.load none (.t 4)),
 ao 6 (.load none (.t 1)),
 ao 7 (.call 28 [(.t 5),(.c (i64 0)),(.t 6)]),
 ao 8 (.un .not (.t 7)),
 ao 9 (.mv (.t 8)),
 ag 10 (.faddr 1 (.t 2)) 9 false [],
 ag 11 (.load none (.t 10)) 9 false [],
 ag 12 (.call 28 [(.t 11),(.c (i64 0)),(.c (i64 99))]) 9 false [],
 ag 13 (.un .not (.t 12)) 9 false [],
 ao 14 (.pick (.t 9) (.c (.bool true)) (.t 13)),
 ao 3 (.mv (.t 14))] [3]) (.ret))
def a56:AFn:=⟨2,[.t 3],b56,false⟩
def n56:Ann:=⟨[[1,2],[3]],[],[],[],[],false,[]⟩
def b57:AC:=
 .seq (.region false [
 ao 4 (.mv (.c (.bool false)))] [0,1]) (.seq (.region false [
 ao 5 (.mv (.t 0)),
 ao 6 (.mv (.t 1)),
 ao 7 (.call 68 [(.t 5),(.t 6)]),
 ao 8 (.bin .geq (.t 7) (.c (i64 0))),
 ao 4 (.mv (.t 8))] [4]) (.ret))
def a57:AFn:=⟨2,[.t 4],b57,false⟩
def n57:Ann:=⟨[[0,1],[4]],[],[],[],[],false,[]⟩
def b58:AC:=
 .seq (.region false [
 ao 4 (.mv (.c (.bool false)))] [0,1]) (.seq (.region false [
 ao 5 (.mv (.t 0)),
 ao 6 (.mv (.t 1)),
 ao 7 (.call 69 [(.t 5),(.t 6)]),
 ao 8 (.bin .geq (.t 7) (.c (i64 0))),
 ao 4 (.mv (.t 8))] [4]) (.ret))
def a58:AFn:=⟨2,[.t 4],b58,false⟩
def n58:Ann:=⟨[[0,1],[4]],[],[],[],[],false,[]⟩
def b61:AC:=
 .seq (.region false [
 ao 4 (.mv (.c (i64 0)))] [0,1]) (.seq (.region false [
 ao 7 (.mv (.t 0)),
 ao 8 (.call 80 [(.t 7)]),
 ao 5 (.mv (.t 8))] [0,1,5]) (.seq (.region false [
 ao 9 (.mv (.t 1)),
 ao 10 (.call 80 [(.t 9)]),
 ao 6 (.mv (.t 10))] [0,1,5,6]) (.seq (.seq (.region false [
 ao 11 (.mv (.t 5))] [0,1,6,11]) (.cond (.t 11) (.seq (.seq (.region false [
 ao 12 (.mv (.t 6))] [12]) (.cond (.t 12) (.seq (.region false [
 ao 4 (.mv (.c (i64 0)))] [4]) (.ret)) (.skip))) (.seq (.region false [
 ao 4 (.mv (.c (i64 (-1))))] [4]) (.ret))) (.skip))) (.seq (.seq (.region false [
 ao 13 (.mv (.t 6))] [0,1,13]) (.cond (.t 13) (.seq (.region false [
 ao 4 (.mv (.c (i64 1)))] [4]) (.ret)) (.skip))) (.seq (.seq (.region false [
 ao 14 (.mv (.t 0)),
 ao 15 (.mv (.t 1)),
 ao 16 (.bin .lss (.t 14) (.t 15))] [0,1,16]) (.cond (.t 16) (.seq (.region false [
 ao 4 (.mv (.c (i64 (-1))))] [4]) (.ret)) (.skip))) (.seq (.seq (.region false [
 ao 17 (.mv (.t 0)),
 ao 18 (.mv (.t 1)),
 ao 19 (.bin .gtr (.t 17) (.t 18))] [19]) (.cond (.t 19) (.seq (.region false [
 ao 4 (.mv (.c (i64 1)))] [4]) (.ret)) (.skip))) (.seq (.region false [
 ao 4 (.mv (.c (i64 0)))] [4]) (.ret))))))))
def a61:AFn:=⟨2,[.t 4],b61,false⟩
def n61:Ann:=⟨[[0,1],[0,1,5],[0,1,5,6],[0,1,6,11],[12],[4],[4],[0,1,13],[4],[0,1,16],[4],[19],[4],[4]],[],[],[],[],false,[(13,160),(12,160),(11,128),(6,160),(5,128)]⟩
def b62:AC:=
 .seq (.region false [
 ao 4 (.box (.t 0))] [1,2,3,4]) (.seq (.region false [
 ao 5 (.alloc [.nilf])] [1,2,3,4,5]) (.seq (.region false [
 ao 6 (.mkfn 63 [] [(.t 1),(.t 4),(.t 2),(.t 3),(.t 5)]),
 ⟨none, .store 1 (.t 5) (.t 6),none,[],[]⟩] [5]) (.region false [
 ao 7 (.load none (.t 5)),
 ao 8 (.callv (.t 7) [(.c (i64 0))])] [])))
def a62:AFn:=⟨4,[],b62,false⟩
def n62:Ann:=⟨[[1,2,3,4],[1,2,3,4,5],[5],[]],[],[],[],[],false,[]⟩
@[simp] def d63l0:AC:=
 .seq (.region false [
 ao 29 (.bin .lss (.t 28) (.t 27))] [0,3,5,26,27,28,29]) (.seq (.cond (.t 29) (.skip) (.exit 0)) (.seq (.block 1 (.seq (.region false [
 ao 30 (.mv (.t 0)),
 ao 31 (.idxs 1 (.t 26) (.t 28)),
 ao 32 (.load none (.t 31)),
 ao 33 (.faddr 2 (.t 3)),
 ao 34 (.idxa 3 1 (.t 33) (.t 30)),
 ⟨none, .store 1 (.t 34) (.t 32),none,[],[]⟩] [0,3,5,26,27,28]) (.seq (.region false [
 ao 35 (.load none (.t 5)),
 ao 36 (.mv (.t 0)),
 ao 37 (.bin .add (.t 36) (.c (i64 1))),
 ao 38 (.callv (.t 35) [(.t 37)]),
 ao 39 (.un .not (.t 38))] [0,3,5,26,27,28,39]) (.cond (.t 39) (.seq (.region false [
 ao 7 (.mv (.c (.bool false)))] [7]) (.ret)) (.skip))))) (.region false [
 ao 40 (.bin .add (.t 28) (.c (i64 1))),
 ao 28 (.mv (.t 40))] [0,3,5,26,27,28])))
def b63l0:AC:= .loop [0,3,5,26,27,28] [288,416] d63l0
def b63:AC:=
 .seq (.region false [
 ao 7 (.mv (.c (.bool false)))] [0,1,2,3,4,5]) (.seq (.seq (.region false [
 ao 8 (.mv (.t 0)),
 ao 9 (.load none (.t 1)),
 ao 10 (.nilck (.t 9)),
 ao 11 (.faddr 0 (.t 10)),
 ao 12 (.faddr 4 (.t 11)),
 ao 13 (.load none (.t 12)),
 ao 14 (.len (.t 13)),
 ao 15 (.bin .eql (.t 8) (.t 14))] [0,1,2,3,4,5,15]) (.cond (.t 15) (.seq (.region false [
 ao 16 (.load none (.t 2)),
 ao 17 (.load (some 5) (.t 3)),
 ao 18 (.callv (.t 16) [(.t 17)]),
 ao 7 (.mv (.t 18))] [7]) (.ret)) (.skip))) (.seq (.seq (.region true (spl [
 ao 19 (.load none (.t 1)),
 ao 20 (.faddr 1 (.t 3)),
 ap 21 (.load none (.t 20)) [1],
 ao 22 (.mv (.t 0)),
 ao 23 (.faddr 2 (.t 4)),
 ap 24 (.idxa 3 1 (.t 23) (.t 22)) [4,3],
 ap 25 (.load none (.t 24)) [5,4,3],
 ap 26 (.call 64 [(.t 19),(.t 21),(.t 25)]) [0,2,6,1,5,4,3],
 ap 27 (.len (.t 26)) [7,0,2,6,1,5,4,3],
 ao 28 (.mv (.c (i64 0)))] [
]) [0,3,5,26,27,28]) (.block 0 (b63l0))) (.seq (.region false [
 ao 7 (.mv (.c (.bool true)))] [7]) (.ret))))
def a63:AFn:=⟨6,[.t 7],b63,false⟩
def n63:Ann:=⟨[[0,1,2,3,4,5],[0,1,2,3,4,5,15],[7],[0,3,5,26,27,28],[0,3,5,26,27,28,29],[0,3,5,26,27,28],[0,3,5,26,27,28,39],[7],[0,3,5,26,27,28],[7]],[⟨[],[0,3,5,26,27,28],[288,416]⟩],[],[],[],false,[]⟩
@[simp] def d64l0:AC:=
 .seq (.region false [
 ao 17 (.bin .lss (.t 16) (.t 15))] [1,2,7,14,15,16,17]) (.seq (.cond (.t 17) (.skip) (.exit 0)) (.seq (.block 1 (.seq (.region false [
 ao 18 (.mv (.t 16)),
 ao 19 (.idxs 3 (.t 14) (.t 16)),
 ao 20 (.load (some 3) (.t 19)),
 ao 9 (.alloc [(i64 0),(i64 0),(.bool false)]),
 ao 8 (.mv (.t 18)),
 ⟨none, .store 3 (.t 9) (.t 20),none,[],[]⟩] [1,2,7,8,9,14,15,16]) (.block 2 (.seq (.region false [
 ao 22 (.mv (.t 1)),
 ao 23 (.mv (.t 8)),
 ao 24 (.bin .shr (.t 22) (.t 23)),
 ao 25 (.bin .and (.t 24) (.c (i64 1))),
 ao 26 (.bin .eql (.t 25) (.c (i64 0))),
 ao 21 (.mv (.t 26))] [1,2,7,9,14,15,16,21]) (.cond (.t 21) (.skip) (.seq (.region false [
 ao 28 (.faddr 0 (.t 9)),
 ao 29 (.load none (.t 28)),
 ao 30 (.mv (.t 2)),
 ao 31 (.bin .eql (.t 29) (.t 30)),
 ao 27 (.mv (.t 31))] [1,2,7,9,14,15,16,27]) (.cond (.t 27) (.region false [
 ao 32 (.mv (.t 7)),
 ao 33 (.faddr 1 (.t 9)),
 ao 34 (.load none (.t 33)),
 ao 35 (.lit [(i64 0)] 1 [(0,(.t 34))]),
 ao 36 (.app 1 8 (.t 32) (.t 35)),
 ao 7 (.mv (.t 36))] [1,2,7,14,15,16]) (.seq (.region false [
 ao 38 (.faddr 1 (.t 9)),
 ao 39 (.load none (.t 38)),
 ao 40 (.mv (.t 2)),
 ao 41 (.bin .eql (.t 39) (.t 40)),
 ao 37 (.mv (.t 41))] [1,2,7,9,14,15,16,37]) (.cond (.t 37) (.region false [
 ao 42 (.mv (.t 7)),
 ao 43 (.faddr 0 (.t 9)),
 ao 44 (.load none (.t 43)),
 ao 45 (.lit [(i64 0)] 1 [(0,(.t 44))]),
 ao 46 (.app 1 8 (.t 42) (.t 45)),
 ao 7 (.mv (.t 46))] [1,2,7,14,15,16]) (.skip)))))))))) (.region false [
 ao 47 (.bin .add (.t 16) (.c (i64 1))),
 ao 16 (.mv (.t 47))] [1,2,7,14,15,16])))
def b64l0:AC:= .loop [1,2,7,14,15,16] [113,832,864,896] d64l0
def b64:AC:=
 .seq (.region false [
 ao 6 (.mv (.c (.sl .full 1 [])))] [0,1,2]) (.seq (.region false [
 ao 7 (.mv (.c (.sl .full 1 [])))] [0,1,2,7]) (.seq (.seq (.region false [
 ao 10 (.mv (.t 0)),
 ao 11 (.nilck (.t 10)),
 ao 12 (.faddr 0 (.t 11)),
 ao 13 (.faddr 3 (.t 12)),
 ao 14 (.load none (.t 13)),
 ao 15 (.len (.t 14)),
 ao 16 (.mv (.c (i64 0)))] [1,2,7,14,15,16]) (.block 0 (.seq (.thaw 7 113 101) (b64l0)))) (.seq (.seq (.region false [
 ao 48 (.mv (.t 7)),
 ao 49 (.len (.t 48)),
 ao 50 (.bin .eql (.t 49) (.c (i64 0)))] [2,7,50]) (.cond (.t 50) (.seq (.region false [
 ao 51 (.mv (.t 2)),
 ao 52 (.lit [(i64 0)] 1 [(0,(.t 51))]),
 ao 6 (.mv (.t 52))] [6]) (.ret)) (.skip))) (.seq (.region false [
 ao 53 (.mv (.t 7)),
 ao 54 (.call 81 [(.t 53)])] [7]) (.seq (.region false [
 ao 55 (.mv (.t 7)),
 ao 56 (.call 82 [(.t 55)]),
 ao 6 (.mv (.t 56))] [6]) (.ret))))))
def a64:AFn:=⟨3,[.t 6],b64,false⟩
def n64:Ann:=⟨[[0,1,2],[0,1,2,7],[1,2,7,14,15,16],[1,2,7,14,15,16,17],[1,2,7,8,9,14,15,16],[1,2,7,9,14,15,16,21],[1,2,7,9,14,15,16,27],[1,2,7,14,15,16],[1,2,7,9,14,15,16,37],[1,2,7,14,15,16],[1,2,7,14,15,16],[2,7,50],[6],[7],[6]],[⟨[.t 7 113 101],[1,2,7,14,15,16],[113,832,864,896]⟩],[],[],[],false,[(6,896)]⟩
@[simp] def d65l0:AC:=
 .seq (.region false [
 ao 16 (.bin .lss (.t 15) (.t 14))] [0,1,2,13,14,15,16]) (.seq (.cond (.t 16) (.skip) (.exit 0)) (.seq (.block 1 (.seq (.region false [
 ao 17 (.mv (.t 15)),
 ao 18 (.idxs 3 (.t 13) (.t 15)),
 ao 19 (.load (some 3) (.t 18)),
 ao 5 (.alloc [(i64 0),(i64 0),(i64 0)]),
 ao 4 (.mv (.t 17)),
 ⟨none, .store 3 (.t 5) (.t 19),none,[],[]⟩] [0,1,2,4,5,13,14,15]) (.seq (.region false [
 ao 20 (.mv (.t 0)),
 ao 21 (.mv (.t 4)),
 ao 22 (.build [(i64 0),(i64 0)] [(0,1,(.c (i64 1))),(1,1,(.t 21))]),
 ao 23 (.load none (.t 2)),
 ao 24 (.load (some 3) (.t 5)),
 ao 25 (.call 66 [(.t 23),(.t 24)]),
 ao 26 (.lit [(.int .u8 0)] 1 [(0,(.t 25))]),
 ao 27 (.callv (.t 20) [(.t 22),(.t 26)]),
 ao 28 (.un .not (.t 27))] [0,1,2,13,14,15,28]) (.cond (.t 28) (.ret) (.skip))))) (.region false [
 ao 29 (.bin .add (.t 15) (.c (i64 1))),
 ao 15 (.mv (.t 29))] [0,1,2,13,14,15])))
def b65l0:AC:= .loop [0,1,2,13,14,15] [] d65l0
@[simp] def d65l1:AC:=
 .seq (.region false [
 ao 37 (.bin .lss (.t 36) (.t 35))] [0,1,2,34,35,36,37]) (.seq (.cond (.t 37) (.skip) (.exit 2)) (.seq (.block 3 (.seq (.region false [
 ao 38 (.idxs 1 (.t 34) (.t 36)),
 ao 39 (.load none (.t 38)),
 ao 7 (.mv (.t 39))] [0,1,2,7,34,35,36]) (.seq (.region true (spl [
 ao 40 (.load none (.t 2)),
 ao 41 (.mv (.t 7)),
 ap 42 (.lit [(i64 0)] 1 [(0,(.t 41))]) [1],
 ap 43 (.call 40 [(.t 42)]) [2,1]] [
 ap 44 (.bin .and (.t 40) (.t 43)) [0,3,2,1],
 ap 8 (.mv (.t 44)) [4,0,3,2,1]]) [0,1,2,7,8,34,35,36]) (.seq (.region false [
 ao 45 (.load none (.t 1)),
 ao 46 (.nilck (.t 45)),
 ao 47 (.faddr 6 (.t 46)),
 ao 48 (.load none (.t 47)),
 ao 49 (.mv (.t 48)),
 ag 50 (.mv (.t 8)) 49 true [],
 ag 51 (.bin .neq (.t 50) (.c (.int .u8 0))) 49 true [],
 ao 52 (.pick (.t 49) (.t 51) (.c (.bool false))),
 ao 53 (.mv (.t 52)),
 ag 54 (.mv (.t 8)) 53 true [],
 ag 55 (.load none (.t 2)) 53 true [],
 ag 56 (.bin .neq (.t 54) (.t 55)) 53 true [],
 ao 57 (.pick (.t 53) (.t 56) (.c (.bool false))),
 ao 58 (.mv (.t 57)),
 ag 59 (.mv (.t 0)) 58 true [],
 ag 60 (.mv (.t 7)) 58 true [],
 ag 61 (.build [(i64 0),(i64 0)] [(0,1,(.c (i64 2))),(1,1,(.t 60))]) 58 true [],
 ag 62 (.mv (.t 8)) 58 true [],
 ag 63 (.load none (.t 2)) 58 true [],
 ag 64 (.mv (.t 8)) 58 true [],
 ag 65 (.bin .andNot (.t 63) (.t 64)) 58 true [],
 ag 66 (.lit [(.int .u8 0)] 2 [(0,(.t 62)),(1,(.t 65))]) 58 true [],
 ag 67 (.callv (.t 59) [(.t 61),(.t 66)]) 58 true [],
 ag 68 (.un .not (.t 67)) 58 true [],
 ao 69 (.pick (.t 58) (.t 68) (.c (.bool false)))] [0,1,2,34,35,36,69]) (.cond (.t 69) (.ret) (.skip)))))) (.region false [
 ao 70 (.bin .add (.t 36) (.c (i64 1))),
 ao 36 (.mv (.t 70))] [0,1,2,34,35,36])))
def b65l1:AC:= .loop [0,1,2,34,35,36] [] d65l1
def b65:AC:=
 .seq (.seq (.region false [
 ao 9 (.load none (.t 1)),
 ao 10 (.nilck (.t 9)),
 ao 11 (.faddr 0 (.t 10)),
 ao 12 (.faddr 1 (.t 11)),
 ao 13 (.load none (.t 12)),
 ao 14 (.len (.t 13)),
 ao 15 (.mv (.c (i64 0)))] [0,1,2,13,14,15]) (.block 0 (b65l0))) (.seq (.region false [
 ao 30 (.load none (.t 1)),
 ao 31 (.nilck (.t 30)),
 ao 32 (.faddr 0 (.t 31)),
 ao 33 (.faddr 2 (.t 32)),
 ao 34 (.load none (.t 33)),
 ao 35 (.len (.t 34)),
 ao 36 (.mv (.c (i64 0)))] [0,1,2,34,35,36]) (.block 2 (b65l1)))
def a65:AFn:=⟨3,[],b65,false⟩
def n65:Ann:=⟨[[0,1,2,13,14,15],[0,1,2,13,14,15,16],[0,1,2,4,5,13,14,15],[0,1,2,13,14,15,28],[0,1,2,13,14,15],[0,1,2,34,35,36],[0,1,2,34,35,36,37],[0,1,2,7,34,35,36],[0,1,2,7,8,34,35,36],[0,1,2,34,35,36,69],[0,1,2,34,35,36]],[⟨[],[0,1,2,13,14,15],[]⟩,⟨[],[0,1,2,34,35,36],[]⟩],[],[],[],false,[]⟩
@[simp] def d66l0:AC:=
 .seq (.region false [
 ao 11 (.bin .lss (.t 10) (.t 9))] [3,4,8,9,10,11]) (.seq (.cond (.t 11) (.skip) (.exit 0)) (.seq (.block 1 (.seq (.region false [
 ao 12 (.idxs 1 (.t 8) (.t 10)),
 ao 13 (.load none (.t 12)),
 ao 6 (.mv (.t 13))] [3,4,6,8,9,10]) (.region false [
 ao 14 (.mv (.t 4)),
 ao 15 (.load (some 3) (.t 3)),
 ao 16 (.mv (.t 6)),
 ao 17 (.call 84 [(.t 15),(.t 16)]),
 ao 18 (.lit [(i64 0)] 1 [(0,(.t 17))]),
 ao 19 (.call 40 [(.t 18)]),
 ao 20 (.bin .or (.t 14) (.t 19)),
 ao 4 (.mv (.t 20))] [3,4,8,9,10]))) (.region false [
 ao 21 (.bin .add (.t 10) (.c (i64 1))),
 ao 10 (.mv (.t 21))] [3,4,8,9,10])))
def b66l0:AC:= .loop [3,4,8,9,10] [48] d66l0
def b66:AC:=
 .seq (.region false [
 ao 3 (.box (.t 1)),
 ao 4 (.mv (.c (.int .u8 0)))] [0,3,4]) (.seq (.seq (.region false [
 ao 7 (.mv (.t 0)),
 ao 8 (.call 83 [(.t 7)]),
 ao 9 (.len (.t 8)),
 ao 10 (.mv (.c (i64 0)))] [3,4,8,9,10]) (.block 0 (b66l0))) (.seq (.region false [
 ao 22 (.mv (.t 4)),
 ao 4 (.mv (.t 22))] [4]) (.ret)))
def a66:AFn:=⟨2,[.t 4],b66,false⟩
def n66:Ann:=⟨[[0,3,4],[3,4,8,9,10],[3,4,8,9,10,11],[3,4,6,8,9,10],[3,4,8,9,10],[3,4,8,9,10],[4]],[⟨[],[3,4,8,9,10],[48]⟩],[],[],[],false,[]⟩
def b67:AC:=
 .seq (.region false [
 ao 2 (.box (.t 0)),
 ao 3 (.box (.t 1)),
 ao 4 (.mv (.c (i64 0)))] [2,3]) (.seq (.seq (.region false [
 ao 5 (.faddr 0 (.t 3)),
 ao 6 (.load none (.t 5)),
 ao 7 (.bin .eql (.t 6) (.c (i64 2)))] [2,3,7]) (.cond (.t 7) (.seq (.region false [
 ao 8 (.faddr 3 (.t 2)),
 ao 9 (.load none (.t 8)),
 ao 10 (.faddr 4 (.t 2)),
 ao 11 (.load none (.t 10)),
 ao 12 (.bin .add (.t 9) (.t 11)),
 ao 4 (.mv (.t 12))] [4]) (.ret)) (.skip))) (.seq (.region true (spl [
 ao 13 (.faddr 1 (.t 2)),
 ap 14 (.load none (.t 13)) [0],
 ao 15 (.faddr 1 (.t 3)),
 ap 16 (.load none (.t 15)) [2],
 ap 17 (.idxs 3 (.t 14) (.t 16)) [1,3,0,2],
 ap 18 (.faddr 2 (.t 17)) [4,1,3,0,2],
 ap 19 (.load none (.t 18)) [5,4,1,3,0,2],
 ao 20 (.faddr 4 (.t 2)),
 ap 21 (.load none (.t 20)) [7]] [
 ap 22 (.bin .add (.t 19) (.t 21)) [6,8,5,4,1,3,0,2,7],
 ap 4 (.mv (.t 22)) [9,6,8,5,4,1,3,0,2,7]]) [4]) (.ret)))
def a67:AFn:=⟨2,[.t 4],b67,false⟩
def n67:Ann:=⟨[[2,3],[2,3,7],[4],[4]],[],[],[],[],false,[]⟩
@[simp] def d68l0:AC:=
 .seq (.region false [
 ao 9 (.bin .lss (.t 8) (.t 7))] [0,1,7,8,9]) (.seq (.cond (.t 9) (.skip) (.exit 0)) (.seq (.block 1 (.seq (.region false [
 ao 10 (.mv (.t 8)),
 ao 5 (.mv (.t 10))] [0,1,5,7,8]) (.seq (.region false [
 ao 11 (.mv (.t 1)),
 ao 12 (.mv (.t 0)),
 ao 13 (.mv (.t 5)),
 ao 14 (.idxs 3 (.t 12) (.t 13)),
 ao 15 (.load (some 3) (.t 14)),
 ao 16 (.callv (.t 11) [(.t 15)])] [0,1,5,7,8,16]) (.cond (.t 16) (.seq (.region false [
 ao 17 (.mv (.t 5)),
 ao 4 (.mv (.t 17))] [4]) (.ret)) (.skip))))) (.region false [
 ao 18 (.bin .add (.t 8) (.c (i64 1))),
 ao 8 (.mv (.t 18))] [0,1,7,8])))
def b68l0:AC:= .loop [0,1,7,8] [] d68l0
def b68:AC:=
 .seq (.region false [
 ao 4 (.mv (.c (i64 0)))] [0,1]) (.seq (.seq (.region false [
 ao 6 (.mv (.t 0)),
 ao 7 (.len (.t 6)),
 ao 8 (.mv (.c (i64 0)))] [0,1,7,8]) (.block 0 (b68l0))) (.seq (.region false [
 ao 4 (.mv (.c (i64 (-1))))] [4]) (.ret)))
def a68:AFn:=⟨2,[.t 4],b68,false⟩
def n68:Ann:=⟨[[0,1],[0,1,7,8],[0,1,7,8,9],[0,1,5,7,8],[0,1,5,7,8,16],[4],[0,1,7,8],[4]],[⟨[],[0,1,7,8],[]⟩],[],[],[],false,[]⟩
@[simp] def d69l0:AC:=
 .seq (.region false [
 ao 9 (.bin .lss (.t 8) (.t 7))] [0,1,7,8,9]) (.seq (.cond (.t 9) (.skip) (.exit 0)) (.seq (.block 1 (.seq (.region false [
 ao 10 (.mv (.t 8)),
 ao 5 (.mv (.t 10))] [0,1,5,7,8]) (.seq (.region false [
 ao 11 (.mv (.t 1)),
 ao 12 (.mv (.t 0)),
 ao 13 (.mv (.t 5)),
 ao 14 (.idxs 2 (.t 12) (.t 13)),
 ao 15 (.load (some 2) (.t 14)),
 ao 16 (.callv (.t 11) [(.t 15)])] [0,1,5,7,8,16]) (.cond (.t 16) (.seq (.region false [
 ao 17 (.mv (.t 5)),
 ao 4 (.mv (.t 17))] [4]) (.ret)) (.skip))))) (.region false [
 ao 18 (.bin .add (.t 8) (.c (i64 1))),
 ao 8 (.mv (.t 18))] [0,1,7,8])))
def b69l0:AC:= .loop [0,1,7,8] [] d69l0
def b69:AC:=
 .seq (.region false [
 ao 4 (.mv (.c (i64 0)))] [0,1]) (.seq (.seq (.region false [
 ao 6 (.mv (.t 0)),
 ao 7 (.len (.t 6)),
 ao 8 (.mv (.c (i64 0)))] [0,1,7,8]) (.block 0 (b69l0))) (.seq (.region false [
 ao 4 (.mv (.c (i64 (-1))))] [4]) (.ret)))
def a69:AFn:=⟨2,[.t 4],b69,false⟩
def n69:Ann:=⟨[[0,1],[0,1,7,8],[0,1,7,8,9],[0,1,5,7,8],[0,1,5,7,8,16],[4],[0,1,7,8],[4]],[⟨[],[0,1,7,8],[]⟩],[],[],[],false,[]⟩
def b80:AC:=
 .seq (.region false [
 ao 2 (.mv (.c (.bool false)))] [0]) (.seq (.region false [
 ao 3 (.mv (.t 0)),
 ao 4 (.mv (.t 0)),
 ao 5 (.bin .neq (.t 3) (.t 4)),
 ao 2 (.mv (.t 5))] [2]) (.ret))
def a80:AFn:=⟨1,[.t 2],b80,false⟩
def n80:Ann:=⟨[[0],[2]],[],[],[],[],false,[]⟩
@[simp] def d82l1:AC:=
 .seq (.seq (.region false [
 ao 29 (.mv (.t 5)),
 ao 30 (.mv (.t 4)),
 ao 31 (.len (.t 30)),
 ao 32 (.bin .lss (.t 29) (.t 31))] [0,3,4,5,32]) (.cond (.t 32) (.skip) (.exit 2))) (.seq (.block 3 (.seq (.region true (spl [
 ao 35 (.mv (.t 4)),
 ao 36 (.mv (.t 5)),
 ap 37 (.idxs 1 (.t 35) (.t 36)) [0,1],
 ap 38 (.load none (.t 37)) [2,0,1],
 ao 39 (.mv (.t 4)),
 ao 40 (.mv (.t 5)),
 ap 41 (.bin .sub (.t 40) (.c (i64 1))) [5],
 ap 42 (.idxs 1 (.t 39) (.t 41)) [4,6,5],
 ap 43 (.load none (.t 42)) [7,4,6,5]] [
 ap 44 (.bin .neq (.t 38) (.t 43)) [3,8,2,0,1,7,4,6,5]]) [0,3,4,5,44]) (.cond (.t 44) (.seq (.region false [
 ao 45 (.mv (.t 0)),
 ao 46 (.mv (.t 3)),
 ao 47 (.mv (.t 4)),
 ao 48 (.mv (.t 5)),
 ao 49 (.idxs 1 (.t 47) (.t 48)),
 ao 50 (.load none (.t 49)),
 ao 51 (.idxs 1 (.t 45) (.t 46)),
 ⟨none, .store 1 (.t 51) (.t 50),none,[],[]⟩] [0,3,4,5]) (.region false [
 ao 52 (.mv (.t 3)),
 ao 53 (.bin .add (.t 52) (.c (i64 1))),
 ao 3 (.mv (.t 53))] [0,3,4,5])) (.skip)))) (.region false [
 ao 33 (.mv (.t 5)),
 ao 34 (.bin .add (.t 33) (.c (i64 1))),
 ao 5 (.mv (.t 34))] [0,3,4,5]))
def b82l1:AC:= .loop [0,3,4,5] [] d82l1
@[simp] def d82l0:AC:=
 .seq (.seq (.region false [
 ao 10 (.mv (.t 3)),
 ao 11 (.mv (.t 0)),
 ao 12 (.len (.t 11)),
 ao 13 (.bin .lss (.t 10) (.t 12))] [0,3,13]) (.cond (.t 13) (.skip) (.exit 0))) (.seq (.block 1 (.seq (.region true (spl [
 ao 16 (.mv (.t 0)),
 ao 17 (.mv (.t 3)),
 ap 18 (.idxs 1 (.t 16) (.t 17)) [0,1],
 ap 19 (.load none (.t 18)) [2,0,1],
 ao 20 (.mv (.t 0)),
 ao 21 (.mv (.t 3)),
 ap 22 (.bin .sub (.t 21) (.c (i64 1))) [5],
 ap 23 (.idxs 1 (.t 20) (.t 22)) [4,6,5],
 ap 24 (.load none (.t 23)) [7,4,6,5]] [
 ap 25 (.bin .eql (.t 19) (.t 24)) [3,8,2,0,1,7,4,6,5]]) [0,3,25]) (.cond (.t 25) (.seq (.region false [
 ao 26 (.mv (.t 0)),
 ao 27 (.mv (.t 3)),
 ao 28 (.slice 1 (.t 26) (some (.t 27)) none none),
 ao 4 (.mv (.t 28))] [0,3,4]) (.seq (.seq (.region false [
 ao 5 (.mv (.c (i64 1)))] [0,3,4,5]) (.block 2 (b82l1))) (.seq (.region false [
 ao 54 (.mv (.t 0)),
 ao 55 (.mv (.t 3)),
 ao 56 (.slice 1 (.t 54) (some (.t 55)) none none),
 ⟨none, .clear [(i64 0)] (.t 56),none,[],[]⟩] [0,3]) (.seq (.region false [
 ao 57 (.mv (.t 0)),
 ao 58 (.mv (.t 3)),
 ao 59 (.slice 1 (.t 57) none (some (.t 58)) none),
 ao 2 (.mv (.t 59))] [2]) (.ret))))) (.skip)))) (.region false [
 ao 14 (.mv (.t 3)),
 ao 15 (.bin .add (.t 14) (.c (i64 1))),
 ao 3 (.mv (.t 15))] [0,3]))
def b82l0:AC:= .loop [0,3] [] d82l0
def b82:AC:=
 .seq (.region false [
 ao 2 (.mv (.c (.sl .full 1 [])))] [0]) (.seq (.seq (.region false [
 ao 6 (.mv (.t 0)),
 ao 7 (.len (.t 6)),
 ao 8 (.bin .lss (.t 7) (.c (i64 2)))] [0,8]) (.cond (.t 8) (.seq (.region false [
 ao 9 (.mv (.t 0)),
 ao 2 (.mv (.t 9))] [2]) (.ret)) (.skip))) (.seq (.seq (.region false [
 ao 3 (.mv (.c (i64 1)))] [0,3]) (.block 0 (b82l0))) (.seq (.region false [
 ao 60 (.mv (.t 0)),
 ao 2 (.mv (.t 60))] [2]) (.ret))))
def a82:AFn:=⟨1,[.t 2],b82,false⟩
def n82:Ann:=⟨[[0],[0,8],[2],[0,3],[0,3,13],[0,3,25],[0,3,4],[0,3,4,5],[0,3,4,5,32],[0,3,4,5,44],[0,3,4,5],[0,3,4,5],[0,3,4,5],[0,3],[2],[0,3],[2]],[⟨[],[0,3],[]⟩,⟨[],[0,3,4,5],[]⟩],[],[],[],false,[]⟩
@[simp] def d83l0:AC:=
 .seq (.seq (.region false [
 ao 5 (.mv (.t 0)),
 ao 6 (.mv (.t 4)),
 ao 7 (.bin .add (.t 6) (.c (i64 1))),
 ao 8 (.bin .shr (.t 5) (.t 7)),
 ao 9 (.bin .neq (.t 8) (.c (.int .u8 0)))] [0,3,4,9]) (.cond (.t 9) (.skip) (.exit 0))) (.seq (.block 1 (.seq (.region false [
 ao 12 (.mv (.t 0)),
 ao 13 (.mv (.t 4)),
 ao 14 (.bin .add (.t 13) (.c (i64 1))),
 ao 15 (.bin .shr (.t 12) (.t 14)),
 ao 16 (.bin .and (.t 15) (.c (.int .u8 1))),
 ao 17 (.bin .eql (.t 16) (.c (.int .u8 1)))] [0,3,4,17]) (.cond (.t 17) (.region false [
 ao 18 (.mv (.t 3)),
 ao 19 (.mv (.t 4)),
 ao 20 (.lit [(i64 0)] 1 [(0,(.t 19))]),
 ao 21 (.app 1 8 (.t 18) (.t 20)),
 ao 3 (.mv (.t 21))] [0,3,4]) (.skip)))) (.region false [
 ao 10 (.mv (.t 4)),
 ao 11 (.bin .add (.t 10) (.c (i64 1))),
 ao 4 (.mv (.t 11))] [0,3,4]))
def b83l0:AC:= .loop [0,3,4] [49] d83l0
def b83:AC:=
 .seq (.region false [
 ao 2 (.mv (.c (.sl .full 1 [])))] [0]) (.seq (.region false [
 ao 3 (.mv (.c (.sl .full 1 [])))] [0,3]) (.seq (.seq (.region false [
 ao 4 (.mv (.c (i64 (-1))))] [0,3,4]) (.block 0 (.seq (.thaw 3 49 1) (b83l0)))) (.seq (.region false [
 ao 22 (.mv (.t 3)),
 ao 2 (.mv (.t 22))] [2]) (.ret))))
def a83:AFn:=⟨1,[.t 2],b83,false⟩
def n83:Ann:=⟨[[0],[0,3],[0,3,4],[0,3,4,9],[0,3,4,17],[0,3,4],[0,3,4],[2]],[⟨[.t 3 49 1],[0,3,4],[49]⟩],[],[],[],false,[]⟩
def b84:AC:=
 .seq (.region false [
 ao 2 (.box (.t 0)),
 ao 4 (.mv (.c (i64 0)))] [1,2]) (.seq (.seq (.region false [
 ao 5 (.mv (.t 1))] [1,2,5]) (.block 0 (.seq (.region false [
 ao 7 (.bin .eql (.t 5) (.c (i64 (-1)))),
 ao 6 (.mv (.t 7))] [1,2,5,6]) (.cond (.t 6) (.seq (.region false [
 ao 8 (.mv (.t 1)),
 ao 4 (.mv (.t 8))] [4]) (.ret)) (.seq (.region false [
 ao 10 (.faddr 0 (.t 2)),
 ao 11 (.load none (.t 10)),
 ao 12 (.bin .eql (.t 5) (.t 11)),
 ao 9 (.mv (.t 12))] [1,2,5,9]) (.cond (.t 9) (.seq (.region false [
 ao 13 (.faddr 1 (.t 2)),
 ao 14 (.load none (.t 13)),
 ao 4 (.mv (.t 14))] [4]) (.ret)) (.seq (.region false [
 ao 16 (.faddr 1 (.t 2)),
 ao 17 (.load none (.t 16)),
 ao 18 (.bin .eql (.t 5) (.t 17)),
 ao 15 (.mv (.t 18))] [1,2,15]) (.cond (.t 15) (.seq (.region false [
 ao 19 (.faddr 0 (.t 2)),
 ao 20 (.load none (.t 19)),
 ao 4 (.mv (.t 20))] [4]) (.ret)) (.skip))))))))) (.seq (.region false [
 ao 21 (.mv (.t 1)),
 ao 4 (.mv (.t 21))] [4]) (.ret)))
def a84:AFn:=⟨2,[.t 4],b84,false⟩
def n84:Ann:=⟨[[1,2],[1,2,5],[1,2,5,6],[4],[1,2,5,9],[4],[1,2,15],[4],[4]],[],[],[],[],false,[]⟩
end Go.Proofs.YtmgkcipcjabigaaGreatDoor
