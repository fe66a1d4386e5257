/-
  MADE BY PROGRAM (mkt.py, out of what Gen.lean prints): the functions' code for the evaluator.
-/
import Derived.Test.YtbcjofkfgpbhmaaGreatAb7
set_option linter.unusedSimpArgs false
set_option linter.unusedVariables false
namespace Go.Proofs.YtbcjofkfgpbhmaaGreat
open Go.Ab
def b3:AC:=
 .seq (.region false [
 ao 2 (.box (.t 0)),
 ao 4 (.mv (.c (.bool false)))] [1,2]) (.seq (.seq (.region false [
 ao 14 (.load (some 5) (.t 2)),
 ao 15 (.call 4 [(.t 14)])] [1,2,15]) (.cond (.t 15) (.seq (.region false [
 ao 16 (.call 5 []),
 ao 4 (.mv (.t 16))] [4]) (.ret)) (.skip))) (.seq (.region false [
 ao 17 (.load (some 5) (.t 2)),
 ao 18 (.call 6 [(.t 17)]),
 ao 5 (.alloc [(i64 0),(i64 0),(i64 0),(.sl .full 3 []),(.sl .full 2 [])]),
 ⟨none, .store 5 (.t 5) (.t 18),none,[],[]⟩] [1,2,5]) (.seq (.seq (.freeze [288,1288,2288,3288,4288,5288,6288,7288,8288]) (.region false [
 ao 20 (.load (some 5) (.t 5)),
 ao 21 (.mv (.t 1)),
 ao 22 (.call 7 [(.t 20),(.t 21)]),
 ao 19 (.mv (.t 22)),
 ao 23 (.ext (.t 19) 0),
 ao 24 (.ext (.t 19) 1),
 ao 6 (.mv (.t 23)),
 ao 7 (.mv (.t 24))] [1,2,5,6,7])) (.seq (.region false [
 ao 26 (.load (some 5) (.t 2)),
 ao 27 (.mv (.t 1)),
 ao 28 (.call 8 [(.t 26),(.t 27)]),
 ao 25 (.mv (.t 28)),
 ao 29 (.ext (.t 25) 0),
 ao 30 (.ext (.t 25) 1),
 ao 8 (.mv (.t 29)),
 ao 9 (.mv (.t 30))] [2,5,6,7,8,9]) (.seq (.region false [
 ao 32 (.load (some 5) (.t 5)),
 ao 33 (.call 9 [(.t 32)]),
 ao 31 (.mv (.t 33)),
 ao 34 (.ext (.t 31) 0),
 ao 35 (.ext (.t 31) 1),
 ao 10 (.mv (.t 34)),
 ao 11 (.mv (.t 35))] [2,5,6,7,8,9,10,11]) (.seq (.region false [
 ao 37 (.load (some 5) (.t 2)),
 ao 38 (.call 10 [(.t 37)]),
 ao 36 (.mv (.t 38)),
 ao 39 (.ext (.t 36) 0),
 ao 40 (.ext (.t 36) 1),
 ao 12 (.mv (.t 39)),
 ao 13 (.mv (.t 40))] [2,5,6,7,8,9,10,11,12,13]) (.seq (.region false [
 ao 41 (.mv (.t 6)),
 ao 42 (.mv (.t 8)),
 ao 43 (.bin .eql (.t 41) (.t 42)),
 ao 44 (.mv (.t 43)),
 ag 45 (.mv (.t 7)) 44 true [],
 ag 46 (.mv (.t 9)) 44 true [],
 ag 47 (.bin .eql (.t 45) (.t 46)) 44 true [],
 ao 48 (.pick (.t 44) (.t 47) (.c (.bool false))),
 ao 49 (.mv (.t 48)),
 ag 50 (.mv (.t 10)) 49 true [],
 ag 51 (.mv (.t 12)) 49 true [],
 ag 52 (.bin .eql (.t 50) (.t 51)) 49 true [],
 ao 53 (.pick (.t 49) (.t 52) (.c (.bool false))),
 ao 54 (.mv (.t 53)),
 ag 55 (.mv (.t 11)) 54 true [],
 ag 56 (.mv (.t 13)) 54 true [],
 ag 57 (.bin .eql (.t 55) (.t 56)) 54 true [],
 ao 58 (.pick (.t 54) (.t 57) (.c (.bool false))),
 ao 59 (.mv (.t 58)),
 ag 60 (.load (some 5) (.t 5)) 59 true [],
 ag 61 (.load (some 5) (.t 2)) 59 true [],
 ag 62 (.call 11 [(.t 60),(.t 61)]) 59 true [],
 ao 63 (.pick (.t 59) (.t 62) (.c (.bool false))),
 ao 64 (.mv (.t 63)),
 ag 65 (.call 5 []) 64 true [],
 ao 66 (.pick (.t 64) (.t 65) (.c (.bool false))),
 ao 4 (.mv (.t 66))] [4]) (.ret))))))))
def a3:AFn:=⟨2,[.t 4],b3,false⟩
def n3:Ann:=⟨[[1,2],[1,2,15],[4],[1,2,5],[1,2,5,6,7],[2,5,6,7,8,9],[2,5,6,7,8,9,10,11],[2,5,6,7,8,9,10,11,12,13],[4]],[],[],[[],[],[],[],[288,1288,2288,3288,4288,5288,6288,7288,8288],[],[],[],[]],[],false,[(56,608),(55,528),(51,608),(50,528),(46,448),(45,352),(42,448),(41,352),(13,608),(12,608),(40,608),(39,608),(36,608),(11,528),(10,528),(35,528),(34,528),(31,528),(9,448),(8,448),(30,448),(29,448),(25,448),(7,352),(6,352),(24,352),(23,352),(19,352),(4,256)]⟩
def b4:AC:=
 .seq (.region false [
 ao 1 (.box (.t 0)),
 ao 2 (.mv (.c (.bool false)))] [1]) (.seq (.region false [
 ao 3 (.load (some 5) (.t 1)),
 ao 4 (.call 12 [(.t 3)]),
 ao 5 (.mv (.t 4)),
 ag 6 (.faddr 3 (.t 1)) 5 false [],
 ag 7 (.load none (.t 6)) 5 false [],
 ag 8 (.len (.t 7)) 5 false [],
 ag 9 (.bin .gtr (.t 8) (.c (i64 4))) 5 false [],
 ag 10 (.mv (.t 9)) 5 false [],
 ag 11 (.faddr 3 (.t 1)) 10 false [],
 ag 12 (.load none (.t 11)) 10 false [],
 ag 13 (.len (.t 12)) 10 false [],
 ag 14 (.bin .gtr (.t 13) (.c (i64 3))) 10 false [],
 ag 15 (.mv (.t 14)) 10 false [],
 ag 16 (.faddr 4 (.t 1)) 15 true [],
 ag 17 (.load none (.t 16)) 15 true [],
 ag 18 (.len (.t 17)) 15 true [],
 ag 19 (.bin .gtr (.t 18) (.c (i64 2))) 15 true [],
 ag 20 (.pick (.t 15) (.t 19) (.c (.bool false))) 10 false [],
 ag 21 (.pick (.t 10) (.c (.bool true)) (.t 20)) 5 false [],
 ag 22 (.mv (.t 21)) 5 false [],
 ag 23 (.load (some 5) (.t 1)) 22 true [],
 ag 24 (.call 13 [(.t 23)]) 22 true [],
 ag 25 (.bin .eql (.t 24) (.c (i64 0))) 22 true [],
 ag 26 (.pick (.t 22) (.t 25) (.c (.bool false))) 5 false [],
 ao 27 (.pick (.t 5) (.c (.bool true)) (.t 26)),
 ao 2 (.mv (.t 27))] [2]) (.ret))
def a4:AFn:=⟨1,[.t 2],b4,false⟩
def n4:Ann:=⟨[[1],[2]],[],[],[],[],false,[(5,64)]⟩
def b5:AC:=
 .seq (.region false [
 ao 0 (.mv (.c (.bool false)))] []) (.seq (.region false [
 ao 16 (.call 14 []),
 ao 15 (.mv (.t 16)),
 ao 17 (.ext (.t 15) 0),
 ao 18 (.ext (.t 15) 1),
 ao 1 (.alloc [(i64 0),(i64 0),(i64 0),(.sl .full 3 []),(.sl .full 2 [])]),
 ao 2 (.alloc [(i64 0),(i64 0),(i64 0),(.sl .full 3 []),(.sl .full 2 [])]),
 ⟨none, .store 5 (.t 1) (.t 17),none,[],[]⟩,
 ⟨none, .store 5 (.t 2) (.t 18),none,[],[]⟩] [1,2]) (.seq (.region false [
 ao 20 (.load (some 5) (.t 1)),
 ao 21 (.call 15 [(.t 20)]),
 ao 19 (.mv (.t 21)),
 ao 22 (.ext (.t 19) 0),
 ao 23 (.ext (.t 19) 1),
 ao 3 (.mv (.t 22)),
 ao 4 (.mv (.t 23))] [1,2,3,4]) (.seq (.region false [
 ao 25 (.load (some 5) (.t 1)),
 ao 26 (.call 16 [(.t 25)]),
 ao 24 (.mv (.t 26)),
 ao 27 (.ext (.t 24) 0),
 ao 28 (.ext (.t 24) 1),
 ao 5 (.mv (.t 27)),
 ao 6 (.mv (.t 28))] [1,2,3,4,5,6]) (.seq (.region false [
 ao 30 (.load (some 5) (.t 1)),
 ao 31 (.lit [(i64 0)] 1 [(0,(.c (i64 0)))]),
 ao 32 (.call 17 [(.t 30),(.t 31)]),
 ao 29 (.mv (.t 32)),
 ao 33 (.ext (.t 29) 0),
 ao 34 (.ext (.t 29) 1),
 ao 7 (.mv (.t 33)),
 ao 8 (.mv (.t 34))] [1,2,3,4,5,6,7,8]) (.seq (.region false [
 ao 36 (.load (some 5) (.t 1)),
 ao 37 (.lit [(i64 0)] 1 [(0,(.c (i64 1)))]),
 ao 38 (.call 18 [(.t 36),(.t 37)]),
 ao 35 (.mv (.t 38)),
 ao 39 (.ext (.t 35) 0),
 ao 40 (.ext (.t 35) 1),
 ao 9 (.mv (.t 39)),
 ao 10 (.mv (.t 40))] [1,2,3,4,5,6,7,8,9,10]) (.seq (.region false [
 ao 42 (.load (some 5) (.t 1)),
 ao 43 (.call 7 [(.t 42),(.c (i64 1))]),
 ao 41 (.mv (.t 43)),
 ao 44 (.ext (.t 41) 0),
 ao 45 (.ext (.t 41) 1),
 ao 11 (.mv (.t 44)),
 ao 12 (.mv (.t 45))] [2,3,4,5,6,7,8,9,10,11,12]) (.seq (.region false [
 ao 47 (.load (some 5) (.t 2)),
 ao 48 (.call 15 [(.t 47)]),
 ao 46 (.mv (.t 48)),
 ao 49 (.ext (.t 46) 0),
 ao 50 (.ext (.t 46) 1),
 ao 13 (.mv (.t 49)),
 ao 14 (.mv (.t 50))] [3,4,5,6,7,8,9,10,11,12,13,14]) (.seq (.region false [
 ao 51 (.mv (.t 4)),
 ao 52 (.bin .eql (.t 51) (.c (i64 0))),
 ao 53 (.mv (.t 52)),
 ag 54 (.mv (.t 6)) 53 true [],
 ag 55 (.bin .eql (.t 54) (.c (i64 0))) 53 true [],
 ao 56 (.pick (.t 53) (.t 55) (.c (.bool false))),
 ao 57 (.mv (.t 56)),
 ag 58 (.mv (.t 8)) 57 true [],
 ag 59 (.bin .eql (.t 58) (.c (i64 0))) 57 true [],
 ao 60 (.pick (.t 57) (.t 59) (.c (.bool false))),
 ao 61 (.mv (.t 60)),
 ag 62 (.mv (.t 10)) 61 true [],
 ag 63 (.bin .eql (.t 62) (.c (i64 0))) 61 true [],
 ao 64 (.pick (.t 61) (.t 63) (.c (.bool false))),
 ao 65 (.mv (.t 64)),
 ag 66 (.mv (.t 12)) 65 true [],
 ag 67 (.bin .eql (.t 66) (.c (i64 0))) 65 true [],
 ao 68 (.pick (.t 65) (.t 67) (.c (.bool false))),
 ao 69 (.mv (.t 68)),
 ag 70 (.mv (.t 14)) 69 true [],
 ag 71 (.bin .eql (.t 70) (.c (i64 0))) 69 true [],
 ao 72 (.pick (.t 69) (.t 71) (.c (.bool false))),
 ao 73 (.mv (.t 72)),
 ag 74 (.mv (.t 3)) 73 true [],
 ag 75 (.bin .eql (.t 74) (.c (i64 10))) 73 true [],
 ao 76 (.pick (.t 73) (.t 75) (.c (.bool false))),
 ao 77 (.mv (.t 76)),
 ag 78 (.mv (.t 5)) 77 true [],
 ag 79 (.lit [(i64 0)] 1 [(0,(.c (i64 1)))]) 77 true [],
 ag 80 (.call 19 [(.t 78),(.t 79)]) 77 true [],
 ao 81 (.pick (.t 77) (.t 80) (.c (.bool false))),
 ao 82 (.mv (.t 81)),
 ag 83 (.mv (.t 7)) 82 true [],
 ag 84 (.bin .eql (.t 83) (.c (i64 7))) 82 true [],
 ao 85 (.pick (.t 82) (.t 84) (.c (.bool false))),
 ao 86 (.mv (.t 85)),
 ag 87 (.mv (.t 9)) 86 true [],
 ag 88 (.lit [(i64 0)] 2 [(0,(.c (i64 1))),(1,(.c (i64 0)))]) 86 true [],
 ag 89 (.call 19 [(.t 87),(.t 88)]) 86 true [],
 ao 90 (.pick (.t 86) (.t 89) (.c (.bool false))),
 ao 91 (.mv (.t 90)),
 ag 92 (.mv (.t 11)) 91 true [],
 ag 93 (.bin .eql (.t 92) (.c (i64 1))) 91 true [],
 ao 94 (.pick (.t 91) (.t 93) (.c (.bool false))),
 ao 95 (.mv (.t 94)),
 ag 96 (.mv (.t 13)) 95 true [],
 ag 97 (.bin .eql (.t 96) (.c (i64 7))) 95 true [],
 ao 98 (.pick (.t 95) (.t 97) (.c (.bool false))),
 ao 0 (.mv (.t 98))] [0]) (.ret)))))))))
def a5:AFn:=⟨0,[.t 0],b5,false⟩
def n5:Ann:=⟨[[],[1,2],[1,2,3,4],[1,2,3,4,5,6],[1,2,3,4,5,6,7,8],[1,2,3,4,5,6,7,8,9,10],[2,3,4,5,6,7,8,9,10,11,12],[3,4,5,6,7,8,9,10,11,12,13,14],[0]],[],[],[],[],false,[(96,768),(92,688),(87,608),(83,512),(78,416),(74,336),(70,768),(66,688),(62,608),(58,512),(54,416),(51,336),(14,768),(13,768),(50,768),(49,768),(46,768),(12,688),(11,688),(45,688),(44,688),(41,688),(10,608),(9,608),(40,608),(39,608),(35,608),(8,512),(7,512),(34,512),(33,512),(29,512),(6,416),(5,416),(28,416),(27,416),(24,416),(4,336),(3,336),(23,336),(22,336),(19,336),(18,256),(17,256),(15,256)]⟩
def b6:AC:=
 .seq (.region false [
 ao 1 (.box (.t 0)),
 ao 2 (.alloc [(i64 0),(i64 0),(i64 0),(.sl .full 3 []),(.sl .full 2 [])])] [1,2]) (.seq (.region true (spl [
 ao 3 (.faddr 0 (.t 1)),
 ap 4 (.load none (.t 3)) [0],
 ao 5 (.faddr 1 (.t 1)),
 ap 6 (.load none (.t 5)) [2],
 ao 7 (.faddr 2 (.t 1)),
 ap 8 (.load none (.t 7)) [4],
 ao 9 (.lit [(i64 0),(i64 0),(.bool false)] 0 []),
 ao 10 (.faddr 3 (.t 1)),
 ap 11 (.load none (.t 10)) [7],
 ap 12 (.appm 3 24 (.t 9) (.t 11)) [6,8,7],
 ao 13 (.lit [(i64 0),(i64 0)] 0 []),
 ao 14 (.faddr 4 (.t 1)),
 ap 15 (.load none (.t 14)) [11],
 ap 16 (.appm 2 16 (.t 13) (.t 15)) [10,12,9,11,6,8,7]] [
 ap 17 (.build [(i64 0),(i64 0),(i64 0),(.sl .full 3 []),(.sl .full 2 [])] [(0,1,(.t 4)),(1,1,(.t 6)),(2,1,(.t 8)),(3,1,(.t 12)),(4,1,(.t 16))]) [1,3,5,13,0,2,4,10,12,9,11,6,8,7],
 ⟨none, .store 5 (.t 2) (.t 17),none,[14,1,3,5,13,0,2,4,10,12,9,11,6,8,7],[]⟩]) [2]) (.ret))
def a6:AFn:=⟨1,[.cell 2 (some 5)],b6,true⟩
def n6:Ann:=⟨[[1,2],[2]],[],[],[],[12,16],true,[]⟩
def b7:AC:=
 .seq (.region false [
 ao 2 (.box (.t 0)),
 ao 4 (.mv (.c (i64 0))),
 ao 5 (.mv (.c (i64 0)))] [1,2]) (.seq (.region true (spl [
 ao 13 (.load (some 5) (.t 2)),
 ao 14 (.mv (.t 1)),
 ao 15 (.faddr 4 (.t 2)),
 ap 16 (.load none (.t 15)) [2],
 ap 17 (.len (.t 16)) [3,2],
 ap 18 (.bin .sub (.t 17) (.c (i64 1))) [4,3,2],
 ap 19 (.call 21 [(.t 14),(.c (i64 0)),(.t 18)]) [1,5,4,3,2],
 ap 20 (.call 20 [(.t 13),(.t 19)]) [0,6,1,5,4,3,2],
 ap 12 (.mv (.t 20)) [7,0,6,1,5,4,3,2],
 ap 21 (.ext (.t 12) 0) [8,7,0,6,1,5,4,3,2],
 ap 22 (.ext (.t 12) 1) [8,7,0,6,1,5,4,3,2],
 ⟨(some 23), .ext (.t 12) 2,none,[8,7,0,6,1,5,4,3,2],[112]⟩,
 ao 7 (.alloc [(i64 0),(i64 0),(i64 0),(i64 0),(i64 0)]),
 ap 6 (.mv (.t 21)) [9,12,8,7,0,6,1,5,4,3,2],
 ⟨none, .store 5 (.t 7) (.t 22),none,[10,13,9,12,8,7,0,6,1,5,4,3,2],[]⟩] [
 ap 8 (.mv (.t 23)) [11,14,10,13,9,12,8,7,0,6,1,5,4,3,2]]) [1,2,7,8]) (.seq (.seq (.region false [
 ao 24 (.mv (.t 8)),
 ao 25 (.bin .neq (.t 24) (.c (i64 0)))] [1,2,7,8,25]) (.cond (.t 25) (.seq (.region false [
 ao 26 (.mv (.t 8)),
 ao 4 (.mv (.c (i64 0))),
 ao 5 (.mv (.t 26))] [4,5]) (.ret)) (.skip))) (.seq (.region false [
 ao 28 (.load (some 5) (.t 2)),
 ao 29 (.call 20 [(.t 28),(.c (.bool true))]),
 ao 27 (.mv (.t 29)),
 ao 30 (.ext (.t 27) 0),
 ao 31 (.ext (.t 27) 1),
 ao 32 (.ext (.t 27) 2),
 ao 10 (.alloc [(i64 0),(i64 0),(i64 0),(i64 0),(i64 0)]),
 ao 9 (.mv (.t 30)),
 ⟨none, .store 5 (.t 10) (.t 31),none,[],[]⟩,
 ao 11 (.mv (.t 32))] [1,7,9]) (.seq (.region false [
 ao 33 (.mv (.t 9)),
 ao 34 (.build [(i64 0),(i64 0)] [(1,1,(.c (i64 1)))]),
 ao 35 (.lit [(i64 0),(i64 0)] 1 [(0,(.t 34))]),
 ao 36 (.nilck (.t 33)),
 ao 37 (.faddr 0 (.t 36)),
 ao 38 (.faddr 4 (.t 37)),
 ⟨none, .store 1 (.t 38) (.t 35),none,[],[]⟩] [1,7,9]) (.seq (.region false [
 ao 39 (.mv (.t 1)),
 ao 40 (.faddr 2 (.t 7)),
 ao 41 (.idxa 3 1 (.t 40) (.t 39)),
 ao 42 (.load none (.t 41)),
 ao 43 (.build [(i64 0),(i64 0),(i64 0)] [(0,1,(.t 42))]),
 ao 44 (.faddr 2 (.t 7)),
 ⟨none, .store 3 (.t 44) (.t 43),none,[],[]⟩] [7,9]) (.seq (.block 0 (.seq (.region false [
 ao 46 (.mv (.t 9)),
 ao 47 (.load (some 5) (.t 7)),
 ao 48 (.call 22 [(.t 46),(.t 47)]),
 ao 49 (.bin .eql (.t 48) (.c (i64 1))),
 ao 45 (.mv (.t 49))] [7,9,45]) (.cond (.t 45) (.seq (.region false [
 ao 4 (.mv (.c (i64 1))),
 ao 5 (.mv (.c (i64 0)))] [4,5]) (.ret)) (.seq (.region false [
 ao 51 (.mv (.t 9)),
 ao 52 (.load (some 5) (.t 7)),
 ao 53 (.mkmap (some 5)),
 ao 54 (.call 23 [(.t 51),(.t 52),(.t 53)]),
 ao 55 (.un .not (.t 54)),
 ao 50 (.mv (.t 55))] [50]) (.cond (.t 50) (.seq (.region false [
 ao 4 (.mv (.c (i64 2))),
 ao 5 (.mv (.c (i64 0)))] [4,5]) (.ret)) (.skip)))))) (.seq (.region false [
 ao 4 (.mv (.c (i64 3))),
 ao 5 (.mv (.c (i64 0)))] [4,5]) (.ret))))))))
def a7:AFn:=⟨2,[.t 4, .t 5],b7,false⟩
def n7:Ann:=⟨[[1,2],[1,2,7,8],[1,2,7,8,25],[4,5],[1,7,9],[1,7,9],[7,9],[7,9,45],[4,5],[50],[4,5],[4,5]],[],[],[],[],false,[(51,464),(46,464),(33,464),(11,464),(9,464),(32,464),(31,464),(30,464),(27,464),(5,320),(26,320),(24,320),(8,320),(6,320),(23,320),(22,320),(21,320),(12,320)]⟩
def b8:AC:=
 .seq (.region false [
 ao 2 (.box (.t 0)),
 ao 4 (.mv (.c (i64 0))),
 ao 5 (.mv (.c (i64 0)))] [1,2]) (.seq (.seq (.region true (spl [
 ao 8 (.load (some 5) (.t 2)),
 ao 9 (.load (some 5) (.t 2)),
 ao 10 (.mv (.t 1)),
 ap 11 (.call 25 [(.t 9),(.t 10)]) [1,2]] [
 ap 12 (.call 24 [(.t 8),(.t 11)]) [0,3,1,2],
 ap 6 (.mv (.t 12)) [4,0,3,1,2]]) [1,2,6]) (.seq (.region false [
 ao 13 (.mv (.t 6)),
 ao 14 (.bin .neq (.t 13) (.c (i64 0)))] [1,2,6,14]) (.cond (.t 14) (.seq (.region false [
 ao 15 (.mv (.t 6)),
 ao 4 (.mv (.c (i64 0))),
 ao 5 (.mv (.t 15))] [4,5]) (.ret)) (.skip)))) (.seq (.region false [
 ao 16 (.load (some 5) (.t 2)),
 ao 17 (.mv (.t 1)),
 ao 18 (.call 26 [(.t 16),(.t 17)]),
 ao 7 (.alloc [(i64 0),(i64 0),(i64 0),(.sl .full 3 []),(.sl .full 2 [])]),
 ⟨none, .store 5 (.t 7) (.t 18),none,[],[]⟩] [7]) (.seq (.block 0 (.seq (.region false [
 ao 20 (.load (some 5) (.t 7)),
 ao 21 (.call 27 [(.t 20)]),
 ao 22 (.bin .gtr (.t 21) (.c (i64 0))),
 ao 19 (.mv (.t 22))] [7,19]) (.cond (.t 19) (.seq (.region false [
 ao 4 (.mv (.c (i64 1))),
 ao 5 (.mv (.c (i64 0)))] [4,5]) (.ret)) (.seq (.region false [
 ao 24 (.load (some 5) (.t 7)),
 ao 25 (.mkmap none),
 ao 26 (.call 28 [(.t 24),(.t 25)]),
 ao 27 (.un .not (.t 26)),
 ao 23 (.mv (.t 27))] [23]) (.cond (.t 23) (.seq (.region false [
 ao 4 (.mv (.c (i64 2))),
 ao 5 (.mv (.c (i64 0)))] [4,5]) (.ret)) (.skip)))))) (.seq (.region false [
 ao 4 (.mv (.c (i64 3))),
 ao 5 (.mv (.c (i64 0)))] [4,5]) (.ret)))))
def a8:AFn:=⟨2,[.t 4, .t 5],b8,false⟩
def n8:Ann:=⟨[[1,2],[1,2,6],[1,2,6,14],[4,5],[7],[7,19],[4,5],[23],[4,5],[4,5]],[],[],[],[],false,[(5,192),(15,192),(13,192),(6,192)]⟩
@[simp] def d9l0:AC:=
 .seq (.region false [
 ao 21 (.bin .lss (.t 20) (.t 19))] [4,5,19,20,21]) (.seq (.cond (.t 21) (.skip) (.exit 0)) (.seq (.block 1 (.seq (.region false [
 ao 22 (.mv (.t 20)),
 ao 7 (.mv (.t 22))] [4,5,7,19,20]) (.region false [
 ao 23 (.mv (.t 7)),
 ao 24 (.mv (.t 7)),
 ao 25 (.faddr 2 (.t 5)),
 ao 26 (.idxa 3 1 (.t 25) (.t 24)),
 ao 27 (.load none (.t 26)),
 ao 28 (.bin .shl (.c (i64 1)) (.t 27)),
 ao 29 (.faddr 2 (.t 5)),
 ao 30 (.idxa 3 1 (.t 29) (.t 23)),
 ⟨none, .store 1 (.t 30) (.t 28),none,[],[]⟩] [4,5,19,20]))) (.region false [
 ao 31 (.bin .add (.t 20) (.c (i64 1))),
 ao 20 (.mv (.t 31))] [4,5,19,20])))
def b9l0:AC:= .loop [4,5,19,20] [16,80,160,1160] d9l0
def b9:AC:=
 .seq (.region false [
 ao 1 (.box (.t 0)),
 ao 2 (.mv (.c (i64 0))),
 ao 3 (.mv (.c (i64 0)))] [1]) (.seq (.region false [
 ao 9 (.load (some 5) (.t 1)),
 ao 10 (.call 20 [(.t 9),(.c (.bool true))]),
 ao 8 (.mv (.t 10)),
 ao 11 (.ext (.t 8) 0),
 ao 12 (.ext (.t 8) 1),
 ao 13 (.ext (.t 8) 2),
 ao 5 (.alloc [(i64 0),(i64 0),(i64 0),(i64 0),(i64 0)]),
 ao 4 (.mv (.t 11)),
 ⟨none, .store 5 (.t 5) (.t 12),none,[],[]⟩,
 ao 6 (.mv (.t 13))] [1,4,5,6]) (.seq (.seq (.region false [
 ao 14 (.mv (.t 6)),
 ao 15 (.bin .neq (.t 14) (.c (i64 0)))] [1,4,5,6,15]) (.cond (.t 15) (.seq (.region false [
 ao 16 (.mv (.t 6)),
 ao 2 (.mv (.c (i64 0))),
 ao 3 (.mv (.t 16))] [2,3]) (.ret)) (.skip))) (.seq (.seq (.region false [
 ao 17 (.faddr 4 (.t 1)),
 ao 18 (.load none (.t 17)),
 ao 19 (.len (.t 18)),
 ao 20 (.mv (.c (i64 0)))] [4,5,19,20]) (.block 0 (b9l0))) (.seq (.region false [
 ao 32 (.mv (.t 4)),
 ao 33 (.load (some 5) (.t 5)),
 ao 34 (.mkmap (some 5)),
 ao 35 (.call 29 [(.t 32),(.t 33),(.t 34)]),
 ao 2 (.mv (.t 35)),
 ao 3 (.mv (.c (i64 0)))] [2,3]) (.ret)))))
def a9:AFn:=⟨1,[.t 2, .t 3],b9,false⟩
def n9:Ann:=⟨[[1],[1,4,5,6],[1,4,5,6,15],[2,3],[4,5,19,20],[4,5,19,20,21],[4,5,7,19,20],[4,5,19,20],[4,5,19,20],[2,3]],[⟨[],[4,5,19,20],[16,80,160,1160]⟩],[],[],[],false,[(2,560),(32,160),(3,160),(16,160),(14,160),(6,160),(4,160),(13,160),(12,160),(11,160),(8,160)]⟩
@[simp] def d10l0:AC:=
 .seq (.seq (.region false [
 ao 12 (.mv (.t 6)),
 ao 13 (.faddr 4 (.t 1)),
 ao 14 (.load none (.t 13)),
 ao 15 (.len (.t 14)),
 ao 16 (.bin .lss (.t 12) (.t 15))] [1,5,6,16]) (.cond (.t 16) (.skip) (.exit 0))) (.seq (.block 1 (.region false [
 ao 19 (.mv (.t 5)),
 ao 20 (.faddr 4 (.t 1)),
 ao 21 (.load none (.t 20)),
 ao 22 (.mv (.t 6)),
 ao 23 (.idxs 2 (.t 21) (.t 22)),
 ao 24 (.faddr 0 (.t 23)),
 ao 25 (.load none (.t 24)),
 ao 26 (.lit [(i64 0)] 1 [(0,(.t 25))]),
 ao 27 (.lit [(.sl .full 1 [])] 1 [(0,(.t 26))]),
 ao 28 (.app 1 24 (.t 19) (.t 27)),
 ao 5 (.mv (.t 28))] [1,5,6])) (.region false [
 ao 17 (.mv (.t 6)),
 ao 18 (.bin .add (.t 17) (.c (i64 1))),
 ao 6 (.mv (.t 18))] [1,5,6]))
def b10l0:AC:= .loop [1,5,6] [16,81,128,496,512] d10l0
def b10:AC:=
 .seq (.region false [
 ao 1 (.box (.t 0)),
 ao 2 (.mv (.c (i64 0))),
 ao 3 (.mv (.c (i64 0)))] [1]) (.seq (.seq (.region false [
 ao 7 (.load (some 5) (.t 1)),
 ao 8 (.call 13 [(.t 7)]),
 ao 4 (.mv (.t 8))] [1,4]) (.seq (.region false [
 ao 9 (.mv (.t 4)),
 ao 10 (.bin .neq (.t 9) (.c (i64 0)))] [1,4,10]) (.cond (.t 10) (.seq (.region false [
 ao 11 (.mv (.t 4)),
 ao 2 (.mv (.c (i64 0))),
 ao 3 (.mv (.t 11))] [2,3]) (.ret)) (.skip)))) (.seq (.region false [
 ao 5 (.mv (.c (.sl .full 1 [])))] [1,5]) (.seq (.seq (.region false [
 ao 6 (.mv (.c (i64 0)))] [1,5,6]) (.block 0 (.seq (.thaw 5 81 1) (b10l0)))) (.seq (.region false [
 ao 29 (.load (some 5) (.t 1)),
 ao 30 (.mv (.t 5)),
 ao 31 (.mkmap none),
 ao 32 (.call 30 [(.t 29),(.t 30),(.t 31)]),
 ao 2 (.mv (.t 32)),
 ao 3 (.mv (.c (i64 0)))] [2,3]) (.ret)))))
def a10:AFn:=⟨1,[.t 2, .t 3],b10,false⟩
def n10:Ann:=⟨[[1],[1,4],[1,4,10],[2,3],[1,5],[1,5,6],[1,5,6,16],[1,5,6],[1,5,6],[2,3]],[⟨[.t 5 81 1],[1,5,6],[16,81,128,496,512]⟩],[],[],[],false,[(2,512),(3,128),(11,128),(9,128),(4,128)]⟩
@[simp] def d11l0:AC:=
 .seq (.seq (.region false [
 ao 44 (.mv (.t 5)),
 ao 45 (.faddr 3 (.t 2)),
 ao 46 (.load none (.t 45)),
 ao 47 (.len (.t 46)),
 ao 48 (.bin .lss (.t 44) (.t 47))] [2,3,5,48]) (.cond (.t 48) (.skip) (.exit 0))) (.seq (.block 1 (.seq (.region true (spl [
 ao 51 (.faddr 3 (.t 2)),
 ap 52 (.load none (.t 51)) [0],
 ao 53 (.mv (.t 5)),
 ap 54 (.idxs 3 (.t 52) (.t 53)) [1,2,0],
 ap 55 (.load (some 3) (.t 54)) [3,1,2,0],
 ao 56 (.faddr 3 (.t 3)),
 ap 57 (.load none (.t 56)) [5],
 ao 58 (.mv (.t 5)),
 ap 59 (.idxs 3 (.t 57) (.t 58)) [6,7,5],
 ap 60 (.load (some 3) (.t 59)) [8,6,7,5]] [
 ap 61 (.eqa [true,true,false] true (.t 55) (.t 60)) [4,9,3,1,2,0,8,6,7,5]]) [2,3,5,61]) (.cond (.t 61) (.seq (.region false [
 ao 4 (.mv (.c (.bool false)))] [4]) (.ret)) (.skip)))) (.region false [
 ao 49 (.mv (.t 5)),
 ao 50 (.bin .add (.t 49) (.c (i64 1))),
 ao 5 (.mv (.t 50))] [2,3,5]))
def b11l0:AC:= .loop [2,3,5] [32,48] d11l0
@[simp] def d11l1:AC:=
 .seq (.seq (.region false [
 ao 62 (.mv (.t 6)),
 ao 63 (.faddr 4 (.t 2)),
 ao 64 (.load none (.t 63)),
 ao 65 (.len (.t 64)),
 ao 66 (.bin .lss (.t 62) (.t 65))] [2,3,6,66]) (.cond (.t 66) (.skip) (.exit 2))) (.seq (.block 3 (.seq (.region true (spl [
 ao 69 (.faddr 4 (.t 2)),
 ap 70 (.load none (.t 69)) [0],
 ao 71 (.mv (.t 6)),
 ap 72 (.idxs 2 (.t 70) (.t 71)) [1,2,0],
 ap 73 (.load (some 2) (.t 72)) [3,1,2,0],
 ao 74 (.faddr 4 (.t 3)),
 ap 75 (.load none (.t 74)) [5],
 ao 76 (.mv (.t 6)),
 ap 77 (.idxs 2 (.t 75) (.t 76)) [6,7,5],
 ap 78 (.load (some 2) (.t 77)) [8,6,7,5]] [
 ap 79 (.eqa [true,true] true (.t 73) (.t 78)) [4,9,3,1,2,0,8,6,7,5]]) [2,3,6,79]) (.cond (.t 79) (.seq (.region false [
 ao 4 (.mv (.c (.bool false)))] [4]) (.ret)) (.skip)))) (.region false [
 ao 67 (.mv (.t 6)),
 ao 68 (.bin .add (.t 67) (.c (i64 1))),
 ao 6 (.mv (.t 68))] [2,3,6]))
def b11l1:AC:= .loop [2,3,6] [32,48] d11l1
def b11:AC:=
 .seq (.region false [
 ao 2 (.box (.t 0)),
 ao 3 (.box (.t 1)),
 ao 4 (.mv (.c (.bool false)))] [2,3]) (.seq (.seq (.region false [
 ao 7 (.faddr 0 (.t 2)),
 ao 8 (.load none (.t 7)),
 ao 9 (.faddr 0 (.t 3)),
 ao 10 (.load none (.t 9)),
 ao 11 (.bin .neq (.t 8) (.t 10)),
 ao 12 (.mv (.t 11)),
 ag 13 (.faddr 1 (.t 2)) 12 false [],
 ag 14 (.load none (.t 13)) 12 false [],
 ag 15 (.faddr 1 (.t 3)) 12 false [],
 ag 16 (.load none (.t 15)) 12 false [],
 ag 17 (.bin .neq (.t 14) (.t 16)) 12 false [],
 ao 18 (.pick (.t 12) (.c (.bool true)) (.t 17)),
 ao 19 (.mv (.t 18)),
 ag 20 (.faddr 2 (.t 2)) 19 false [],
 ag 21 (.load none (.t 20)) 19 false [],
 ag 22 (.faddr 2 (.t 3)) 19 false [],
 ag 23 (.load none (.t 22)) 19 false [],
 ag 24 (.bin .neq (.t 21) (.t 23)) 19 false [],
 ao 25 (.pick (.t 19) (.c (.bool true)) (.t 24)),
 ao 26 (.mv (.t 25)),
 ag 27 (.faddr 3 (.t 2)) 26 false [],
 ag 28 (.load none (.t 27)) 26 false [],
 ag 29 (.len (.t 28)) 26 false [],
 ag 30 (.faddr 3 (.t 3)) 26 false [],
 ag 31 (.load none (.t 30)) 26 false [],
 ag 32 (.len (.t 31)) 26 false [],
 ag 33 (.bin .neq (.t 29) (.t 32)) 26 false [],
 ao 34 (.pick (.t 26) (.c (.bool true)) (.t 33)),
 ao 35 (.mv (.t 34)),
 ag 36 (.faddr 4 (.t 2)) 35 false [],
 ag 37 (.load none (.t 36)) 35 false [],
 ag 38 (.len (.t 37)) 35 false [],
 ag 39 (.faddr 4 (.t 3)) 35 false [],
 ag 40 (.load none (.t 39)) 35 false [],
 ag 41 (.len (.t 40)) 35 false [],
 ag 42 (.bin .neq (.t 38) (.t 41)) 35 false [],
 ao 43 (.pick (.t 35) (.c (.bool true)) (.t 42))] [2,3,43]) (.cond (.t 43) (.seq (.region false [
 ao 4 (.mv (.c (.bool false)))] [4]) (.ret)) (.skip))) (.seq (.seq (.region false [
 ao 5 (.mv (.c (i64 0)))] [2,3,5]) (.block 0 (b11l0))) (.seq (.seq (.region false [
 ao 6 (.mv (.c (i64 0)))] [2,3,6]) (.block 2 (b11l1))) (.seq (.region false [
 ao 4 (.mv (.c (.bool true)))] [4]) (.ret)))))
def a11:AFn:=⟨2,[.t 4],b11,false⟩
def n11:Ann:=⟨[[2,3],[2,3,43],[4],[2,3,5],[2,3,5,48],[2,3,5,61],[4],[2,3,5],[2,3,6],[2,3,6,66],[2,3,6,79],[4],[2,3,6],[4]],[⟨[],[2,3,5],[32,48]⟩,⟨[],[2,3,6],[32,48]⟩],[],[],[],false,[]⟩
def b12:AC:=
 .seq (.region false [
 ao 1 (.box (.t 0)),
 ao 2 (.mv (.c (.bool false)))] [1]) (.seq (.region false [
 ao 3 (.faddr 3 (.t 1)),
 ao 4 (.load none (.t 3)),
 ao 5 (.len (.t 4)),
 ao 6 (.bin .gtr (.t 5) (.c (i64 40))),
 ao 7 (.mv (.t 6)),
 ag 8 (.faddr 4 (.t 1)) 7 false [],
 ag 9 (.load none (.t 8)) 7 false [],
 ag 10 (.len (.t 9)) 7 false [],
 ag 11 (.bin .gtr (.t 10) (.c (i64 40))) 7 false [],
 ao 12 (.pick (.t 7) (.c (.bool true)) (.t 11)),
 ao 2 (.mv (.t 12))] [2]) (.ret))
def a12:AFn:=⟨1,[.t 2],b12,false⟩
def n12:Ann:=⟨[[1],[2]],[],[],[],[],false,[]⟩
@[simp] def d13l0:AC:=
 .seq (.seq (.region false [
 ao 35 (.mv (.t 3)),
 ao 36 (.faddr 3 (.t 1)),
 ao 37 (.load none (.t 36)),
 ao 38 (.len (.t 37)),
 ao 39 (.bin .lss (.t 35) (.t 38))] [1,3,39]) (.cond (.t 39) (.skip) (.exit 0))) (.seq (.block 1 (.seq (.region false [
 ao 42 (.faddr 3 (.t 1)),
 ao 43 (.load none (.t 42)),
 ao 44 (.mv (.t 3)),
 ao 45 (.idxs 3 (.t 43) (.t 44)),
 ao 46 (.load (some 3) (.t 45)),
 ao 4 (.alloc [(i64 0),(i64 0),(.bool false)]),
 ⟨none, .store 3 (.t 4) (.t 46),none,[],[]⟩] [1,3,4]) (.seq (.region false [
 ao 47 (.load (some 5) (.t 1)),
 ao 48 (.faddr 0 (.t 4)),
 ao 49 (.load none (.t 48)),
 ao 50 (.call 32 [(.t 47),(.t 49)]),
 ao 51 (.un .not (.t 50)),
 ao 52 (.mv (.t 51)),
 ag 53 (.load (some 5) (.t 1)) 52 false [],
 ag 54 (.faddr 1 (.t 4)) 52 false [],
 ag 55 (.load none (.t 54)) 52 false [],
 ag 56 (.call 32 [(.t 53),(.t 55)]) 52 false [],
 ag 57 (.un .not (.t 56)) 52 false [],
 ao 58 (.pick (.t 52) (.c (.bool true)) (.t 57)),
 ao 59 (.mv (.t 58)),
 ag 60 (.faddr 0 (.t 4)) 59 false [],
 ag 61 (.load none (.t 60)) 59 false [],
 ag 62 (.faddr 1 (.t 4)) 59 false [],
 ag 63 (.load none (.t 62)) 59 false [],
 ag 64 (.bin .eql (.t 61) (.t 63)) 59 false [],
 ao 65 (.pick (.t 59) (.c (.bool true)) (.t 64))] [1,3,65]) (.cond (.t 65) (.seq (.region false [
 ao 2 (.mv (.c (i64 30)))] [2]) (.ret)) (.skip))))) (.region false [
 ao 40 (.mv (.t 3)),
 ao 41 (.bin .add (.t 40) (.c (i64 1))),
 ao 3 (.mv (.t 41))] [1,3]))
def b13l0:AC:= .loop [1,3] [16,96,144,224,320,1296,1376] d13l0
@[simp] def d13l1:AC:=
 .seq (.seq (.region false [
 ao 66 (.mv (.t 5)),
 ao 67 (.faddr 4 (.t 1)),
 ao 68 (.load none (.t 67)),
 ao 69 (.len (.t 68)),
 ao 70 (.bin .lss (.t 66) (.t 69))] [1,5,70]) (.cond (.t 70) (.skip) (.exit 2))) (.seq (.block 3 (.seq (.region false [
 ao 73 (.faddr 4 (.t 1)),
 ao 74 (.load none (.t 73)),
 ao 75 (.mv (.t 5)),
 ao 76 (.idxs 2 (.t 74) (.t 75)),
 ao 77 (.load (some 2) (.t 76)),
 ao 6 (.alloc [(i64 0),(i64 0)]),
 ⟨none, .store 2 (.t 6) (.t 77),none,[],[]⟩] [1,5,6]) (.seq (.region false [
 ao 78 (.load (some 5) (.t 1)),
 ao 79 (.faddr 0 (.t 6)),
 ao 80 (.load none (.t 79)),
 ao 81 (.call 32 [(.t 78),(.t 80)]),
 ao 82 (.un .not (.t 81)),
 ao 83 (.mv (.t 82)),
 ag 84 (.faddr 1 (.t 6)) 83 false [],
 ag 85 (.load none (.t 84)) 83 false [],
 ag 86 (.call 31 [(.t 85),(.c (i64 0)),(.c (i64 99))]) 83 false [],
 ag 87 (.un .not (.t 86)) 83 false [],
 ao 88 (.pick (.t 83) (.c (.bool true)) (.t 87))] [1,5,88]) (.cond (.t 88) (.seq (.region false [
 ao 2 (.mv (.c (i64 30)))] [2]) (.ret)) (.skip))))) (.region false [
 ao 71 (.mv (.t 5)),
 ao 72 (.bin .add (.t 71) (.c (i64 1))),
 ao 5 (.mv (.t 72))] [1,5]))
def b13l1:AC:= .loop [1,5] [16,64,144,224,320,800,896] d13l1
def b13:AC:=
 .seq (.region false [
 ao 1 (.box (.t 0)),
 ao 2 (.mv (.c (i64 0)))] [1]) (.seq (.seq (.region false [
 ao 7 (.faddr 0 (.t 1)),
 ao 8 (.load none (.t 7)),
 ao 9 (.call 31 [(.t 8),(.c (i64 1)),(.c (i64 4))]),
 ao 10 (.un .not (.t 9)),
 ao 11 (.mv (.t 10)),
 ag 12 (.faddr 1 (.t 1)) 11 false [],
 ag 13 (.load none (.t 12)) 11 false [],
 ag 14 (.call 31 [(.t 13),(.c (i64 0)),(.c (i64 4))]) 11 false [],
 ag 15 (.un .not (.t 14)) 11 false [],
 ao 16 (.pick (.t 11) (.c (.bool true)) (.t 15)),
 ao 17 (.mv (.t 16)),
 ag 18 (.faddr 2 (.t 1)) 17 false [],
 ag 19 (.load none (.t 18)) 17 false [],
 ag 20 (.call 31 [(.t 19),(.c (i64 0)),(.c (i64 3))]) 17 false [],
 ag 21 (.un .not (.t 20)) 17 false [],
 ao 22 (.pick (.t 17) (.c (.bool true)) (.t 21)),
 ao 23 (.mv (.t 22)),
 ag 24 (.faddr 3 (.t 1)) 23 false [],
 ag 25 (.load none (.t 24)) 23 false [],
 ag 26 (.len (.t 25)) 23 false [],
 ag 27 (.bin .gtr (.t 26) (.c (i64 5))) 23 false [],
 ao 28 (.pick (.t 23) (.c (.bool true)) (.t 27)),
 ao 29 (.mv (.t 28)),
 ag 30 (.faddr 4 (.t 1)) 29 false [],
 ag 31 (.load none (.t 30)) 29 false [],
 ag 32 (.len (.t 31)) 29 false [],
 ag 33 (.bin .gtr (.t 32) (.c (i64 3))) 29 false [],
 ao 34 (.pick (.t 29) (.c (.bool true)) (.t 33))] [1,34]) (.cond (.t 34) (.seq (.region false [
 ao 2 (.mv (.c (i64 30)))] [2]) (.ret)) (.skip))) (.seq (.seq (.region false [
 ao 3 (.mv (.c (i64 0)))] [1,3]) (.block 0 (b13l0))) (.seq (.seq (.region false [
 ao 5 (.mv (.c (i64 0)))] [1,5]) (.block 2 (b13l1))) (.seq (.region false [
 ao 2 (.mv (.c (i64 0)))] [2]) (.ret)))))
def a13:AFn:=⟨1,[.t 2],b13,false⟩
def n13:Ann:=⟨[[1],[1,34],[2],[1,3],[1,3,39],[1,3,4],[1,3,65],[2],[1,3],[1,5],[1,5,70],[1,5,6],[1,5,88],[2],[1,5],[2]],[⟨[],[1,3],[16,96,144,224,320,1296,1376]⟩,⟨[],[1,5],[16,64,144,224,320,800,896]⟩],[],[],[],false,[]⟩
def b14:AC:=
 .seq (.region false [
 ao 0 (.alloc [(i64 0),(i64 0),(i64 0),(.sl .full 3 []),(.sl .full 2 [])]),
 ao 1 (.alloc [(i64 0),(i64 0),(i64 0),(.sl .full 3 []),(.sl .full 2 [])])] [0,1]) (.seq (.region false [
 ao 2 (.build [(i64 0),(i64 0),(.bool false)] [(0,1,(.c (i64 0))),(1,1,(.c (i64 1))),(2,1,(.c (.bool true)))]),
 ao 3 (.build [(i64 0),(i64 0),(.bool false)] [(0,1,(.c (i64 1))),(1,1,(.c (i64 2)))]),
 ao 4 (.lit [(i64 0),(i64 0),(.bool false)] 2 [(0,(.t 2)),(1,(.t 3))]),
 ao 5 (.build [(i64 0),(i64 0)] [(0,1,(.c (i64 0))),(1,1,(.c (i64 10)))]),
 ao 6 (.build [(i64 0),(i64 0)] [(0,1,(.c (i64 1))),(1,1,(.c (i64 7)))]),
 ao 7 (.lit [(i64 0),(i64 0)] 2 [(0,(.t 5)),(1,(.t 6))]),
 ao 8 (.build [(i64 0),(i64 0),(i64 0),(.sl .full 3 []),(.sl .full 2 [])] [(0,1,(.c (i64 3))),(1,1,(.c (i64 2))),(2,1,(.c (i64 1))),(3,1,(.t 4)),(4,1,(.t 7))]),
 ⟨none, .store 5 (.t 0) (.t 8),none,[],[]⟩] [0,1]) (.seq (.region true (spl [
 ao 9 (.load (some 5) (.t 0)),
 ao 10 (.load (some 5) (.t 0)),
 ao 11 (.lit [(i64 0)] 1 [(0,(.c (i64 0)))]),
 ap 12 (.call 33 [(.t 10),(.t 11)]) [1,2]] [
 ⟨none, .store 5 (.t 0) (.t 9),none,[3,0,1,2],[]⟩,
 ⟨none, .store 5 (.t 1) (.t 12),none,[4,3,0,1,2],[]⟩]) [0,1]) (.ret)))
def a14:AFn:=⟨0,[.cell 0 (some 5), .cell 1 (some 5)],b14,false⟩
def n14:Ann:=⟨[[0,1],[0,1],[0,1]],[],[],[],[],false,[]⟩
def b15:AC:=
 .seq (.region false [
 ao 1 (.box (.t 0)),
 ao 2 (.mv (.c (i64 0))),
 ao 3 (.mv (.c (i64 0)))] [1]) (.seq (.region false [
 ao 8 (.load (some 5) (.t 1)),
 ao 9 (.call 20 [(.t 8),(.c (.bool true))]),
 ao 7 (.mv (.t 9)),
 ao 10 (.ext (.t 7) 0),
 ao 11 (.ext (.t 7) 1),
 ao 12 (.ext (.t 7) 2),
 ao 5 (.alloc [(i64 0),(i64 0),(i64 0),(i64 0),(i64 0)]),
 ao 4 (.mv (.t 10)),
 ⟨none, .store 5 (.t 5) (.t 11),none,[],[]⟩,
 ao 6 (.mv (.t 12))] [4,5,6]) (.seq (.seq (.region false [
 ao 13 (.mv (.t 6)),
 ao 14 (.bin .neq (.t 13) (.c (i64 0)))] [4,5,6,14]) (.cond (.t 14) (.seq (.region false [
 ao 15 (.mv (.t 6)),
 ao 2 (.mv (.c (i64 0))),
 ao 3 (.mv (.t 15))] [2,3]) (.ret)) (.skip))) (.seq (.region false [
 ao 16 (.mv (.t 4)),
 ao 17 (.load (some 5) (.t 5)),
 ao 18 (.call 22 [(.t 16),(.t 17)]),
 ao 2 (.mv (.t 18)),
 ao 3 (.mv (.c (i64 0)))] [2,3]) (.ret))))
def a15:AFn:=⟨1,[.t 2, .t 3],b15,false⟩
def n15:Ann:=⟨[[1],[4,5,6],[4,5,6,14],[2,3],[2,3]],[],[],[],[],false,[(2,288),(16,144),(3,144),(15,144),(13,144),(6,144),(4,144),(12,144),(11,144),(10,144),(7,144)]⟩
@[simp] def d16l0:AC:=
 .seq (.region false [
 ao 27 (.bin .lss (.t 26) (.t 25))] [4,5,24,25,26,27]) (.seq (.cond (.t 27) (.skip) (.exit 0)) (.seq (.block 1 (.seq (.region false [
 ao 28 (.idxs 1 (.t 24) (.t 26)),
 ao 29 (.load none (.t 28)),
 ao 8 (.mv (.t 29))] [4,5,8,24,25,26]) (.seq (.region true (spl [
 ao 30 (.mv (.t 4)),
 ao 31 (.load (some 5) (.t 5)),
 ao 32 (.mv (.t 8)),
 ap 33 (.call 34 [(.t 30),(.t 31),(.t 32)]) [0,1,2],
 ⟨(some 34), .mv (.t 4),none,[],[999999]⟩,
 ⟨(some 35), .load (some 5) (.t 5),none,[],[999999]⟩] [
 ap 36 (.call 22 [(.t 34),(.t 35)]) [4,5,3,0,1,2],
 ap 37 (.bin .eql (.t 33) (.t 36)) [6,4,5,3,0,1,2]]) [4,5,8,24,25,26,37]) (.cond (.t 37) (.seq (.region false [
 ao 38 (.mv (.t 8)),
 ao 39 (.call 35 [(.t 38)]),
 ao 2 (.mv (.t 39)),
 ao 3 (.mv (.c (i64 0)))] [2,3]) (.ret)) (.skip))))) (.region false [
 ao 40 (.bin .add (.t 26) (.c (i64 1))),
 ao 26 (.mv (.t 40))] [4,5,24,25,26])))
def b16l0:AC:= .loop [4,5,24,25,26] [16,80,176,1176] d16l0
def b16:AC:=
 .seq (.region false [
 ao 1 (.box (.t 0)),
 ao 2 (.mv (.c (.sl .full 1 []))),
 ao 3 (.mv (.c (i64 0)))] [1]) (.seq (.region false [
 ao 10 (.load (some 5) (.t 1)),
 ao 11 (.call 20 [(.t 10),(.c (.bool true))]),
 ao 9 (.mv (.t 11)),
 ao 12 (.ext (.t 9) 0),
 ao 13 (.ext (.t 9) 1),
 ao 14 (.ext (.t 9) 2),
 ao 5 (.alloc [(i64 0),(i64 0),(i64 0),(i64 0),(i64 0)]),
 ao 4 (.mv (.t 12)),
 ⟨none, .store 5 (.t 5) (.t 13),none,[],[]⟩,
 ao 6 (.mv (.t 14))] [4,5,6]) (.seq (.seq (.region false [
 ao 15 (.mv (.t 6)),
 ao 16 (.bin .neq (.t 15) (.c (i64 0)))] [4,5,6,16]) (.cond (.t 16) (.seq (.region false [
 ao 17 (.mv (.t 6)),
 ao 2 (.mv (.c (.sl .full 1 []))),
 ao 3 (.mv (.t 17))] [2,3]) (.ret)) (.skip))) (.seq (.seq (.region false [
 ao 18 (.faddr 0 (.t 5)),
 ao 19 (.load none (.t 18)),
 ao 20 (.bin .gtr (.t 19) (.c (i64 0)))] [4,5,20]) (.cond (.t 20) (.seq (.region false [
 ao 21 (.mv (.t 4)),
 ao 22 (.nilck (.t 21)),
 ao 23 (.faddr 5 (.t 22)),
 ao 24 (.load none (.t 23)),
 ao 25 (.len (.t 24)),
 ao 26 (.mv (.c (i64 0)))] [4,5,24,25,26]) (.block 0 (b16l0))) (.skip))) (.seq (.region false [
 ao 2 (.mv (.c (.sl .full 1 []))),
 ao 3 (.mv (.c (i64 3)))] [2,3]) (.ret)))))
def a16:AFn:=⟨1,[.t 2, .t 3],b16,false⟩
def n16:Ann:=⟨[[1],[4,5,6],[4,5,6,16],[2,3],[4,5,20],[4,5,24,25,26],[4,5,24,25,26,27],[4,5,8,24,25,26],[4,5,8,24,25,26,37],[2,3],[4,5,24,25,26],[2,3]],[⟨[],[4,5,24,25,26],[16,80,176,1176]⟩],[],[],[],false,[(2000033,999999),(2,624),(34,176),(30,176),(21,176),(3,176),(17,176),(15,176),(6,176),(4,176),(14,176),(13,176),(12,176),(9,176)]⟩
def b17:AC:=
 .seq (.region false [
 ao 2 (.box (.t 0)),
 ao 4 (.mv (.c (i64 0))),
 ao 5 (.mv (.c (i64 0)))] [1,2]) (.seq (.region false [
 ao 11 (.load (some 5) (.t 2)),
 ao 12 (.mv (.t 1)),
 ao 13 (.call 36 [(.t 11),(.t 12)]),
 ao 10 (.mv (.t 13)),
 ao 14 (.ext (.t 10) 0),
 ao 15 (.ext (.t 10) 1),
 ao 16 (.ext (.t 10) 2),
 ao 17 (.ext (.t 10) 3),
 ao 7 (.alloc [(i64 0),(i64 0),(i64 0),(i64 0),(i64 0)]),
 ao 6 (.mv (.t 14)),
 ⟨none, .store 5 (.t 7) (.t 15),none,[],[]⟩,
 ao 8 (.mv (.t 16)),
 ao 9 (.mv (.t 17))] [6,7,8,9]) (.seq (.seq (.region false [
 ao 18 (.mv (.t 9)),
 ao 19 (.bin .neq (.t 18) (.c (i64 0)))] [6,7,8,9,19]) (.cond (.t 19) (.seq (.region false [
 ao 20 (.mv (.t 9)),
 ao 4 (.mv (.c (i64 0))),
 ao 5 (.mv (.t 20))] [4,5]) (.ret)) (.skip))) (.seq (.region false [
 ao 21 (.mv (.t 6)),
 ao 22 (.load (some 5) (.t 7)),
 ao 23 (.mv (.t 8)),
 ao 24 (.call 34 [(.t 21),(.t 22),(.t 23)]),
 ao 4 (.mv (.t 24)),
 ao 5 (.mv (.c (i64 0)))] [4,5]) (.ret))))
def a17:AFn:=⟨2,[.t 4, .t 5],b17,false⟩
def n17:Ann:=⟨[[1,2],[6,7,8,9],[6,7,8,9,19],[4,5],[4,5]],[],[],[],[],false,[(4,384),(23,208),(21,208),(5,208),(20,208),(18,208),(9,208),(8,208),(6,208),(17,208),(16,208),(15,208),(14,208),(10,208)]⟩
def b18l0:AC:=
 .region false [
 ao 11 (.alloc [(i64 0),(i64 0),(i64 0),(i64 0),(i64 0)]),
 ⟨none, .store 5 (.t 11) (.t 31),none,[],[]⟩] [2,4,5,6,10,11]
def b18l1:AC:=
 .block 1 (.seq (.region true (spl [
 ao 32 (.load none (.t 6)),
 ao 33 (.load (some 5) (.t 11)),
 ap 34 (.call 22 [(.t 32),(.t 33)]) [0,1],
 ⟨(some 35), .load none (.t 10),none,[],[999999]⟩] [
 ap 36 (.bin .eql (.t 34) (.t 35)) [2,3,0,1]]) [2,4,5,11,36]) (.cond (.t 36) (.seq (.region false [
 ao 37 (.faddr 2 (.t 11)),
 ao 38 (.faddr 4 (.t 2)),
 ao 39 (.load none (.t 38)),
 ao 40 (.len (.t 39)),
 ao 41 (.slarr 3 (.t 37) (some (.t 40))),
 ao 42 (.call 38 [(.t 41)]),
 ⟨none, .store 1 (.t 4) (.t 42),none,[],[]⟩,
 ⟨none, .store 1 (.t 5) (.c (i64 0)),none,[],[]⟩] [4,5]) (.ret)) (.skip)))
def b18:AC:=
 .seq (.region false [
 ao 2 (.box (.t 0)),
 ao 4 (.alloc [(.sl .full 1 [])]),
 ao 5 (.alloc [(i64 0)])] [1,2,4,5]) (.seq (.region false [
 ao 13 (.load (some 5) (.t 2)),
 ao 14 (.mv (.t 1)),
 ao 15 (.call 36 [(.t 13),(.t 14)]),
 ao 12 (.mv (.t 15)),
 ao 16 (.ext (.t 12) 0),
 ao 17 (.ext (.t 12) 1),
 ao 18 (.ext (.t 12) 2),
 ao 19 (.ext (.t 12) 3),
 ao 6 (.alloc [.nilp]),
 ao 7 (.alloc [(i64 0),(i64 0),(i64 0),(i64 0),(i64 0)]),
 ⟨none, .store 1 (.t 6) (.t 16),none,[],[]⟩,
 ⟨none, .store 5 (.t 7) (.t 17),none,[],[]⟩,
 ao 8 (.mv (.t 18)),
 ao 9 (.mv (.t 19))] [2,4,5,6,7,8,9]) (.seq (.seq (.region false [
 ao 20 (.mv (.t 9)),
 ao 21 (.bin .neq (.t 20) (.c (i64 0)))] [2,4,5,6,7,8,9,21]) (.cond (.t 21) (.seq (.region false [
 ao 22 (.mv (.t 9)),
 ⟨none, .store 1 (.t 4) (.c (.sl .full 1 [])),none,[],[]⟩,
 ⟨none, .store 1 (.t 5) (.t 22),none,[],[]⟩] [4,5]) (.ret)) (.skip))) (.seq (.region false [
 ao 23 (.load none (.t 6)),
 ao 24 (.load (some 5) (.t 7)),
 ao 25 (.mv (.t 8)),
 ao 26 (.call 34 [(.t 23),(.t 24),(.t 25)]),
 ao 10 (.alloc [(i64 0)]),
 ⟨none, .store 1 (.t 10) (.t 26),none,[],[]⟩] [2,4,5,6,7,8,10]) (.seq (.seq (.region false [
 ao 27 (.load none (.t 6)),
 ao 28 (.load (some 5) (.t 7)),
 ao 29 (.mv (.t 8)),
 ao 30 (.call 37 [(.t 27),(.t 28),(.t 29)])] [2,4,5,6,10,30]) (.block 0 (.rng 288 [31] b18l0 b18l1 (.t 30)))) (.seq (.region false [
 ⟨none, .store 1 (.t 4) (.c (.sl .full 1 [])),none,[],[]⟩,
 ⟨none, .store 1 (.t 5) (.c (i64 0)),none,[],[]⟩] [4,5]) (.ret))))))
def a18:AFn:=⟨2,[.cell 4 none, .cell 5 none],b18,false⟩
def n18:Ann:=⟨[[1,2,4,5],[2,4,5,6,7,8,9],[2,4,5,6,7,8,9,21],[4,5],[2,4,5,6,7,8,10],[2,4,5,6,10,30],[2,4,5,6,10,11],[2,4,5,11,36],[4,5],[4,5]],[],[288],[],[],false,[(2000034,999999),(29,240),(25,240),(22,240),(20,240),(9,240),(8,240),(19,240),(18,240),(17,240),(16,240),(12,240)]⟩
@[simp] def d19l0:AC:=
 .seq (.seq (.region false [
 ao 11 (.mv (.t 5)),
 ao 12 (.mv (.t 0)),
 ao 13 (.len (.t 12)),
 ao 14 (.bin .lss (.t 11) (.t 13))] [0,1,5,14]) (.cond (.t 14) (.skip) (.exit 0))) (.seq (.block 1 (.seq (.region true (spl [
 ao 17 (.mv (.t 0)),
 ao 18 (.mv (.t 5)),
 ap 19 (.idxs 1 (.t 17) (.t 18)) [0,1],
 ap 20 (.load none (.t 19)) [2,0,1],
 ao 21 (.mv (.t 1)),
 ao 22 (.mv (.t 5)),
 ap 23 (.idxs 1 (.t 21) (.t 22)) [4,5],
 ap 24 (.load none (.t 23)) [6,4,5]] [
 ap 25 (.bin .neq (.t 20) (.t 24)) [3,7,2,0,1,6,4,5]]) [0,1,5,25]) (.cond (.t 25) (.seq (.region false [
 ao 4 (.mv (.c (.bool false)))] [4]) (.ret)) (.skip)))) (.region false [
 ao 15 (.mv (.t 5)),
 ao 16 (.bin .add (.t 15) (.c (i64 1))),
 ao 5 (.mv (.t 16))] [0,1,5]))
def b19l0:AC:= .loop [0,1,5] [] d19l0
def b19:AC:=
 .seq (.region false [
 ao 4 (.mv (.c (.bool false)))] [0,1]) (.seq (.seq (.region false [
 ao 6 (.mv (.t 0)),
 ao 7 (.len (.t 6)),
 ao 8 (.mv (.t 1)),
 ao 9 (.len (.t 8)),
 ao 10 (.bin .neq (.t 7) (.t 9))] [0,1,10]) (.cond (.t 10) (.seq (.region false [
 ao 4 (.mv (.c (.bool false)))] [4]) (.ret)) (.skip))) (.seq (.seq (.region false [
 ao 5 (.mv (.c (i64 0)))] [0,1,5]) (.block 0 (b19l0))) (.seq (.region false [
 ao 4 (.mv (.c (.bool true)))] [4]) (.ret))))
def a19:AFn:=⟨2,[.t 4],b19,false⟩
def n19:Ann:=⟨[[0,1],[0,1,10],[4],[0,1,5],[0,1,5,14],[0,1,5,25],[4],[0,1,5],[4]],[⟨[],[0,1,5],[]⟩],[],[],[],false,[]⟩
@[simp] def d20l0:AC:=
 .seq (.region false [
 ao 33 (.bin .lss (.t 32) (.t 31))] [2,5,8,31,32,33]) (.seq (.cond (.t 33) (.skip) (.exit 0)) (.seq (.block 1 (.seq (.region false [
 ao 34 (.mv (.t 32)),
 ao 9 (.mv (.t 34))] [2,5,8,9,31,32]) (.seq (.region true (spl [
 ao 35 (.mv (.t 9)),
 ap 36 (.call 35 [(.t 35)]) [0],
 ap 37 (.len (.t 36)) [1,0],
 ao 38 (.faddr 2 (.t 2)),
 ap 39 (.load none (.t 38)) [3]] [
 ap 40 (.bin .leq (.t 37) (.t 39)) [2,4,1,0,3]]) [2,5,8,9,31,32,40]) (.cond (.t 40) (.region false [
 ao 41 (.mv (.t 8)),
 ao 42 (.mv (.t 8)),
 ao 43 (.nilck (.t 42)),
 ao 44 (.faddr 5 (.t 43)),
 ao 45 (.load none (.t 44)),
 ao 46 (.mv (.t 9)),
 ao 47 (.lit [(i64 0)] 1 [(0,(.t 46))]),
 ao 48 (.app 1 8 (.t 45) (.t 47)),
 ao 49 (.nilck (.t 41)),
 ao 50 (.faddr 5 (.t 49)),
 ⟨none, .store 1 (.t 50) (.t 48),none,[],[]⟩] [2,5,8,31,32]) (.skip))))) (.region false [
 ao 51 (.bin .add (.t 32) (.c (i64 1))),
 ao 32 (.mv (.t 51))] [2,5,8,31,32])))
def b20l0:AC:= .loop [2,5,8,31,32] [32,80,133,400,432] d20l0
@[simp] def d20l1:AC:=
 .seq (.region false [
 ao 64 (.bin .lss (.t 63) (.t 62))] [2,5,8,10,61,62,63,64]) (.seq (.cond (.t 64) (.skip) (.exit 2)) (.seq (.block 3 (.seq (.region false [
 ao 65 (.mv (.t 63)),
 ao 66 (.idxs 3 (.t 61) (.t 63)),
 ao 67 (.load (some 3) (.t 66)),
 ao 12 (.alloc [(i64 0),(i64 0),(.bool false)]),
 ao 11 (.mv (.t 65)),
 ⟨none, .store 3 (.t 12) (.t 67),none,[],[]⟩] [2,5,8,10,11,12,61,62,63]) (.seq (.region false [
 ao 68 (.faddr 2 (.t 12)),
 ao 69 (.load none (.t 68))] [2,5,8,10,11,61,62,63,69]) (.cond (.t 69) (.region true (spl [
 ao 70 (.faddr 1 (.t 10)),
 ap 71 (.load none (.t 70)) [0],
 ao 72 (.mv (.t 11)),
 ap 73 (.bin .shl (.c (i64 1)) (.t 72)) [2]] [
 ap 74 (.bin .or (.t 71) (.t 73)) [1,3,0,2],
 ap 75 (.faddr 1 (.t 10)) [4,1,3,0,2],
 ⟨none, .store 1 (.t 75) (.t 74),none,[5,4,1,3,0,2],[]⟩]) [2,5,8,10,61,62,63]) (.skip))))) (.region false [
 ao 76 (.bin .add (.t 63) (.c (i64 1))),
 ao 63 (.mv (.t 76))] [2,5,8,10,61,62,63])))
def b20l1:AC:= .loop [2,5,8,10,61,62,63] [32,80,160,400,432] d20l1
@[simp] def d20l2:AC:=
 .seq (.region false [
 ao 81 (.bin .lss (.t 80) (.t 79))] [5,8,10,78,79,80,81]) (.seq (.cond (.t 81) (.skip) (.exit 4)) (.seq (.block 5 (.seq (.region false [
 ao 82 (.mv (.t 80)),
 ao 83 (.idxs 2 (.t 78) (.t 80)),
 ao 84 (.load (some 2) (.t 83)),
 ao 14 (.alloc [(i64 0),(i64 0)]),
 ao 13 (.mv (.t 82)),
 ⟨none, .store 2 (.t 14) (.t 84),none,[],[]⟩] [5,8,10,13,14,78,79,80]) (.region false [
 ao 85 (.mv (.t 13)),
 ao 86 (.faddr 0 (.t 14)),
 ao 87 (.load none (.t 86)),
 ao 88 (.faddr 2 (.t 10)),
 ao 89 (.idxa 3 1 (.t 88) (.t 85)),
 ⟨none, .store 1 (.t 89) (.t 87),none,[],[]⟩] [5,8,10,78,79,80]))) (.region false [
 ao 90 (.bin .add (.t 80) (.c (i64 1))),
 ao 80 (.mv (.t 90))] [5,8,10,78,79,80])))
def b20l2:AC:= .loop [5,8,10,78,79,80] [32,80,160,400,432] d20l2
def b20:AC:=
 .seq (.region false [
 ao 2 (.box (.t 0)),
 ao 4 (.mv (.c .nilp)),
 ao 5 (.alloc [(i64 0),(i64 0),(i64 0),(i64 0),(i64 0)]),
 ao 6 (.mv (.c (i64 0)))] [1,2,5]) (.seq (.seq (.region false [
 ao 15 (.load (some 5) (.t 2)),
 ao 16 (.call 39 [(.t 15)]),
 ao 7 (.mv (.t 16))] [1,2,5,7]) (.seq (.region false [
 ao 17 (.mv (.t 7)),
 ao 18 (.bin .neq (.t 17) (.c (i64 0)))] [1,2,5,7,18]) (.cond (.t 18) (.seq (.region false [
 ao 19 (.build [(i64 0),(i64 0),(i64 0),(i64 0),(i64 0)] []),
 ao 20 (.mv (.t 7)),
 ao 4 (.mv (.c .nilp)),
 ⟨none, .store 5 (.t 5) (.t 19),none,[],[]⟩,
 ao 6 (.mv (.t 20))] [4,5,6]) (.ret)) (.skip)))) (.seq (.seq (.region false [
 ao 21 (.mv (.t 1)),
 ao 22 (.un .not (.t 21))] [2,5,22]) (.cond (.t 22) (.seq (.region false [
 ao 23 (.build [(i64 0),(i64 0),(i64 0),(i64 0),(i64 0)] []),
 ao 4 (.mv (.c .nilp)),
 ⟨none, .store 5 (.t 5) (.t 23),none,[],[]⟩,
 ao 6 (.mv (.c (i64 1)))] [4,5,6]) (.ret)) (.skip))) (.seq (.region false [
 ao 24 (.load (some 5) (.t 2)),
 ao 25 (.mkmap (some 5)),
 ao 26 (.build [(i64 0),(i64 0),(i64 0),(.sl .full 3 []),(.sl .full 2 []),(.sl .full 1 []),(.mp .nilp)] [(0,5,(.t 24)),(6,1,(.t 25))]),
 ao 27 (.box (.t 26)),
 ao 8 (.mv (.t 27))] [2,5,8]) (.seq (.seq (.region false [
 ao 28 (.faddr 3 (.t 2)),
 ao 29 (.load none (.t 28)),
 ao 30 (.len (.t 29)),
 ao 31 (.bin .shl (.c (i64 1)) (.t 30)),
 ao 32 (.mv (.c (i64 0)))] [2,5,8,31,32]) (.block 0 (.seq (.thawc 8 5 133 101) (b20l0)))) (.seq (.region false [
 ao 52 (.mv (.t 8)),
 ao 53 (.nilck (.t 52)),
 ao 54 (.faddr 5 (.t 53)),
 ao 55 (.load none (.t 54)),
 ao 56 (.call 40 [(.t 55),(.c (.fn 41 [] []))])] [2,5,8]) (.seq (.seq (.freeze [133]) (.region false [
 ao 57 (.faddr 1 (.t 2)),
 ao 58 (.load none (.t 57)),
 ao 59 (.build [(i64 0),(i64 0),(i64 0),(i64 0),(i64 0)] [(0,1,(.t 58))]),
 ao 10 (.alloc [(i64 0),(i64 0),(i64 0),(i64 0),(i64 0)]),
 ⟨none, .store 5 (.t 10) (.t 59),none,[],[]⟩] [2,5,8,10])) (.seq (.seq (.region false [
 ao 60 (.faddr 3 (.t 2)),
 ao 61 (.load none (.t 60)),
 ao 62 (.len (.t 61)),
 ao 63 (.mv (.c (i64 0)))] [2,5,8,10,61,62,63]) (.block 2 (b20l1))) (.seq (.seq (.region false [
 ao 77 (.faddr 4 (.t 2)),
 ao 78 (.load none (.t 77)),
 ao 79 (.len (.t 78)),
 ao 80 (.mv (.c (i64 0)))] [5,8,10,78,79,80]) (.block 4 (b20l2))) (.seq (.region true (spl [
 ao 91 (.mv (.t 8)),
 ao 92 (.load (some 5) (.t 10)),
 ap 4 (.mv (.t 91)) [0]] [
 ⟨none, .store 5 (.t 5) (.t 92),none,[1,2,0],[]⟩,
 ap 6 (.mv (.c (i64 0))) [3,1,2,0]]) [4,5,6]) (.ret))))))))))
def a20:AFn:=⟨2,[.t 4, .cell 5 (some 5), .t 6],b20,false⟩
def n20:Ann:=⟨[[1,2,5],[1,2,5,7],[1,2,5,7,18],[4,5,6],[2,5,22],[4,5,6],[2,5,8],[2,5,8,31,32],[2,5,8,31,32,33],[2,5,8,9,31,32],[2,5,8,9,31,32,40],[2,5,8,31,32],[2,5,8,31,32],[2,5,8],[2,5,8,10],[2,5,8,10,61,62,63],[2,5,8,10,61,62,63,64],[2,5,8,10,11,12,61,62,63],[2,5,8,10,11,61,62,63,69],[2,5,8,10,61,62,63],[2,5,8,10,61,62,63],[5,8,10,78,79,80],[5,8,10,78,79,80,81],[5,8,10,13,14,78,79,80],[5,8,10,78,79,80],[5,8,10,78,79,80],[4,5,6]],[⟨[.c 8 5 133 101],[2,5,8,31,32],[32,80,133,400,432]⟩,⟨[],[2,5,8,10,61,62,63],[32,80,160,400,432]⟩,⟨[],[5,8,10,78,79,80],[32,80,160,400,432]⟩],[],[[],[],[],[],[],[],[],[],[],[],[],[],[],[],[133],[],[],[],[],[],[],[],[],[],[],[],[]],[],false,[(4,432),(91,432),(52,432),(42,432),(41,432),(8,432),(6,256),(20,256),(17,256),(7,256)]⟩
def b21:AC:=
 .seq (.region false [
 ao 6 (.mv (.c (.bool false)))] [0,1,2]) (.seq (.region false [
 ao 7 (.mv (.t 0)),
 ao 8 (.mv (.t 1)),
 ao 9 (.bin .geq (.t 7) (.t 8)),
 ao 10 (.mv (.t 9)),
 ag 11 (.mv (.t 0)) 10 true [],
 ag 12 (.mv (.t 2)) 10 true [],
 ag 13 (.bin .leq (.t 11) (.t 12)) 10 true [],
 ao 14 (.pick (.t 10) (.t 13) (.c (.bool false))),
 ao 6 (.mv (.t 14))] [6]) (.ret))
def a21:AFn:=⟨3,[.t 6],b21,false⟩
def n21:Ann:=⟨[[0,1,2],[6]],[],[],[],[],false,[]⟩
@[simp] def d22l0:AC:=
 .seq (.region false [
 ao 34 (.bin .lss (.t 33) (.t 32))] [0,3,7,31,32,33,34]) (.seq (.cond (.t 34) (.skip) (.exit 0)) (.seq (.block 1 (.seq (.region false [
 ao 35 (.idxs 1 (.t 31) (.t 33)),
 ao 36 (.load none (.t 35)),
 ao 9 (.mv (.t 36))] [0,3,7,9,31,32,33]) (.region false [
 ao 37 (.mv (.t 7)),
 ao 38 (.mv (.t 0)),
 ao 39 (.load (some 5) (.t 3)),
 ao 40 (.mv (.t 9)),
 ao 41 (.call 34 [(.t 38),(.t 39),(.t 40)]),
 ao 42 (.mm true (.t 37) (.t 41)),
 ao 7 (.mv (.t 42))] [0,3,7,31,32,33]))) (.region false [
 ao 43 (.bin .add (.t 33) (.c (i64 1))),
 ao 33 (.mv (.t 43))] [0,3,7,31,32,33])))
def b22l0:AC:= .loop [0,3,7,31,32,33] [48,256] d22l0
def b22:AC:=
 .seq (.region false [
 ao 3 (.box (.t 1)),
 ao 4 (.mv (.c (i64 0)))] [0,3]) (.seq (.seq (.region false [
 ao 10 (.faddr 0 (.t 3)),
 ao 11 (.load none (.t 10)),
 ao 12 (.bin .eql (.t 11) (.c (i64 0)))] [0,3,12]) (.cond (.t 12) (.seq (.region false [
 ao 13 (.mv (.t 0)),
 ao 14 (.faddr 2 (.t 3)),
 ao 15 (.load (some 3) (.t 14)),
 ao 16 (.call 44 [(.t 13),(.t 15)]),
 ao 4 (.mv (.t 16))] [4]) (.ret)) (.skip))) (.seq (.seq (.region true (spl [
 ao 18 (.mv (.t 0)),
 ap 19 (.nilck (.t 18)) [0],
 ap 20 (.faddr 6 (.t 19)) [1,0],
 ap 21 (.load none (.t 20)) [2,1,0],
 ao 22 (.load (some 5) (.t 3)),
 ap 23 (.mget (some 5) true (.t 21) (.t 22)) [3,4,2,1,0],
 ap 17 (.mv (.t 23)) [5,3,4,2,1,0],
 ap 24 (.ext (.t 17) 0) [6,5,3,4,2,1,0],
 ap 25 (.ext (.t 17) 1) [6,5,3,4,2,1,0],
 ap 5 (.mv (.t 24)) [7,6,5,3,4,2,1,0]] [
 ap 6 (.mv (.t 25)) [8,9,7,6,5,3,4,2,1,0]]) [0,3,5,6]) (.seq (.region false [
 ao 26 (.mv (.t 6))] [0,3,5,26]) (.cond (.t 26) (.seq (.region false [
 ao 27 (.mv (.t 5)),
 ao 4 (.mv (.t 27))] [4]) (.ret)) (.skip)))) (.seq (.region false [
 ao 7 (.mv (.c (i64 0)))] [0,3,7]) (.seq (.seq (.region false [
 ao 28 (.mv (.t 0)),
 ao 29 (.nilck (.t 28)),
 ao 30 (.faddr 5 (.t 29)),
 ao 31 (.load none (.t 30)),
 ao 32 (.len (.t 31)),
 ao 33 (.mv (.c (i64 0)))] [0,3,7,31,32,33]) (.block 0 (b22l0))) (.seq (.region true (spl [
 ao 44 (.mv (.t 0)),
 ap 45 (.nilck (.t 44)) [0],
 ap 46 (.faddr 6 (.t 45)) [1,0],
 ap 47 (.load none (.t 46)) [2,1,0],
 ao 48 (.load (some 5) (.t 3)),
 ao 49 (.mv (.t 7))] [
 ⟨none, .mput (some 5) (.t 47) (.t 48) (.t 49),none,[3,4,5,2,1,0],[]⟩]) [7]) (.seq (.region false [
 ao 50 (.mv (.t 7)),
 ao 4 (.mv (.t 50))] [4]) (.ret)))))))
def a22:AFn:=⟨2,[.t 4],b22,false⟩
def n22:Ann:=⟨[[0,3],[0,3,12],[4],[0,3,5,6],[0,3,5,26],[4],[0,3,7],[0,3,7,31,32,33],[0,3,7,31,32,33,34],[0,3,7,9,31,32,33],[0,3,7,31,32,33],[0,3,7,31,32,33],[7],[4]],[⟨[],[0,3,7,31,32,33],[48,256]⟩],[],[],[],false,[(4,256)]⟩
def b23l1:AC:=
 .region false [
 ao 9 (.alloc [(i64 0),(i64 0),(i64 0),(i64 0),(i64 0)]),
 ⟨none, .store 5 (.t 9) (.t 35),none,[],[]⟩] [3,4,5,6,9,25,26,27]
def b23l2:AC:=
 .block 3 (.seq (.region false [
 ao 36 (.load none (.t 3)),
 ao 37 (.load (some 5) (.t 9)),
 ao 38 (.load none (.t 5)),
 ao 39 (.call 23 [(.t 36),(.t 37),(.t 38)])] [3,4,5,6,25,26,27,39]) (.cond (.t 39) (.seq (.region false [
 ⟨none, .store 1 (.t 6) (.c (.bool true)),none,[],[]⟩] [6]) (.ret)) (.skip)))
@[simp] def d23l0:AC:=
 .seq (.region false [
 ao 28 (.bin .lss (.t 27) (.t 26))] [3,4,5,6,25,26,27,28]) (.seq (.cond (.t 28) (.skip) (.exit 0)) (.seq (.block 1 (.seq (.region false [
 ao 29 (.idxs 1 (.t 25) (.t 27)),
 ao 30 (.load none (.t 29)),
 ao 8 (.mv (.t 30))] [3,4,5,6,8,25,26,27]) (.seq (.region false [
 ao 31 (.load none (.t 3)),
 ao 32 (.load (some 5) (.t 4)),
 ao 33 (.mv (.t 8)),
 ao 34 (.call 37 [(.t 31),(.t 32),(.t 33)])] [3,4,5,6,25,26,27,34]) (.block 2 (.rng 368 [35] b23l1 b23l2 (.t 34)))))) (.region false [
 ao 40 (.bin .add (.t 27) (.c (i64 1))),
 ao 27 (.mv (.t 40))] [3,4,5,6,25,26,27])))
def b23l0:AC:= .loop [3,4,5,6,25,26,27] [48,64,80,96,256] d23l0
def b23:AC:=
 .seq (.region false [
 ao 3 (.box (.t 0)),
 ao 4 (.box (.t 1)),
 ao 5 (.box (.t 2)),
 ao 6 (.alloc [(.bool false)])] [3,4,5,6]) (.seq (.seq (.region false [
 ao 10 (.faddr 0 (.t 4)),
 ao 11 (.load none (.t 10)),
 ao 12 (.bin .eql (.t 11) (.c (i64 0)))] [3,4,5,6,12]) (.cond (.t 12) (.seq (.region false [
 ao 13 (.load none (.t 3)),
 ao 14 (.faddr 2 (.t 4)),
 ao 15 (.load (some 3) (.t 14)),
 ao 16 (.call 44 [(.t 13),(.t 15)]),
 ao 17 (.bin .gtr (.t 16) (.c (i64 0))),
 ⟨none, .store 1 (.t 6) (.t 17),none,[],[]⟩] [6]) (.ret)) (.skip))) (.seq (.seq (.region false [
 ao 18 (.load none (.t 5)),
 ao 19 (.load (some 5) (.t 4)),
 ao 20 (.mget (some 5) false (.t 18) (.t 19)),
 ao 21 (.bin .gtr (.t 20) (.c (i64 0)))] [3,4,5,6,21]) (.cond (.t 21) (.seq (.region false [
 ⟨none, .store 1 (.t 6) (.c (.bool false)),none,[],[]⟩] [6]) (.ret)) (.skip))) (.seq (.seq (.region false [
 ao 22 (.load none (.t 3)),
 ao 23 (.nilck (.t 22)),
 ao 24 (.faddr 5 (.t 23)),
 ao 25 (.load none (.t 24)),
 ao 26 (.len (.t 25)),
 ao 27 (.mv (.c (i64 0)))] [3,4,5,6,25,26,27]) (.block 0 (b23l0))) (.seq (.region true (spl [
 ao 41 (.load none (.t 5)),
 ao 42 (.load (some 5) (.t 4)),
 ⟨(some 43), .mget (some 5) false (.t 41) (.t 42),none,[0,1],[999999]⟩,
 ⟨(some 44), .bin .add (.t 43) (.c (i64 1)),none,[2,0,1],[999999]⟩,
 ap 45 (.ment (some 5) (.t 41) (.t 42)) [0,1],
 ap 46 (.ext (.t 45) 1) [4,0,1]] [
 ⟨none, .mest (.t 41) (.t 46) (.t 44),none,[3,5,2,4,0,1],[]⟩]) [6]) (.seq (.region false [
 ⟨none, .store 1 (.t 6) (.c (.bool false)),none,[],[]⟩] [6]) (.ret))))))
def a23:AFn:=⟨3,[.cell 6 none],b23,false⟩
def n23:Ann:=⟨[[3,4,5,6],[3,4,5,6,12],[6],[3,4,5,6,21],[6],[3,4,5,6,25,26,27],[3,4,5,6,25,26,27,28],[3,4,5,6,8,25,26,27],[3,4,5,6,25,26,27,34],[3,4,5,6,9,25,26,27],[3,4,5,6,25,26,27,39],[6],[3,4,5,6,25,26,27],[6],[6]],[⟨[],[3,4,5,6,25,26,27],[48,64,80,96,256]⟩],[368],[],[],false,[(2000045,999999)]⟩
def b24:AC:=
 .seq (.region false [
 ao 2 (.box (.t 0)),
 ao 4 (.mv (.c (i64 0)))] [1,2]) (.seq (.seq (.region false [
 ao 6 (.load (some 5) (.t 2)),
 ao 7 (.call 13 [(.t 6)]),
 ao 5 (.mv (.t 7))] [1,5]) (.seq (.region false [
 ao 8 (.mv (.t 5)),
 ao 9 (.bin .neq (.t 8) (.c (i64 0)))] [1,5,9]) (.cond (.t 9) (.seq (.region false [
 ao 10 (.mv (.t 5)),
 ao 4 (.mv (.t 10))] [4]) (.ret)) (.skip)))) (.seq (.seq (.region false [
 ao 11 (.mv (.t 1)),
 ao 12 (.un .not (.t 11))] [12]) (.cond (.t 12) (.seq (.region false [
 ao 4 (.mv (.c (i64 1)))] [4]) (.ret)) (.skip))) (.seq (.region false [
 ao 4 (.mv (.c (i64 0)))] [4]) (.ret))))
def a24:AFn:=⟨2,[.t 4],b24,false⟩
def n24:Ann:=⟨[[1,2],[1,5],[1,5,9],[4],[12],[4],[4]],[],[],[],[],false,[(4,112),(10,112),(8,112),(5,112)]⟩
def b25:AC:=
 .seq (.region false [
 ao 2 (.box (.t 0)),
 ao 4 (.mv (.c (.bool false)))] [1,2]) (.seq (.region false [
 ao 5 (.mv (.t 1)),
 ao 6 (.faddr 4 (.t 2)),
 ao 7 (.load none (.t 6)),
 ao 8 (.len (.t 7)),
 ao 9 (.bin .sub (.t 8) (.c (i64 1))),
 ao 10 (.call 31 [(.t 5),(.c (i64 0)),(.t 9)]),
 ao 4 (.mv (.t 10))] [4]) (.ret))
def a25:AFn:=⟨2,[.t 4],b25,false⟩
def n25:Ann:=⟨[[1,2],[4]],[],[],[],[],false,[(4,160)]⟩
def b26:AC:=
 .seq (.region false [
 ao 2 (.box (.t 0)),
 ao 4 (.alloc [(i64 0),(i64 0),(i64 0),(.sl .full 3 []),(.sl .full 2 [])])] [1,2,4]) (.seq (.region false [
 ao 7 (.load (some 5) (.t 2)),
 ao 8 (.call 6 [(.t 7)]),
 ao 5 (.alloc [(i64 0),(i64 0),(i64 0),(.sl .full 3 []),(.sl .full 2 [])]),
 ⟨none, .store 5 (.t 5) (.t 8),none,[],[]⟩] [1,2,4,5]) (.seq (.seq (.freeze [128,1128,2128,3128,4128,5128,6128,7128,8128]) (.region false [
 ao 9 (.faddr 4 (.t 2)),
 ao 10 (.load none (.t 9)),
 ao 11 (.mv (.t 1)),
 ao 12 (.idxs 2 (.t 10) (.t 11)),
 ao 13 (.load (some 2) (.t 12)),
 ao 6 (.alloc [(i64 0),(i64 0)]),
 ⟨none, .store 2 (.t 6) (.t 13),none,[],[]⟩] [4,5,6])) (.seq (.region false [
 ao 14 (.faddr 1 (.t 6)),
 ⟨none, .store 1 (.t 14) (.c (i64 1)),none,[],[]⟩] [4,5,6]) (.seq (.region false [
 ao 15 (.load (some 2) (.t 6)),
 ao 16 (.lit [(i64 0),(i64 0)] 1 [(0,(.t 15))]),
 ao 17 (.faddr 4 (.t 5)),
 ⟨none, .store 1 (.t 17) (.t 16),none,[],[]⟩] [4,5]) (.seq (.region false [
 ao 18 (.load (some 5) (.t 5)),
 ⟨none, .store 5 (.t 4) (.t 18),none,[],[]⟩] [4]) (.ret))))))
def a26:AFn:=⟨2,[.cell 4 (some 5)],b26,false⟩
def n26:Ann:=⟨[[1,2,4],[1,2,4,5],[4,5,6],[4,5,6],[4,5],[4]],[],[],[[],[],[128,1128,2128,3128,4128,5128,6128,7128,8128],[],[],[]],[],false,[]⟩
def b27:AC:=
 .seq (.region false [
 ao 1 (.box (.t 0)),
 ao 2 (.mv (.c (i64 0)))] [1]) (.seq (.region false [
 ao 3 (.load (some 5) (.t 1)),
 ao 4 (.mkmap none),
 ao 5 (.call 45 [(.t 3),(.t 4)]),
 ao 2 (.mv (.t 5))] [2]) (.ret))
def a27:AFn:=⟨1,[.t 2],b27,false⟩
def n27:Ann:=⟨[[1],[2]],[],[],[],[],false,[(2,80)]⟩
@[simp] def d28l1:AC:=
 .seq (.seq (.region false [
 ao 42 (.mv (.t 9)),
 ao 43 (.mv (.t 8)),
 ao 44 (.len (.t 43)),
 ao 45 (.bin .lss (.t 42) (.t 44))] [1,2,5,6,7,8,9,45]) (.cond (.t 45) (.skip) (.exit 2))) (.seq (.block 3 (.seq (.region true (spl [
 ao 48 (.load (some 5) (.t 7)),
 ao 49 (.mv (.t 8)),
 ao 50 (.mv (.t 9)),
 ap 51 (.idxs 1 (.t 49) (.t 50)) [1,2],
 ap 52 (.load none (.t 51)) [3,1,2],
 ap 53 (.lit [(i64 0)] 1 [(0,(.t 52))]) [4,3,1,2],
 ap 54 (.call 50 [(.t 48),(.t 53)]) [0,5,4,3,1,2],
 ao 55 (.mv (.t 1))] [
 ap 56 (.call 28 [(.t 54),(.t 55)]) [7,6,0,5,4,3,1,2]]) [1,2,5,6,7,8,9,56]) (.cond (.t 56) (.seq (.region false [
 ao 4 (.mv (.c (.bool true)))] [4]) (.ret)) (.skip)))) (.region false [
 ao 46 (.mv (.t 9)),
 ao 47 (.bin .add (.t 46) (.c (i64 1))),
 ao 9 (.mv (.t 47))] [1,2,5,6,7,8,9]))
def b28l1:AC:= .loop [1,2,5,6,7,8,9] [32,112,224,288,352,544,656,944] d28l1
@[simp] def d28l0:AC:=
 .seq (.seq (.region false [
 ao 23 (.mv (.t 6)),
 ao 24 (.mv (.t 5)),
 ao 25 (.len (.t 24)),
 ao 26 (.bin .lss (.t 23) (.t 25))] [1,2,5,6,26]) (.cond (.t 26) (.skip) (.exit 0))) (.seq (.block 1 (.seq (.region true (spl [
 ao 29 (.load (some 5) (.t 2)),
 ao 30 (.mv (.t 5)),
 ao 31 (.mv (.t 6)),
 ap 32 (.idxs 1 (.t 30) (.t 31)) [1,2],
 ap 33 (.load none (.t 32)) [3,1,2],
 ap 34 (.call 33 [(.t 29),(.t 33)]) [0,4,3,1,2],
 ao 7 (.alloc [(i64 0),(i64 0),(i64 0),(.sl .full 3 []),(.sl .full 2 [])])] [
 ⟨none, .store 5 (.t 7) (.t 34),none,[5,6,0,4,3,1,2],[]⟩]) [1,2,5,6,7]) (.seq (.region true (spl [
 ao 35 (.load (some 5) (.t 7)),
 ao 36 (.faddr 4 (.t 7)),
 ap 37 (.load none (.t 36)) [1],
 ap 38 (.idxs 2 (.t 37) (.c (i64 0))) [2,1],
 ap 39 (.faddr 0 (.t 38)) [3,2,1],
 ap 40 (.load none (.t 39)) [4,3,2,1]] [
 ap 41 (.call 49 [(.t 35),(.t 40)]) [0,5,4,3,2,1],
 ap 8 (.mv (.t 41)) [6,0,5,4,3,2,1]]) [1,2,5,6,7,8]) (.seq (.region false [
 ao 9 (.mv (.c (i64 0)))] [1,2,5,6,7,8,9]) (.block 2 (b28l1)))))) (.region false [
 ao 27 (.mv (.t 6)),
 ao 28 (.bin .add (.t 27) (.c (i64 1))),
 ao 6 (.mv (.t 28))] [1,2,5,6]))
def b28l0:AC:= .loop [1,2,5,6] [32,224,288,352,944] d28l0
def b28:AC:=
 .seq (.region false [
 ao 2 (.box (.t 0)),
 ao 4 (.mv (.c (.bool false)))] [1,2]) (.seq (.seq (.region false [
 ao 10 (.faddr 1 (.t 2)),
 ao 11 (.load none (.t 10)),
 ao 12 (.bin .eql (.t 11) (.c (i64 0)))] [1,2,12]) (.cond (.t 12) (.seq (.region false [
 ao 13 (.load (some 5) (.t 2)),
 ao 14 (.call 46 [(.t 13)]),
 ao 15 (.bin .gtr (.t 14) (.c (i64 0))),
 ao 4 (.mv (.t 15))] [4]) (.ret)) (.skip))) (.seq (.seq (.region false [
 ao 16 (.mv (.t 1)),
 ao 17 (.load (some 5) (.t 2)),
 ao 18 (.call 47 [(.t 17)]),
 ao 19 (.mget none false (.t 16) (.t 18)),
 ao 20 (.bin .gtr (.t 19) (.c (i64 0)))] [1,2,20]) (.cond (.t 20) (.seq (.region false [
 ao 4 (.mv (.c (.bool false)))] [4]) (.ret)) (.skip))) (.seq (.region false [
 ao 21 (.load (some 5) (.t 2)),
 ao 22 (.call 48 [(.t 21)]),
 ao 5 (.mv (.t 22))] [1,2,5]) (.seq (.seq (.region false [
 ao 6 (.mv (.c (i64 0)))] [1,2,5,6]) (.block 0 (b28l0))) (.seq (.region false [
 ao 57 (.mv (.t 1)),
 ao 58 (.load (some 5) (.t 2)),
 ao 59 (.call 47 [(.t 58)]),
 ⟨none, .mput none (.t 57) (.t 59) (.c (i64 1)),none,[],[]⟩] []) (.seq (.region false [
 ao 4 (.mv (.c (.bool false)))] [4]) (.ret)))))))
def a28:AFn:=⟨2,[.t 4],b28,false⟩
def n28:Ann:=⟨[[1,2],[1,2,12],[4],[1,2,20],[4],[1,2,5],[1,2,5,6],[1,2,5,6,26],[1,2,5,6,7],[1,2,5,6,7,8],[1,2,5,6,7,8,9],[1,2,5,6,7,8,9,45],[1,2,5,6,7,8,9,56],[4],[1,2,5,6,7,8,9],[1,2,5,6],[],[4]],[⟨[],[1,2,5,6],[32,224,288,352,944]⟩,⟨[],[1,2,5,6,7,8,9],[32,112,224,288,352,544,656,944]⟩],[],[],[],false,[(49,656),(43,656),(8,656),(30,352),(24,352),(5,352)]⟩
@[simp] def d29l0:AC:=
 .seq (.region false [
 ao 31 (.bin .lss (.t 30) (.t 29))] [0,4,7,28,29,30,31]) (.seq (.cond (.t 31) (.skip) (.exit 0)) (.seq (.block 1 (.seq (.region false [
 ao 32 (.mv (.t 30)),
 ao 33 (.idxs 2 (.t 28) (.t 30)),
 ao 34 (.load (some 2) (.t 33)),
 ao 9 (.alloc [(i64 0),(i64 0)]),
 ao 8 (.mv (.t 32)),
 ⟨none, .store 2 (.t 9) (.t 34),none,[],[]⟩] [0,4,7,8,9,28,29,30]) (.seq (.region true (spl [
 ao 35 (.mv (.t 8)),
 ao 36 (.faddr 2 (.t 4)),
 ap 37 (.idxa 3 1 (.t 36) (.t 35)) [1,0],
 ap 38 (.load none (.t 37)) [2,1,0],
 ao 39 (.mv (.t 0)),
 ap 40 (.nilck (.t 39)) [4],
 ap 41 (.faddr 0 (.t 40)) [5,4],
 ap 42 (.faddr 0 (.t 41)) [6,5,4],
 ap 43 (.load none (.t 42)) [7,6,5,4],
 ap 44 (.bin .sub (.t 43) (.c (i64 1))) [8,7,6,5,4],
 ap 45 (.bin .shl (.c (i64 1)) (.t 44)) [9,8,7,6,5,4]] [
 ap 46 (.bin .eql (.t 38) (.t 45)) [3,10,2,1,0,9,8,7,6,5,4]]) [0,4,7,9,28,29,30,46]) (.cond (.t 46) (.region false [
 ao 47 (.mv (.t 7)),
 ao 48 (.faddr 1 (.t 9)),
 ao 49 (.load none (.t 48)),
 ao 50 (.bin .add (.t 47) (.t 49)),
 ao 7 (.mv (.t 50))] [0,4,7,28,29,30]) (.skip))))) (.region false [
 ao 51 (.bin .add (.t 30) (.c (i64 1))),
 ao 30 (.mv (.t 51))] [0,4,7,28,29,30])))
def b29l0:AC:= .loop [0,4,7,28,29,30] [64,240,1456,1616,1968] d29l0
@[simp] def d29l4:AC:=
 .seq (.region false [
 ao 104 (.bin .lss (.t 103) (.t 102))] [0,2,4,12,15,16,64,65,66,83,84,91,92,93,101,102,103,104]) (.seq (.cond (.t 104) (.skip) (.exit 8)) (.seq (.block 9 (.seq (.region false [
 ao 105 (.idxs 1 (.t 101) (.t 103)),
 ao 106 (.load none (.t 105)),
 ao 20 (.mv (.t 106))] [0,2,4,12,15,16,20,64,65,66,83,84,91,92,93,101,102,103]) (.region true (spl [
 ao 107 (.mv (.t 16)),
 ao 108 (.faddr 2 (.t 15)),
 ap 109 (.idxa 3 1 (.t 108) (.t 107)) [1,0],
 ap 110 (.load none (.t 109)) [2,1,0],
 ao 111 (.mv (.t 20)),
 ap 112 (.bin .shl (.c (i64 1)) (.t 111)) [4],
 ap 113 (.bin .or (.t 110) (.t 112)) [3,5,2,1,0,4],
 ao 114 (.faddr 2 (.t 15))] [
 ap 115 (.idxa 3 1 (.t 114) (.t 107)) [7,6,3,5,2,1,0,4],
 ⟨none, .store 1 (.t 115) (.t 113),none,[8,7,6,3,5,2,1,0,4],[]⟩]) [0,2,4,12,15,16,64,65,66,83,84,91,92,93,101,102,103]))) (.region false [
 ao 116 (.bin .add (.t 103) (.c (i64 1))),
 ao 103 (.mv (.t 116))] [0,2,4,12,15,16,64,65,66,83,84,91,92,93,101,102,103])))
def b29l4:AC:= .loop [0,2,4,12,15,16,64,65,66,83,84,91,92,93,101,102,103] [64,144,240,1456,1616,1968] d29l4
@[simp] def d29l3:AC:=
 .seq (.region false [
 ao 94 (.bin .lss (.t 93) (.t 92))] [0,2,4,12,15,16,64,65,66,83,84,91,92,93,94]) (.seq (.cond (.t 94) (.skip) (.exit 6)) (.seq (.block 7 (.seq (.region false [
 ao 95 (.idxs 1 (.t 91) (.t 93)),
 ao 96 (.load none (.t 95)),
 ao 18 (.mv (.t 96))] [0,2,4,12,15,16,18,64,65,66,83,84,91,92,93]) (.seq (.region false [
 ao 97 (.mv (.t 0)),
 ao 98 (.faddr 1 (.t 15)),
 ao 99 (.load none (.t 98)),
 ao 100 (.mv (.t 18)),
 ao 101 (.call 51 [(.t 97),(.t 99),(.t 100)]),
 ao 102 (.len (.t 101)),
 ao 103 (.mv (.c (i64 0)))] [0,2,4,12,15,16,64,65,66,83,84,91,92,93,101,102,103]) (.block 8 (b29l4))))) (.region false [
 ao 117 (.bin .add (.t 93) (.c (i64 1))),
 ao 93 (.mv (.t 117))] [0,2,4,12,15,16,64,65,66,83,84,91,92,93])))
def b29l3:AC:= .loop [0,2,4,12,15,16,64,65,66,83,84,91,92,93] [64,144,240,1456,1968] d29l3
@[simp] def d29l2:AC:=
 .seq (.region false [
 ao 85 (.bin .lss (.t 84) (.t 83))] [0,2,4,12,15,64,65,66,83,84,85]) (.seq (.cond (.t 85) (.skip) (.exit 4)) (.seq (.block 5 (.seq (.region false [
 ao 86 (.mv (.t 84)),
 ao 16 (.mv (.t 86))] [0,2,4,12,15,16,64,65,66,83,84]) (.seq (.region false [
 ao 87 (.mv (.t 16)),
 ao 88 (.faddr 2 (.t 4)),
 ao 89 (.idxa 3 1 (.t 88) (.t 87)),
 ao 90 (.load none (.t 89)),
 ao 91 (.call 35 [(.t 90)]),
 ao 92 (.len (.t 91)),
 ao 93 (.mv (.c (i64 0)))] [0,2,4,12,15,16,64,65,66,83,84,91,92,93]) (.block 6 (b29l3))))) (.region false [
 ao 118 (.bin .add (.t 84) (.c (i64 1))),
 ao 84 (.mv (.t 118))] [0,2,4,12,15,64,65,66,83,84])))
def b29l2:AC:= .loop [0,2,4,12,15,64,65,66,83,84] [64,144,240,1968] d29l2
@[simp] def d29l1:AC:=
 .seq (.region false [
 ao 67 (.bin .lss (.t 66) (.t 65))] [0,2,4,12,64,65,66,67]) (.seq (.cond (.t 67) (.skip) (.exit 2)) (.seq (.block 3 (.seq (.region false [
 ao 68 (.idxs 1 (.t 64) (.t 66)),
 ao 69 (.load none (.t 68)),
 ao 14 (.mv (.t 69))] [0,2,4,12,14,64,65,66]) (.seq (.region false [
 ao 70 (.faddr 0 (.t 4)),
 ao 71 (.load none (.t 70)),
 ao 72 (.bin .sub (.t 71) (.c (i64 1))),
 ao 73 (.faddr 1 (.t 4)),
 ao 74 (.load none (.t 73)),
 ao 75 (.mv (.t 14)),
 ao 76 (.bin .xor (.t 74) (.t 75)),
 ao 77 (.build [(i64 0),(i64 0),(i64 0),(i64 0),(i64 0)] [(0,1,(.t 72)),(1,1,(.t 76))]),
 ao 15 (.alloc [(i64 0),(i64 0),(i64 0),(i64 0),(i64 0)]),
 ⟨none, .store 5 (.t 15) (.t 77),none,[],[]⟩] [0,2,4,12,15,64,65,66]) (.seq (.seq (.region false [
 ao 78 (.mv (.t 0)),
 ao 79 (.nilck (.t 78)),
 ao 80 (.faddr 0 (.t 79)),
 ao 81 (.faddr 4 (.t 80)),
 ao 82 (.load none (.t 81)),
 ao 83 (.len (.t 82)),
 ao 84 (.mv (.c (i64 0)))] [0,2,4,12,15,64,65,66,83,84]) (.block 4 (b29l2))) (.region false [
 ao 119 (.mv (.t 12)),
 ao 120 (.mv (.t 0)),
 ao 121 (.load (some 5) (.t 15)),
 ao 122 (.mv (.t 2)),
 ao 123 (.call 29 [(.t 120),(.t 121),(.t 122)]),
 ao 124 (.mm true (.t 119) (.t 123)),
 ao 12 (.mv (.t 124))] [0,2,4,12,64,65,66]))))) (.region false [
 ao 125 (.bin .add (.t 66) (.c (i64 1))),
 ao 66 (.mv (.t 125))] [0,2,4,12,64,65,66])))
def b29l1:AC:= .loop [0,2,4,12,64,65,66] [64,144] d29l1
def b29:AC:=
 .seq (.region false [
 ao 4 (.box (.t 1)),
 ao 6 (.mv (.c (i64 0)))] [0,2,4]) (.seq (.seq (.region false [
 ao 21 (.faddr 0 (.t 4)),
 ao 22 (.load none (.t 21)),
 ao 23 (.bin .eql (.t 22) (.c (i64 0)))] [0,2,4,23]) (.cond (.t 23) (.seq (.region false [
 ao 7 (.mv (.c (i64 0)))] [0,4,7]) (.seq (.seq (.region false [
 ao 24 (.mv (.t 0)),
 ao 25 (.nilck (.t 24)),
 ao 26 (.faddr 0 (.t 25)),
 ao 27 (.faddr 4 (.t 26)),
 ao 28 (.load none (.t 27)),
 ao 29 (.len (.t 28)),
 ao 30 (.mv (.c (i64 0)))] [0,4,7,28,29,30]) (.block 0 (b29l0))) (.seq (.region false [
 ao 52 (.mv (.t 7)),
 ao 6 (.mv (.t 52))] [6]) (.ret)))) (.skip))) (.seq (.seq (.region false [
 ao 54 (.mv (.t 2)),
 ao 55 (.load (some 5) (.t 4)),
 ao 56 (.mget (some 5) true (.t 54) (.t 55)),
 ao 53 (.mv (.t 56)),
 ao 57 (.ext (.t 53) 0),
 ao 58 (.ext (.t 53) 1),
 ao 10 (.mv (.t 57)),
 ao 11 (.mv (.t 58))] [0,2,4,10,11]) (.seq (.region false [
 ao 59 (.mv (.t 11))] [0,2,4,10,59]) (.cond (.t 59) (.seq (.region false [
 ao 60 (.mv (.t 10)),
 ao 6 (.mv (.t 60))] [6]) (.ret)) (.skip)))) (.seq (.region false [
 ao 12 (.mv (.c (i64 0)))] [0,2,4,12]) (.seq (.seq (.region false [
 ao 61 (.mv (.t 0)),
 ao 62 (.nilck (.t 61)),
 ao 63 (.faddr 5 (.t 62)),
 ao 64 (.load none (.t 63)),
 ao 65 (.len (.t 64)),
 ao 66 (.mv (.c (i64 0)))] [0,2,4,12,64,65,66]) (.block 2 (b29l1))) (.seq (.region false [
 ao 126 (.mv (.t 2)),
 ao 127 (.load (some 5) (.t 4)),
 ao 128 (.mv (.t 12)),
 ⟨none, .mput (some 5) (.t 126) (.t 127) (.t 128),none,[],[]⟩] [12]) (.seq (.region false [
 ao 129 (.mv (.t 12)),
 ao 6 (.mv (.t 129))] [6]) (.ret)))))))
def a29:AFn:=⟨3,[.t 6],b29,false⟩
def n29:Ann:=⟨[[0,2,4],[0,2,4,23],[0,4,7],[0,4,7,28,29,30],[0,4,7,28,29,30,31],[0,4,7,8,9,28,29,30],[0,4,7,9,28,29,30,46],[0,4,7,28,29,30],[0,4,7,28,29,30],[6],[0,2,4,10,11],[0,2,4,10,59],[6],[0,2,4,12],[0,2,4,12,64,65,66],[0,2,4,12,64,65,66,67],[0,2,4,12,14,64,65,66],[0,2,4,12,15,64,65,66],[0,2,4,12,15,64,65,66,83,84],[0,2,4,12,15,64,65,66,83,84,85],[0,2,4,12,15,16,64,65,66,83,84],[0,2,4,12,15,16,64,65,66,83,84,91,92,93],[0,2,4,12,15,16,64,65,66,83,84,91,92,93,94],[0,2,4,12,15,16,18,64,65,66,83,84,91,92,93],[0,2,4,12,15,16,64,65,66,83,84,91,92,93,101,102,103],[0,2,4,12,15,16,64,65,66,83,84,91,92,93,101,102,103,104],[0,2,4,12,15,16,20,64,65,66,83,84,91,92,93,101,102,103],[0,2,4,12,15,16,64,65,66,83,84,91,92,93,101,102,103],[0,2,4,12,15,16,64,65,66,83,84,91,92,93,101,102,103],[0,2,4,12,15,16,64,65,66,83,84,91,92,93],[0,2,4,12,15,64,65,66,83,84],[0,2,4,12,64,65,66],[0,2,4,12,64,65,66],[12],[6]],[⟨[],[0,4,7,28,29,30],[64,240,1456,1616,1968]⟩,⟨[],[0,2,4,12,64,65,66],[64,144]⟩,⟨[],[0,2,4,12,15,64,65,66,83,84],[64,144,240,1968]⟩,⟨[],[0,2,4,12,15,16,64,65,66,83,84,91,92,93],[64,144,240,1456,1968]⟩,⟨[],[0,2,4,12,15,16,64,65,66,83,84,91,92,93,101,102,103],[64,144,240,1456,1616,1968]⟩],[],[],[],false,[]⟩
@[simp] def d30l0:AC:=
 .seq (.seq (.region false [
 ao 32 (.mv (.t 11)),
 ao 33 (.faddr 4 (.t 3)),
 ao 34 (.load none (.t 33)),
 ao 35 (.len (.t 34)),
 ao 36 (.bin .lss (.t 32) (.t 35))] [1,3,10,11,36]) (.cond (.t 36) (.skip) (.exit 0))) (.seq (.block 1 (.seq (.region true (spl [
 ao 39 (.mv (.t 1)),
 ao 40 (.mv (.t 11)),
 ap 41 (.idxs 1 (.t 39) (.t 40)) [0,1],
 ap 42 (.load none (.t 41)) [2,0,1],
 ao 43 (.faddr 0 (.t 3)),
 ap 44 (.load none (.t 43)) [4],
 ap 45 (.bin .sub (.t 44) (.c (i64 1))) [5,4],
 ap 46 (.lit [(i64 0)] 1 [(0,(.t 45))]) [6,5,4]] [
 ap 47 (.call 19 [(.t 42),(.t 46)]) [3,7,2,0,1,6,5,4]]) [1,3,10,11,47]) (.cond (.t 47) (.region false [
 ao 48 (.mv (.t 10)),
 ao 49 (.faddr 4 (.t 3)),
 ao 50 (.load none (.t 49)),
 ao 51 (.mv (.t 11)),
 ao 52 (.idxs 2 (.t 50) (.t 51)),
 ao 53 (.faddr 1 (.t 52)),
 ao 54 (.load none (.t 53)),
 ao 55 (.bin .add (.t 48) (.t 54)),
 ao 10 (.mv (.t 55))] [1,3,10,11]) (.skip)))) (.region false [
 ao 37 (.mv (.t 11)),
 ao 38 (.bin .add (.t 37) (.c (i64 1))),
 ao 11 (.mv (.t 38))] [1,3,10,11]))
def b30l0:AC:= .loop [1,3,10,11] [48,240,320,928,1120,1328,1344,1360,1456,1504] d30l0
@[simp] def d30l2:AC:=
 .seq (.seq (.region false [
 ao 71 (.mv (.t 17)),
 ao 72 (.mv (.t 1)),
 ao 73 (.len (.t 72)),
 ao 74 (.bin .lss (.t 71) (.t 73))] [1,2,3,7,12,13,14,15,16,17,74]) (.cond (.t 74) (.skip) (.exit 4))) (.seq (.block 5 (.region true (spl [
 ao 77 (.mv (.t 16)),
 ao 78 (.load (some 5) (.t 15)),
 ao 79 (.mv (.t 1)),
 ao 80 (.mv (.t 17)),
 ap 81 (.idxs 1 (.t 79) (.t 80)) [2,3],
 ap 82 (.load none (.t 81)) [4,2,3],
 ap 83 (.call 53 [(.t 78),(.t 82)]) [1,5,4,2,3],
 ap 84 (.lit [(.sl .full 1 [])] 1 [(0,(.t 83))]) [6,1,5,4,2,3]] [
 ap 85 (.app 1 24 (.t 77) (.t 84)) [0,7,6,1,5,4,2,3],
 ap 16 (.mv (.t 85)) [8,0,7,6,1,5,4,2,3]]) [1,2,3,7,12,13,14,15,16,17])) (.region false [
 ao 75 (.mv (.t 17)),
 ao 76 (.bin .add (.t 75) (.c (i64 1))),
 ao 17 (.mv (.t 76))] [1,2,3,7,12,13,14,15,16,17]))
def b30l2:AC:= .loop [1,2,3,7,12,13,14,15,16,17] [48,240,257,320,736,752,928,1120,1456,1504] d30l2
@[simp] def d30l1:AC:=
 .seq (.seq (.region false [
 ao 59 (.mv (.t 14)),
 ao 60 (.mv (.t 13)),
 ao 61 (.len (.t 60)),
 ao 62 (.bin .lss (.t 59) (.t 61))] [1,2,3,7,12,13,14,62]) (.cond (.t 62) (.skip) (.exit 2))) (.seq (.block 3 (.seq (.region true (spl [
 ao 65 (.load (some 5) (.t 3)),
 ao 66 (.mv (.t 13)),
 ao 67 (.mv (.t 14)),
 ap 68 (.idxs 1 (.t 66) (.t 67)) [1,2],
 ap 69 (.load none (.t 68)) [3,1,2],
 ap 70 (.call 33 [(.t 65),(.t 69)]) [0,4,3,1,2],
 ao 15 (.alloc [(i64 0),(i64 0),(i64 0),(.sl .full 3 []),(.sl .full 2 [])])] [
 ⟨none, .store 5 (.t 15) (.t 70),none,[5,6,0,4,3,1,2],[]⟩]) [1,2,3,7,12,13,14,15]) (.seq (.region false [
 ao 16 (.mv (.c (.sl .full 1 [])))] [1,2,3,7,12,13,14,15,16]) (.seq (.seq (.region false [
 ao 17 (.mv (.c (i64 0)))] [1,2,3,7,12,13,14,15,16,17]) (.block 4 (.seq (.thaw 16 257 1) (b30l2)))) (.region false [
 ao 86 (.mv (.t 12)),
 ao 87 (.load (some 5) (.t 15)),
 ao 88 (.faddr 1 (.t 15)),
 ao 89 (.load none (.t 88)),
 ao 90 (.bin .sub (.t 89) (.c (i64 1))),
 ao 91 (.call 54 [(.t 87),(.t 90)]),
 ao 92 (.mv (.t 16)),
 ao 93 (.mv (.t 2)),
 ao 94 (.call 30 [(.t 91),(.t 92),(.t 93)]),
 ao 95 (.mm true (.t 86) (.t 94)),
 ao 12 (.mv (.t 95))] [1,2,3,7,12,13,14]))))) (.region false [
 ao 63 (.mv (.t 14)),
 ao 64 (.bin .add (.t 63) (.c (i64 1))),
 ao 14 (.mv (.t 64))] [1,2,3,7,12,13,14]))
def b30l1:AC:= .loop [1,2,3,7,12,13,14] [48,320,736,752,928] d30l1
def b30:AC:=
 .seq (.region false [
 ao 3 (.box (.t 0)),
 ao 6 (.mv (.c (i64 0)))] [1,2,3]) (.seq (.region false [
 ao 18 (.load (some 5) (.t 3)),
 ao 19 (.mv (.t 1)),
 ao 20 (.call 52 [(.t 18),(.t 19)]),
 ao 7 (.mv (.t 20))] [1,2,3,7]) (.seq (.seq (.region false [
 ao 22 (.mv (.t 2)),
 ao 23 (.mv (.t 7)),
 ao 24 (.mget none true (.t 22) (.t 23)),
 ao 21 (.mv (.t 24)),
 ao 25 (.ext (.t 21) 0),
 ao 26 (.ext (.t 21) 1),
 ao 8 (.mv (.t 25)),
 ao 9 (.mv (.t 26))] [1,2,3,7,8,9]) (.seq (.region false [
 ao 27 (.mv (.t 9))] [1,2,3,7,8,27]) (.cond (.t 27) (.seq (.region false [
 ao 28 (.mv (.t 8)),
 ao 6 (.mv (.t 28))] [6]) (.ret)) (.skip)))) (.seq (.seq (.region false [
 ao 29 (.faddr 1 (.t 3)),
 ao 30 (.load none (.t 29)),
 ao 31 (.bin .eql (.t 30) (.c (i64 0)))] [1,2,3,7,31]) (.cond (.t 31) (.seq (.region false [
 ao 10 (.mv (.c (i64 0)))] [1,3,10]) (.seq (.seq (.region false [
 ao 11 (.mv (.c (i64 0)))] [1,3,10,11]) (.block 0 (b30l0))) (.seq (.region false [
 ao 56 (.mv (.t 10)),
 ao 6 (.mv (.t 56))] [6]) (.ret)))) (.skip))) (.seq (.region false [
 ao 12 (.mv (.c (i64 0)))] [1,2,3,7,12]) (.seq (.region false [
 ao 57 (.load (some 5) (.t 3)),
 ao 58 (.call 48 [(.t 57)]),
 ao 13 (.mv (.t 58))] [1,2,3,7,12,13]) (.seq (.seq (.region false [
 ao 14 (.mv (.c (i64 0)))] [1,2,3,7,12,13,14]) (.block 2 (b30l1))) (.seq (.region false [
 ao 96 (.mv (.t 2)),
 ao 97 (.mv (.t 7)),
 ao 98 (.mv (.t 12)),
 ⟨none, .mput none (.t 96) (.t 97) (.t 98),none,[],[]⟩] [12]) (.seq (.region false [
 ao 99 (.mv (.t 12)),
 ao 6 (.mv (.t 99))] [6]) (.ret)))))))))
def a30:AFn:=⟨3,[.t 6],b30,false⟩
def n30:Ann:=⟨[[1,2,3],[1,2,3,7],[1,2,3,7,8,9],[1,2,3,7,8,27],[6],[1,2,3,7,31],[1,3,10],[1,3,10,11],[1,3,10,11,36],[1,3,10,11,47],[1,3,10,11],[1,3,10,11],[6],[1,2,3,7,12],[1,2,3,7,12,13],[1,2,3,7,12,13,14],[1,2,3,7,12,13,14,62],[1,2,3,7,12,13,14,15],[1,2,3,7,12,13,14,15,16],[1,2,3,7,12,13,14,15,16,17],[1,2,3,7,12,13,14,15,16,17,74],[1,2,3,7,12,13,14,15,16,17],[1,2,3,7,12,13,14,15,16,17],[1,2,3,7,12,13,14],[1,2,3,7,12,13,14],[12],[6]],[⟨[],[1,3,10,11],[48,240,320,928,1120,1328,1344,1360,1456,1504]⟩,⟨[],[1,2,3,7,12,13,14],[48,320,736,752,928]⟩,⟨[.t 16 257 1],[1,2,3,7,12,13,14,15,16,17],[48,240,257,320,736,752,928,1120,1456,1504]⟩],[],[],[],false,[(97,320),(66,928),(60,928),(13,928),(23,320),(7,320)]⟩
def b31:AC:=
 .seq (.region false [
 ao 6 (.mv (.c (.bool false)))] [0,1,2]) (.seq (.region false [
 ao 7 (.mv (.t 0)),
 ao 8 (.mv (.t 1)),
 ao 9 (.mv (.t 2)),
 ao 10 (.call 55 [(.t 7),(.t 8),(.t 9)]),
 ao 6 (.mv (.t 10))] [6]) (.ret))
def a31:AFn:=⟨3,[.t 6],b31,false⟩
def n31:Ann:=⟨[[0,1,2],[6]],[],[],[],[],false,[(6,160)]⟩
def b32:AC:=
 .seq (.region false [
 ao 2 (.box (.t 0)),
 ao 4 (.mv (.c (.bool false)))] [1,2]) (.seq (.region false [
 ao 5 (.mv (.t 1)),
 ao 6 (.faddr 0 (.t 2)),
 ao 7 (.load none (.t 6)),
 ao 8 (.bin .sub (.t 7) (.c (i64 1))),
 ao 9 (.call 31 [(.t 5),(.c (i64 0)),(.t 8)]),
 ao 4 (.mv (.t 9))] [4]) (.ret))
def a32:AFn:=⟨2,[.t 4],b32,false⟩
def n32:Ann:=⟨[[1,2],[4]],[],[],[],[],false,[(4,144)]⟩
@[simp] def d33l0:AC:=
 .seq (.seq (.region false [
 ao 10 (.mv (.t 6)),
 ao 11 (.mv (.t 1)),
 ao 12 (.len (.t 11)),
 ao 13 (.bin .lss (.t 10) (.t 12))] [1,4,5,6,13]) (.cond (.t 13) (.skip) (.exit 0))) (.seq (.block 1 (.seq (.region true (spl [
 ao 16 (.faddr 3 (.t 5)),
 ap 17 (.load none (.t 16)) [0],
 ao 18 (.mv (.t 1)),
 ao 19 (.mv (.t 6)),
 ap 20 (.idxs 1 (.t 18) (.t 19)) [2,3],
 ap 21 (.load none (.t 20)) [4,2,3],
 ap 22 (.idxs 3 (.t 17) (.t 21)) [1,5,0,4,2,3],
 ap 23 (.load (some 3) (.t 22)) [6,1,5,0,4,2,3],
 ao 7 (.alloc [(i64 0),(i64 0),(.bool false)])] [
 ⟨none, .store 3 (.t 7) (.t 23),none,[7,8,6,1,5,0,4,2,3],[]⟩]) [1,4,5,6,7]) (.seq (.region false [
 ao 24 (.faddr 2 (.t 7)),
 ao 25 (.load none (.t 24)),
 ao 26 (.un .not (.t 25)),
 ao 27 (.faddr 2 (.t 7)),
 ⟨none, .store 1 (.t 27) (.t 26),none,[],[]⟩] [1,4,5,6,7]) (.region true (spl [
 ao 28 (.faddr 3 (.t 5)),
 ap 29 (.load none (.t 28)) [0],
 ao 30 (.mv (.t 1)),
 ao 31 (.mv (.t 6)),
 ap 32 (.idxs 1 (.t 30) (.t 31)) [2,3],
 ap 33 (.load none (.t 32)) [4,2,3],
 ao 34 (.load (some 3) (.t 7))] [
 ap 35 (.idxs 3 (.t 29) (.t 33)) [1,5,6,0,4,2,3],
 ⟨none, .store 3 (.t 35) (.t 34),none,[7,1,5,6,0,4,2,3],[]⟩]) [1,4,5,6])))) (.region false [
 ao 14 (.mv (.t 6)),
 ao 15 (.bin .add (.t 14) (.c (i64 1))),
 ao 6 (.mv (.t 15))] [1,4,5,6]))
def b33l0:AC:= .loop [1,4,5,6] [32,64,80,144,1144] d33l0
def b33:AC:=
 .seq (.region false [
 ao 2 (.box (.t 0)),
 ao 4 (.alloc [(i64 0),(i64 0),(i64 0),(.sl .full 3 []),(.sl .full 2 [])])] [1,2,4]) (.seq (.region false [
 ao 8 (.load (some 5) (.t 2)),
 ao 9 (.call 6 [(.t 8)]),
 ao 5 (.alloc [(i64 0),(i64 0),(i64 0),(.sl .full 3 []),(.sl .full 2 [])]),
 ⟨none, .store 5 (.t 5) (.t 9),none,[],[]⟩] [1,4,5]) (.seq (.seq (.region false [
 ao 6 (.mv (.c (i64 0)))] [1,4,5,6]) (.block 0 (b33l0))) (.seq (.region false [
 ao 36 (.load (some 5) (.t 5)),
 ⟨none, .store 5 (.t 4) (.t 36),none,[],[]⟩] [4]) (.ret))))
def a33:AFn:=⟨2,[.cell 4 (some 5)],b33,false⟩
def n33:Ann:=⟨[[1,2,4],[1,4,5],[1,4,5,6],[1,4,5,6,13],[1,4,5,6,7],[1,4,5,6,7],[1,4,5,6],[1,4,5,6],[4]],[⟨[],[1,4,5,6],[32,64,80,144,1144]⟩],[],[],[],false,[]⟩
def b34l0:AC:=
 .region false [
 ao 8 (.alloc [(i64 0),(i64 0),(i64 0),(i64 0),(i64 0)]),
 ⟨none, .store 5 (.t 8) (.t 14),none,[],[]⟩] [3,7,8]
def b34l1:AC:=
 .block 1 (.seq (.region false [
 ao 15 (.load none (.t 3)),
 ao 16 (.load (some 5) (.t 8)),
 ao 17 (.call 22 [(.t 15),(.t 16)]),
 ao 9 (.mv (.t 17))] [7,9]) (.seq (.region false [
 ao 18 (.load none (.t 7)),
 ao 19 (.bin .lss (.t 18) (.c (i64 0))),
 ao 20 (.mv (.t 19)),
 ag 21 (.mv (.t 9)) 20 false [],
 ag 22 (.load none (.t 7)) 20 false [],
 ag 23 (.bin .lss (.t 21) (.t 22)) 20 false [],
 ao 24 (.pick (.t 20) (.c (.bool true)) (.t 23))] [7,9,24]) (.cond (.t 24) (.region false [
 ao 25 (.mv (.t 9)),
 ⟨none, .store 1 (.t 7) (.t 25),none,[],[]⟩] [7]) (.skip))))
def b34:AC:=
 .seq (.region false [
 ao 3 (.box (.t 0)),
 ao 4 (.box (.t 1)),
 ao 6 (.mv (.c (i64 0)))] [2,3,4]) (.seq (.region false [
 ao 7 (.alloc [(i64 0)]),
 ⟨none, .store 1 (.t 7) (.c (i64 (-1))),none,[],[]⟩] [2,3,4,7]) (.seq (.seq (.region false [
 ao 10 (.load none (.t 3)),
 ao 11 (.load (some 5) (.t 4)),
 ao 12 (.mv (.t 2)),
 ao 13 (.call 37 [(.t 10),(.t 11),(.t 12)])] [3,7,13]) (.block 0 (.rng 544 [14] b34l0 b34l1 (.t 13)))) (.seq (.region false [
 ao 26 (.load none (.t 7)),
 ao 6 (.mv (.t 26))] [6]) (.ret))))
def a34:AFn:=⟨3,[.t 6],b34,false⟩
def n34:Ann:=⟨[[2,3,4],[2,3,4,7],[3,7,13],[3,7,8],[7,9],[7,9,24],[7],[6]],[],[544],[],[],false,[(25,272),(21,272),(9,272)]⟩
@[simp] def d35l0:AC:=
 .seq (.seq (.region false [
 ao 5 (.mv (.t 0)),
 ao 6 (.mv (.t 4)),
 ao 7 (.bin .shr (.t 5) (.t 6)),
 ao 8 (.bin .gtr (.t 7) (.c (i64 0)))] [0,3,4,8]) (.cond (.t 8) (.skip) (.exit 0))) (.seq (.block 1 (.seq (.region false [
 ao 11 (.mv (.t 0)),
 ao 12 (.mv (.t 4)),
 ao 13 (.bin .shr (.t 11) (.t 12)),
 ao 14 (.bin .and (.t 13) (.c (i64 1))),
 ao 15 (.bin .eql (.t 14) (.c (i64 1)))] [0,3,4,15]) (.cond (.t 15) (.region false [
 ao 16 (.mv (.t 3)),
 ao 17 (.mv (.t 4)),
 ao 18 (.lit [(i64 0)] 1 [(0,(.t 17))]),
 ao 19 (.app 1 8 (.t 16) (.t 18)),
 ao 3 (.mv (.t 19))] [0,3,4]) (.skip)))) (.region false [
 ao 9 (.mv (.t 4)),
 ao 10 (.bin .add (.t 9) (.c (i64 1))),
 ao 4 (.mv (.t 10))] [0,3,4]))
def b35l0:AC:= .loop [0,3,4] [49] d35l0
def b35:AC:=
 .seq (.region false [
 ao 2 (.mv (.c (.sl .full 1 [])))] [0]) (.seq (.region false [
 ao 3 (.mv (.c (.sl .full 1 [])))] [0,3]) (.seq (.seq (.region false [
 ao 4 (.mv (.c (i64 0)))] [0,3,4]) (.block 0 (.seq (.thaw 3 49 1) (b35l0)))) (.seq (.region false [
 ao 20 (.mv (.t 3)),
 ao 2 (.mv (.t 20))] [2]) (.ret))))
def a35:AFn:=⟨1,[.t 2],b35,false⟩
def n35:Ann:=⟨[[0],[0,3],[0,3,4],[0,3,4,8],[0,3,4,15],[0,3,4],[0,3,4],[2]],[⟨[.t 3 49 1],[0,3,4],[49]⟩],[],[],[],false,[]⟩
def b36:AC:=
 .seq (.region false [
 ao 2 (.box (.t 0)),
 ao 4 (.mv (.c .nilp)),
 ao 5 (.alloc [(i64 0),(i64 0),(i64 0),(i64 0),(i64 0)]),
 ao 6 (.mv (.c (i64 0))),
 ao 7 (.mv (.c (i64 0)))] [1,2,5]) (.seq (.region false [
 ao 14 (.load (some 5) (.t 2)),
 ao 15 (.call 20 [(.t 14),(.c (.bool true))]),
 ao 13 (.mv (.t 15)),
 ao 16 (.ext (.t 13) 0),
 ao 17 (.ext (.t 13) 1),
 ao 18 (.ext (.t 13) 2),
 ao 9 (.alloc [(i64 0),(i64 0),(i64 0),(i64 0),(i64 0)]),
 ao 8 (.mv (.t 16)),
 ⟨none, .store 5 (.t 9) (.t 17),none,[],[]⟩,
 ao 10 (.mv (.t 18))] [1,5,8,9,10]) (.seq (.seq (.region false [
 ao 19 (.mv (.t 10)),
 ao 20 (.bin .neq (.t 19) (.c (i64 0)))] [1,5,8,9,10,20]) (.cond (.t 20) (.seq (.region true (spl [
 ao 21 (.load (some 5) (.t 9)),
 ⟨(some 22), .mv (.t 10),none,[],[80]⟩,
 ao 4 (.mv (.c .nilp)),
 ⟨none, .store 5 (.t 5) (.t 21),none,[0,2],[]⟩,
 ap 6 (.mv (.c (i64 0))) [3,0,2]] [
 ap 7 (.mv (.t 22)) [1,4,3,0,2]]) [4,5,6,7]) (.ret)) (.skip))) (.seq (.region false [
 ao 24 (.mv (.t 8)),
 ao 25 (.mv (.t 1)),
 ao 26 (.call 56 [(.t 24),(.t 25)]),
 ao 23 (.mv (.t 26)),
 ao 27 (.ext (.t 23) 0),
 ao 28 (.ext (.t 23) 1),
 ao 11 (.mv (.t 27)),
 ao 12 (.mv (.t 28))] [5,8,9,11,12]) (.seq (.block 0 (.seq (.region false [
 ao 30 (.mv (.t 12)),
 ao 31 (.un .not (.t 30)),
 ao 29 (.mv (.t 31))] [5,8,9,11,29]) (.cond (.t 29) (.seq (.region true (spl [
 ao 32 (.load (some 5) (.t 9)),
 ao 4 (.mv (.c .nilp))] [
 ⟨none, .store 5 (.t 5) (.t 32),none,[0,1],[]⟩,
 ap 6 (.mv (.c (i64 0))) [2,0,1],
 ap 7 (.mv (.c (i64 1))) [3,2,0,1]]) [4,5,6,7]) (.ret)) (.seq (.region false [
 ao 34 (.faddr 0 (.t 9)),
 ao 35 (.load none (.t 34)),
 ao 36 (.bin .eql (.t 35) (.c (i64 0))),
 ao 33 (.mv (.t 36))] [5,8,9,11,33]) (.cond (.t 33) (.seq (.region true (spl [
 ao 37 (.load (some 5) (.t 9)),
 ao 4 (.mv (.c .nilp))] [
 ⟨none, .store 5 (.t 5) (.t 37),none,[0,1],[]⟩,
 ap 6 (.mv (.c (i64 0))) [2,0,1],
 ap 7 (.mv (.c (i64 3))) [3,2,0,1]]) [4,5,6,7]) (.ret)) (.skip)))))) (.seq (.region true (spl [
 ao 38 (.mv (.t 8)),
 ao 39 (.load (some 5) (.t 9)),
 ⟨(some 40), .mv (.t 11),none,[],[80]⟩,
 ap 4 (.mv (.t 38)) [0],
 ⟨none, .store 5 (.t 5) (.t 39),none,[1,3,0],[]⟩] [
 ap 6 (.mv (.t 40)) [2,4,1,3,0],
 ap 7 (.mv (.c (i64 0))) [5,2,4,1,3,0]]) [4,5,6,7]) (.ret))))))
def a36:AFn:=⟨2,[.t 4, .cell 5 (some 5), .t 6, .t 7],b36,false⟩
def n36:Ann:=⟨[[1,2,5],[1,5,8,9,10],[1,5,8,9,10,20],[4,5,6,7],[5,8,9,11,12],[5,8,9,11,29],[4,5,6,7],[5,8,9,11,33],[4,5,6,7],[4,5,6,7]],[],[],[],[],false,[(6,416),(4,240),(40,416),(38,240),(30,416),(12,416),(11,416),(28,416),(27,416),(23,416),(24,240),(7,240),(22,240),(19,240),(10,240),(8,240),(18,240),(17,240),(16,240),(13,240)]⟩
def b37:AC:=
 .seq (.region false [
 ao 3 (.box (.t 0)),
 ao 4 (.box (.t 1)),
 ao 6 (.mv (.c .nilf))] [2,3,4]) (.seq (.region false [
 ao 8 (.faddr 0 (.t 4)),
 ao 9 (.load none (.t 8)),
 ao 10 (.bin .sub (.t 9) (.c (i64 1))),
 ao 11 (.faddr 1 (.t 4)),
 ao 12 (.load none (.t 11)),
 ao 13 (.mv (.t 2)),
 ao 14 (.bin .xor (.t 12) (.t 13)),
 ao 15 (.faddr 2 (.t 4)),
 ao 16 (.load (some 3) (.t 15)),
 ao 17 (.build [(i64 0),(i64 0),(i64 0),(i64 0),(i64 0)] [(0,1,(.t 10)),(1,1,(.t 14)),(2,3,(.t 16))]),
 ao 7 (.alloc [(i64 0),(i64 0),(i64 0),(i64 0),(i64 0)]),
 ⟨none, .store 5 (.t 7) (.t 17),none,[],[]⟩] [3,4,7]) (.seq (.region false [
 ao 18 (.mkfn 57 [] [(.t 3),(.t 7),(.t 4)]),
 ao 6 (.mv (.t 18))] [6]) (.ret)))
def a37:AFn:=⟨3,[.t 6],b37,false⟩
def n37:Ann:=⟨[[2,3,4],[3,4,7],[6]],[],[],[],[],false,[]⟩
def b38:AC:=
 .seq (.region false [
 ao 2 (.mv (.c (.sl .full 1 [])))] [0]) (.seq (.region false [
 ao 3 (.mv (.t 0)),
 ao 4 (.isnil false (.t 3))] [0,4]) (.cond (.t 4) (.only (.seq (.region false [
 ao 2 (.mv (.c (.sl .full 1 [])))] [2]) (.ret))) (.seq (.region false [
 ao 5 (.lit [(i64 0)] 0 []),
 ao 6 (.mv (.t 0)),
 ao 7 (.appm 1 8 (.t 5) (.t 6)),
 ao 2 (.mv (.t 7))] [2]) (.ret))))
def a38:AFn:=⟨1,[.t 2],b38,false⟩
def n38:Ann:=⟨[[0],[0,4],[2],[2]],[],[],[],[7],false,[]⟩
def b39:AC:=
 .seq (.region false [
 ao 1 (.box (.t 0)),
 ao 2 (.mv (.c (i64 0)))] [1]) (.seq (.region false [
 ao 6 (.faddr 0 (.t 1)),
 ao 7 (.load none (.t 6)),
 ao 8 (.bin .sub (.t 7) (.c (i64 1))),
 ao 3 (.alloc [(i64 0)]),
 ⟨none, .store 1 (.t 3) (.t 8),none,[],[]⟩] [1,3]) (.seq (.region false [
 ao 9 (.mkfn 59 [] [(.t 3)]),
 ao 4 (.mv (.t 9))] [1,3,4]) (.seq (.region false [
 ao 10 (.mkfn 60 [] [(.t 3)]),
 ao 5 (.mv (.t 10))] [1,4,5]) (.seq (.seq (.region false [
 ao 11 (.faddr 0 (.t 1)),
 ao 12 (.load none (.t 11)),
 ao 13 (.call 21 [(.t 12),(.c (i64 1)),(.c (i64 4))]),
 ao 14 (.un .not (.t 13)),
 ao 15 (.mv (.t 14)),
 ag 16 (.faddr 1 (.t 1)) 15 false [],
 ag 17 (.load none (.t 16)) 15 false [],
 ag 18 (.call 21 [(.t 17),(.c (i64 0)),(.c (i64 4))]) 15 false [],
 ag 19 (.un .not (.t 18)) 15 false [],
 ao 20 (.pick (.t 15) (.c (.bool true)) (.t 19)),
 ao 21 (.mv (.t 20)),
 ag 22 (.faddr 2 (.t 1)) 21 false [],
 ag 23 (.load none (.t 22)) 21 false [],
 ag 24 (.call 21 [(.t 23),(.c (i64 0)),(.c (i64 3))]) 21 false [],
 ag 25 (.un .not (.t 24)) 21 false [],
 ao 26 (.pick (.t 21) (.c (.bool true)) (.t 25)),
 ao 27 (.mv (.t 26)),
 ag 28 (.faddr 3 (.t 1)) 27 false [],
 ag 29 (.load none (.t 28)) 27 false [],
 ag 30 (.len (.t 29)) 27 false [],
 ag 31 (.bin .gtr (.t 30) (.c (i64 5))) 27 false [],
 ao 32 (.pick (.t 27) (.c (.bool true)) (.t 31)),
 ao 33 (.mv (.t 32)),
 ag 34 (.faddr 3 (.t 1)) 33 false [],
 ag 35 (.load none (.t 34)) 33 false [],
 ag 36 (.mv (.t 4)) 33 false [],
 ag 37 (.call 61 [(.t 35),(.t 36)]) 33 false [],
 ao 38 (.pick (.t 33) (.c (.bool true)) (.t 37)),
 ao 39 (.mv (.t 38)),
 ag 40 (.faddr 4 (.t 1)) 39 false [],
 ag 41 (.load none (.t 40)) 39 false [],
 ag 42 (.len (.t 41)) 39 false [],
 ag 43 (.bin .gtr (.t 42) (.c (i64 3))) 39 false [],
 ao 44 (.pick (.t 39) (.c (.bool true)) (.t 43)),
 ao 45 (.mv (.t 44)),
 ag 46 (.faddr 4 (.t 1)) 45 false [],
 ag 47 (.load none (.t 46)) 45 false [],
 ag 48 (.mv (.t 5)) 45 false [],
 ag 49 (.call 62 [(.t 47),(.t 48)]) 45 false [],
 ao 50 (.pick (.t 45) (.c (.bool true)) (.t 49))] [50]) (.cond (.t 50) (.seq (.region false [
 ao 2 (.mv (.c (i64 30)))] [2]) (.ret)) (.skip))) (.seq (.region false [
 ao 2 (.mv (.c (i64 0)))] [2]) (.ret))))))
def a39:AFn:=⟨1,[.t 2],b39,false⟩
def n39:Ann:=⟨[[1],[1,3],[1,3,4],[1,4,5],[50],[2],[2]],[],[],[],[],false,[]⟩
def b41:AC:=
 .seq (.region false [
 ao 4 (.mv (.c (i64 0)))] [0,1]) (.seq (.region false [
 ao 7 (.mv (.t 0)),
 ao 8 (.call 35 [(.t 7)]),
 ao 9 (.mv (.t 1)),
 ao 10 (.call 35 [(.t 9)]),
 ao 5 (.mv (.t 8)),
 ao 6 (.mv (.t 10))] [5,6]) (.seq (.region false [
 ao 11 (.mv (.t 5)),
 ao 12 (.len (.t 11)),
 ao 13 (.mv (.t 6)),
 ao 14 (.len (.t 13)),
 ao 15 (.bin .sub (.t 12) (.t 14)),
 ao 16 (.mv (.t 5)),
 ao 17 (.mv (.t 6)),
 ao 18 (.call 43 [(.t 16),(.t 17)]),
 ao 19 (.lit [(i64 0)] 2 [(0,(.t 15)),(1,(.t 18))]),
 ao 20 (.call 42 [(.t 19)]),
 ao 4 (.mv (.t 20))] [4]) (.ret)))
def a41:AFn:=⟨2,[.t 4],b41,false⟩
def n41:Ann:=⟨[[0,1],[5,6],[4]],[],[],[],[],false,[(4,320),(17,160),(16,128),(13,160),(11,128),(6,160),(5,128)]⟩
@[simp] def d42l0:AC:=
 .seq (.region false [
 ao 9 (.bin .lss (.t 8) (.t 7))] [3,6,7,8,9]) (.seq (.cond (.t 9) (.skip) (.exit 0)) (.seq (.block 1 (.seq (.region false [
 ao 10 (.idxs 1 (.t 6) (.t 8)),
 ao 11 (.load none (.t 10)),
 ao 5 (.mv (.t 11))] [3,5,6,7,8]) (.seq (.region false [
 ao 12 (.mv (.t 5)),
 ao 13 (.mv (.t 3)),
 ao 14 (.bin .neq (.t 12) (.t 13))] [3,5,6,7,8,14]) (.cond (.t 14) (.seq (.region false [
 ao 15 (.mv (.t 5)),
 ao 2 (.mv (.t 15))] [2]) (.ret)) (.skip))))) (.region false [
 ao 16 (.bin .add (.t 8) (.c (i64 1))),
 ao 8 (.mv (.t 16))] [3,6,7,8])))
def b42l0:AC:= .loop [3,6,7,8] [] d42l0
def b42:AC:=
 .seq (.region false [
 ao 2 (.mv (.c (i64 0)))] [0]) (.seq (.region false [
 ao 3 (.mv (.c (i64 0)))] [0,3]) (.seq (.seq (.region false [
 ao 6 (.mv (.t 0)),
 ao 7 (.len (.t 6)),
 ao 8 (.mv (.c (i64 0)))] [3,6,7,8]) (.block 0 (b42l0))) (.seq (.region false [
 ao 17 (.mv (.t 3)),
 ao 2 (.mv (.t 17))] [2]) (.ret))))
def a42:AFn:=⟨1,[.t 2],b42,false⟩
def n42:Ann:=⟨[[0],[0,3],[3,6,7,8],[3,6,7,8,9],[3,5,6,7,8],[3,5,6,7,8,14],[2],[3,6,7,8],[2]],[⟨[],[3,6,7,8],[]⟩],[],[],[],false,[]⟩
@[simp] def d43l0:AC:=
 .seq (.region false [
 ao 12 (.bin .lss (.t 11) (.t 10))] [0,1,9,10,11,12]) (.seq (.cond (.t 12) (.skip) (.exit 0)) (.seq (.block 1 (.seq (.region false [
 ao 13 (.mv (.t 11)),
 ao 14 (.idxs 1 (.t 9) (.t 11)),
 ao 15 (.load none (.t 14)),
 ao 5 (.mv (.t 13)),
 ao 6 (.mv (.t 15))] [0,1,5,6,9,10,11]) (.seq (.seq (.region false [
 ao 16 (.mv (.t 5)),
 ao 17 (.mv (.t 1)),
 ao 18 (.len (.t 17)),
 ao 19 (.bin .geq (.t 16) (.t 18))] [0,1,5,6,9,10,11,19]) (.cond (.t 19) (.seq (.region false [
 ao 4 (.mv (.c (i64 1)))] [4]) (.ret)) (.skip))) (.seq (.region false [
 ao 20 (.mv (.t 1)),
 ao 21 (.mv (.t 5)),
 ao 22 (.idxs 1 (.t 20) (.t 21)),
 ao 23 (.load none (.t 22)),
 ao 7 (.mv (.t 23))] [0,1,6,7,9,10,11]) (.seq (.region false [
 ao 24 (.mv (.t 6)),
 ao 25 (.mv (.t 7)),
 ao 26 (.call 65 [(.t 24),(.t 25)]),
 ao 8 (.mv (.t 26))] [0,1,8,9,10,11]) (.seq (.region false [
 ao 27 (.mv (.t 8)),
 ao 28 (.bin .neq (.t 27) (.c (i64 0)))] [0,1,8,9,10,11,28]) (.cond (.t 28) (.seq (.region false [
 ao 29 (.mv (.t 8)),
 ao 4 (.mv (.t 29))] [4]) (.ret)) (.skip)))))))) (.region false [
 ao 30 (.bin .add (.t 11) (.c (i64 1))),
 ao 11 (.mv (.t 30))] [0,1,9,10,11])))
def b43l0:AC:= .loop [0,1,9,10,11] [] d43l0
def b43:AC:=
 .seq (.region false [
 ao 4 (.mv (.c (i64 0)))] [0,1]) (.seq (.seq (.region false [
 ao 9 (.mv (.t 0)),
 ao 10 (.len (.t 9)),
 ao 11 (.mv (.c (i64 0)))] [0,1,9,10,11]) (.block 0 (b43l0))) (.seq (.seq (.region false [
 ao 31 (.mv (.t 0)),
 ao 32 (.len (.t 31)),
 ao 33 (.mv (.t 1)),
 ao 34 (.len (.t 33)),
 ao 35 (.bin .lss (.t 32) (.t 34))] [35]) (.cond (.t 35) (.seq (.region false [
 ao 4 (.mv (.c (i64 (-1))))] [4]) (.ret)) (.skip))) (.seq (.region false [
 ao 4 (.mv (.c (i64 0)))] [4]) (.ret))))
def a43:AFn:=⟨2,[.t 4],b43,false⟩
def n43:Ann:=⟨[[0,1],[0,1,9,10,11],[0,1,9,10,11,12],[0,1,5,6,9,10,11],[0,1,5,6,9,10,11,19],[4],[0,1,6,7,9,10,11],[0,1,8,9,10,11],[0,1,8,9,10,11,28],[4],[0,1,9,10,11],[35],[4],[4]],[⟨[],[0,1,9,10,11],[]⟩],[],[],[],false,[(4,416),(29,416),(27,416),(8,416)]⟩
@[simp] def d44l0:AC:=
 .seq (.region false [
 ao 15 (.bin .lss (.t 14) (.t 13))] [0,3,5,12,13,14,15]) (.seq (.cond (.t 15) (.skip) (.exit 0)) (.seq (.block 1 (.seq (.region false [
 ao 16 (.mv (.t 14)),
 ao 17 (.idxs 2 (.t 12) (.t 14)),
 ao 18 (.load (some 2) (.t 17)),
 ao 7 (.alloc [(i64 0),(i64 0)]),
 ao 6 (.mv (.t 16)),
 ⟨none, .store 2 (.t 7) (.t 18),none,[],[]⟩] [0,3,5,6,7,12,13,14]) (.seq (.region true (spl [
 ao 19 (.mv (.t 6)),
 ap 20 (.idxa 3 1 (.t 3) (.t 19)) [0],
 ap 21 (.load none (.t 20)) [1,0],
 ao 22 (.mv (.t 0)),
 ap 23 (.nilck (.t 22)) [3],
 ap 24 (.faddr 0 (.t 23)) [4,3],
 ap 25 (.faddr 0 (.t 24)) [5,4,3],
 ap 26 (.load none (.t 25)) [6,5,4,3],
 ap 27 (.bin .sub (.t 26) (.c (i64 1))) [7,6,5,4,3]] [
 ap 28 (.bin .eql (.t 21) (.t 27)) [2,8,1,0,7,6,5,4,3]]) [0,3,5,7,12,13,14,28]) (.cond (.t 28) (.region false [
 ao 29 (.mv (.t 5)),
 ao 30 (.faddr 1 (.t 7)),
 ao 31 (.load none (.t 30)),
 ao 32 (.bin .add (.t 29) (.t 31)),
 ao 5 (.mv (.t 32))] [0,3,5,12,13,14]) (.skip))))) (.region false [
 ao 33 (.bin .add (.t 14) (.c (i64 1))),
 ao 14 (.mv (.t 33))] [0,3,5,12,13,14])))
def b44l0:AC:= .loop [0,3,5,12,13,14] [48] d44l0
def b44:AC:=
 .seq (.region false [
 ao 3 (.box (.t 1)),
 ao 4 (.mv (.c (i64 0)))] [0,3]) (.seq (.region false [
 ao 5 (.mv (.c (i64 0)))] [0,3,5]) (.seq (.seq (.region false [
 ao 8 (.mv (.t 0)),
 ao 9 (.nilck (.t 8)),
 ao 10 (.faddr 0 (.t 9)),
 ao 11 (.faddr 4 (.t 10)),
 ao 12 (.load none (.t 11)),
 ao 13 (.len (.t 12)),
 ao 14 (.mv (.c (i64 0)))] [0,3,5,12,13,14]) (.block 0 (b44l0))) (.seq (.region false [
 ao 34 (.mv (.t 5)),
 ao 4 (.mv (.t 34))] [4]) (.ret))))
def a44:AFn:=⟨2,[.t 4],b44,false⟩
def n44:Ann:=⟨[[0,3],[0,3,5],[0,3,5,12,13,14],[0,3,5,12,13,14,15],[0,3,5,6,7,12,13,14],[0,3,5,7,12,13,14,28],[0,3,5,12,13,14],[0,3,5,12,13,14],[4]],[⟨[],[0,3,5,12,13,14],[48]⟩],[],[],[],false,[]⟩
@[simp] def d45l0:AC:=
 .seq (.seq (.region false [
 ao 30 (.mv (.t 10)),
 ao 31 (.mv (.t 9)),
 ao 32 (.len (.t 31)),
 ao 33 (.bin .lss (.t 30) (.t 32))] [1,2,5,8,9,10,33]) (.cond (.t 33) (.skip) (.exit 0))) (.seq (.block 1 (.seq (.region true (spl [
 ao 37 (.load (some 5) (.t 2)),
 ao 38 (.mv (.t 9)),
 ao 39 (.mv (.t 10)),
 ap 40 (.idxs 1 (.t 38) (.t 39)) [1,2],
 ap 41 (.load none (.t 40)) [3,1,2],
 ap 42 (.call 33 [(.t 37),(.t 41)]) [0,4,3,1,2],
 ao 43 (.mv (.t 1)),
 ⟨(some 44), .call 66 [(.t 42),(.t 43)],none,[6,5,0,4,3,1,2],[999999]⟩,
 ap 36 (.mv (.t 44)) [7,6,5,0,4,3,1,2],
 ap 45 (.ext (.t 36) 0) [8,7,6,5,0,4,3,1,2],
 ap 46 (.ext (.t 36) 1) [8,7,6,5,0,4,3,1,2],
 ap 11 (.mv (.t 45)) [9,8,7,6,5,0,4,3,1,2]] [
 ap 12 (.mv (.t 46)) [10,11,9,8,7,6,5,0,4,3,1,2]]) [1,2,5,8,9,10,11]) (.region false [
 ao 47 (.mv (.t 8)),
 ao 48 (.mv (.t 11)),
 ao 49 (.mm true (.t 47) (.t 48)),
 ao 8 (.mv (.t 49))] [1,2,5,8,9,10]))) (.region false [
 ao 34 (.mv (.t 10)),
 ao 35 (.bin .add (.t 34) (.c (i64 1))),
 ao 10 (.mv (.t 35))] [1,2,5,8,9,10]))
def b45l0:AC:= .loop [1,2,5,8,9,10] [32,272,304,464] d45l0
def b45:AC:=
 .seq (.region false [
 ao 2 (.box (.t 0)),
 ao 4 (.mv (.c (i64 0)))] [1,2]) (.seq (.seq (.region false [
 ao 13 (.faddr 1 (.t 2)),
 ao 14 (.load none (.t 13)),
 ao 15 (.bin .eql (.t 14) (.c (i64 0)))] [1,2,15]) (.cond (.t 15) (.seq (.region false [
 ao 16 (.load (some 5) (.t 2)),
 ao 17 (.call 46 [(.t 16)]),
 ao 4 (.mv (.t 17))] [4]) (.ret)) (.skip))) (.seq (.region false [
 ao 18 (.load (some 5) (.t 2)),
 ao 19 (.call 47 [(.t 18)]),
 ao 5 (.mv (.t 19))] [1,2,5]) (.seq (.seq (.region false [
 ao 21 (.mv (.t 1)),
 ao 22 (.mv (.t 5)),
 ao 23 (.mget none true (.t 21) (.t 22)),
 ao 20 (.mv (.t 23)),
 ao 24 (.ext (.t 20) 0),
 ao 25 (.ext (.t 20) 1),
 ao 6 (.mv (.t 24)),
 ao 7 (.mv (.t 25))] [1,2,5,6,7]) (.seq (.region false [
 ao 26 (.mv (.t 7))] [1,2,5,6,26]) (.cond (.t 26) (.seq (.region false [
 ao 27 (.mv (.t 6)),
 ao 4 (.mv (.t 27))] [4]) (.ret)) (.skip)))) (.seq (.region false [
 ao 8 (.mv (.c (i64 0)))] [1,2,5,8]) (.seq (.region false [
 ao 28 (.load (some 5) (.t 2)),
 ao 29 (.call 48 [(.t 28)]),
 ao 9 (.mv (.t 29))] [1,2,5,8,9]) (.seq (.seq (.region false [
 ao 10 (.mv (.c (i64 0)))] [1,2,5,8,9,10]) (.block 0 (b45l0))) (.seq (.region false [
 ao 50 (.mv (.t 1)),
 ao 51 (.mv (.t 5)),
 ao 52 (.mv (.t 8)),
 ⟨none, .mput none (.t 50) (.t 51) (.t 52),none,[],[]⟩] [8]) (.seq (.region false [
 ao 53 (.mv (.t 8)),
 ao 4 (.mv (.t 53))] [4]) (.ret)))))))))
def a45:AFn:=⟨2,[.t 4],b45,false⟩
def n45:Ann:=⟨[[1,2],[1,2,15],[4],[1,2,5],[1,2,5,6,7],[1,2,5,6,26],[4],[1,2,5,8],[1,2,5,8,9],[1,2,5,8,9,10],[1,2,5,8,9,10,33],[1,2,5,8,9,10,11],[1,2,5,8,9,10],[1,2,5,8,9,10],[8],[4]],[⟨[],[1,2,5,8,9,10],[32,272,304,464]⟩],[],[],[],false,[(3000044,999999),(51,304),(48,704),(12,704),(11,704),(46,704),(45,704),(36,704),(38,464),(31,464),(9,464),(22,304),(5,304),(4,272)]⟩
@[simp] def d46l0:AC:=
 .seq (.seq (.region false [
 ao 5 (.mv (.t 4)),
 ao 6 (.faddr 4 (.t 1)),
 ao 7 (.load none (.t 6)),
 ao 8 (.len (.t 7)),
 ao 9 (.bin .lss (.t 5) (.t 8))] [1,3,4,9]) (.cond (.t 9) (.skip) (.exit 0))) (.seq (.block 1 (.seq (.region true (spl [
 ao 12 (.faddr 4 (.t 1)),
 ap 13 (.load none (.t 12)) [0],
 ao 14 (.mv (.t 4)),
 ap 15 (.idxs 2 (.t 13) (.t 14)) [1,2,0],
 ap 16 (.faddr 0 (.t 15)) [3,1,2,0],
 ap 17 (.load none (.t 16)) [4,3,1,2,0],
 ao 18 (.faddr 0 (.t 1)),
 ap 19 (.load none (.t 18)) [6],
 ap 20 (.bin .sub (.t 19) (.c (i64 1))) [7,6]] [
 ap 21 (.bin .eql (.t 17) (.t 20)) [5,8,4,3,1,2,0,7,6]]) [1,3,4,21]) (.cond (.t 21) (.region false [
 ao 22 (.mv (.t 3)),
 ao 23 (.faddr 4 (.t 1)),
 ao 24 (.load none (.t 23)),
 ao 25 (.mv (.t 4)),
 ao 26 (.idxs 2 (.t 24) (.t 25)),
 ao 27 (.faddr 1 (.t 26)),
 ao 28 (.load none (.t 27)),
 ao 29 (.bin .add (.t 22) (.t 28)),
 ao 3 (.mv (.t 29))] [1,3,4]) (.skip)))) (.region false [
 ao 10 (.mv (.t 4)),
 ao 11 (.bin .add (.t 10) (.c (i64 1))),
 ao 4 (.mv (.t 11))] [1,3,4]))
def b46l0:AC:= .loop [1,3,4] [16] d46l0
def b46:AC:=
 .seq (.region false [
 ao 1 (.box (.t 0)),
 ao 2 (.mv (.c (i64 0)))] [1]) (.seq (.region false [
 ao 3 (.mv (.c (i64 0)))] [1,3]) (.seq (.seq (.region false [
 ao 4 (.mv (.c (i64 0)))] [1,3,4]) (.block 0 (b46l0))) (.seq (.region false [
 ao 30 (.mv (.t 3)),
 ao 2 (.mv (.t 30))] [2]) (.ret))))
def a46:AFn:=⟨1,[.t 2],b46,false⟩
def n46:Ann:=⟨[[1],[1,3],[1,3,4],[1,3,4,9],[1,3,4,21],[1,3,4],[1,3,4],[2]],[⟨[],[1,3,4],[16]⟩],[],[],[],false,[]⟩
@[simp] def d47l0:AC:=
 .seq (.seq (.region false [
 ao 8 (.mv (.t 4)),
 ao 9 (.faddr 3 (.t 1)),
 ao 10 (.load none (.t 9)),
 ao 11 (.len (.t 10)),
 ao 12 (.bin .lss (.t 8) (.t 11))] [1,3,4,12]) (.cond (.t 12) (.skip) (.exit 0))) (.seq (.block 1 (.seq (.region false [
 ao 15 (.mv (.t 3)),
 ao 16 (.bin .mul (.t 15) (.c (i64 2))),
 ao 3 (.mv (.t 16))] [1,3,4]) (.seq (.region false [
 ao 17 (.faddr 3 (.t 1)),
 ao 18 (.load none (.t 17)),
 ao 19 (.mv (.t 4)),
 ao 20 (.idxs 3 (.t 18) (.t 19)),
 ao 21 (.faddr 2 (.t 20)),
 ao 22 (.load none (.t 21))] [1,3,4,22]) (.cond (.t 22) (.region false [
 ao 23 (.mv (.t 3)),
 ao 24 (.bin .add (.t 23) (.c (i64 1))),
 ao 3 (.mv (.t 24))] [1,3,4]) (.skip))))) (.region false [
 ao 13 (.mv (.t 4)),
 ao 14 (.bin .add (.t 13) (.c (i64 1))),
 ao 4 (.mv (.t 14))] [1,3,4]))
def b47l0:AC:= .loop [1,3,4] [16] d47l0
@[simp] def d47l1:AC:=
 .seq (.seq (.region false [
 ao 25 (.mv (.t 5)),
 ao 26 (.faddr 4 (.t 1)),
 ao 27 (.load none (.t 26)),
 ao 28 (.len (.t 27)),
 ao 29 (.bin .lss (.t 25) (.t 28))] [1,3,5,29]) (.cond (.t 29) (.skip) (.exit 2))) (.seq (.block 3 (.region false [
 ao 32 (.mv (.t 3)),
 ao 33 (.bin .mul (.t 32) (.c (i64 4))),
 ao 34 (.faddr 4 (.t 1)),
 ao 35 (.load none (.t 34)),
 ao 36 (.mv (.t 5)),
 ao 37 (.idxs 2 (.t 35) (.t 36)),
 ao 38 (.faddr 0 (.t 37)),
 ao 39 (.load none (.t 38)),
 ao 40 (.bin .add (.t 33) (.t 39)),
 ao 3 (.mv (.t 40))] [1,3,5])) (.region false [
 ao 30 (.mv (.t 5)),
 ao 31 (.bin .add (.t 30) (.c (i64 1))),
 ao 5 (.mv (.t 31))] [1,3,5]))
def b47l1:AC:= .loop [1,3,5] [16] d47l1
def b47:AC:=
 .seq (.region false [
 ao 1 (.box (.t 0)),
 ao 2 (.mv (.c (i64 0)))] [1]) (.seq (.region false [
 ao 6 (.faddr 1 (.t 1)),
 ao 7 (.load none (.t 6)),
 ao 3 (.mv (.t 7))] [1,3]) (.seq (.seq (.region false [
 ao 4 (.mv (.c (i64 0)))] [1,3,4]) (.block 0 (b47l0))) (.seq (.seq (.region false [
 ao 5 (.mv (.c (i64 0)))] [1,3,5]) (.block 2 (b47l1))) (.seq (.region false [
 ao 41 (.mv (.t 3)),
 ao 2 (.mv (.t 41))] [2]) (.ret)))))
def a47:AFn:=⟨1,[.t 2],b47,false⟩
def n47:Ann:=⟨[[1],[1,3],[1,3,4],[1,3,4,12],[1,3,4],[1,3,4,22],[1,3,4],[1,3,4],[1,3,5],[1,3,5,29],[1,3,5],[1,3,5],[2]],[⟨[],[1,3,4],[16]⟩,⟨[],[1,3,5],[16]⟩],[],[],[],false,[]⟩
@[simp] def d48l0:AC:=
 .seq (.seq (.region false [
 ao 5 (.mv (.t 4)),
 ao 6 (.faddr 2 (.t 1)),
 ao 7 (.load none (.t 6)),
 ao 8 (.bin .leq (.t 5) (.t 7)),
 ao 9 (.mv (.t 8)),
 ag 10 (.mv (.t 4)) 9 true [],
 ag 11 (.faddr 3 (.t 1)) 9 true [],
 ag 12 (.load none (.t 11)) 9 true [],
 ag 13 (.len (.t 12)) 9 true [],
 ag 14 (.bin .leq (.t 10) (.t 13)) 9 true [],
 ao 15 (.pick (.t 9) (.t 14) (.c (.bool false)))] [1,3,4,15]) (.cond (.t 15) (.skip) (.exit 0))) (.seq (.block 1 (.region false [
 ao 18 (.mv (.t 3)),
 ao 19 (.mv (.t 4)),
 ao 20 (.faddr 3 (.t 1)),
 ao 21 (.load none (.t 20)),
 ao 22 (.len (.t 21)),
 ao 23 (.call 67 [(.c (.sl .full 1 [])),(.t 19),(.t 22)]),
 ao 24 (.app 1 24 (.t 18) (.t 23)),
 ao 3 (.mv (.t 24))] [1,3,4])) (.region false [
 ao 16 (.mv (.t 4)),
 ao 17 (.bin .add (.t 16) (.c (i64 1))),
 ao 4 (.mv (.t 17))] [1,3,4]))
def b48l0:AC:= .loop [1,3,4] [16,49] d48l0
def b48:AC:=
 .seq (.region false [
 ao 1 (.box (.t 0)),
 ao 2 (.mv (.c (.sl .full 1 [])))] [1]) (.seq (.region false [
 ao 3 (.mv (.c (.sl .full 1 [])))] [1,3]) (.seq (.seq (.region false [
 ao 4 (.mv (.c (i64 0)))] [1,3,4]) (.block 0 (.seq (.thaw 3 49 1) (b48l0)))) (.seq (.region false [
 ao 25 (.mv (.t 3)),
 ao 2 (.mv (.t 25))] [2]) (.ret))))
def a48:AFn:=⟨1,[.t 2],b48,false⟩
def n48:Ann:=⟨[[1],[1,3],[1,3,4],[1,3,4,15],[1,3,4],[1,3,4],[2]],[⟨[.t 3 49 1],[1,3,4],[16,49]⟩],[],[],[],false,[]⟩
@[simp] def d49l1:AC:=
 .seq (.seq (.region false [
 ao 16 (.mv (.t 8)),
 ao 17 (.faddr 3 (.t 2)),
 ao 18 (.load none (.t 17)),
 ao 19 (.len (.t 18)),
 ao 20 (.bin .lss (.t 16) (.t 19))] [1,2,5,6,7,8,20]) (.cond (.t 20) (.skip) (.exit 2))) (.seq (.block 3 (.seq (.region false [
 ao 23 (.faddr 3 (.t 2)),
 ao 24 (.load none (.t 23)),
 ao 25 (.mv (.t 8)),
 ao 26 (.idxs 3 (.t 24) (.t 25)),
 ao 27 (.load (some 3) (.t 26)),
 ao 9 (.alloc [(i64 0),(i64 0),(.bool false)]),
 ⟨none, .store 3 (.t 9) (.t 27),none,[],[]⟩] [1,2,5,6,7,8,9]) (.region false [
 ao 28 (.mv (.t 7)),
 ao 29 (.mv (.t 28)),
 ag 30 (.faddr 2 (.t 9)) 29 false [],
 ag 31 (.load none (.t 30)) 29 false [],
 ag 32 (.mv (.t 31)) 29 false [],
 ag 33 (.faddr 0 (.t 9)) 32 true [],
 ag 34 (.load none (.t 33)) 32 true [],
 ag 35 (.mv (.t 1)) 32 true [],
 ag 36 (.bin .eql (.t 34) (.t 35)) 32 true [],
 ag 37 (.mv (.t 36)) 32 true [],
 ag 38 (.faddr 1 (.t 9)) 37 true [],
 ag 39 (.load none (.t 38)) 37 true [],
 ag 40 (.mv (.t 6)) 37 true [],
 ag 41 (.bin .eql (.t 39) (.t 40)) 37 true [],
 ag 42 (.pick (.t 37) (.t 41) (.c (.bool false))) 32 true [],
 ag 43 (.mv (.t 42)) 32 true [],
 ag 44 (.faddr 1 (.t 9)) 43 false [],
 ag 45 (.load none (.t 44)) 43 false [],
 ag 46 (.mv (.t 1)) 43 false [],
 ag 47 (.bin .eql (.t 45) (.t 46)) 43 false [],
 ag 48 (.mv (.t 47)) 43 false [],
 ag 49 (.faddr 0 (.t 9)) 48 true [],
 ag 50 (.load none (.t 49)) 48 true [],
 ag 51 (.mv (.t 6)) 48 true [],
 ag 52 (.bin .eql (.t 50) (.t 51)) 48 true [],
 ag 53 (.pick (.t 48) (.t 52) (.c (.bool false))) 43 false [],
 ag 54 (.pick (.t 43) (.c (.bool true)) (.t 53)) 32 true [],
 ag 55 (.pick (.t 32) (.t 54) (.c (.bool false))) 29 false [],
 ao 56 (.pick (.t 29) (.c (.bool true)) (.t 55)),
 ao 7 (.mv (.t 56))] [1,2,5,6,7,8]))) (.region false [
 ao 21 (.mv (.t 8)),
 ao 22 (.bin .add (.t 21) (.c (i64 1))),
 ao 8 (.mv (.t 22))] [1,2,5,6,7,8]))
def b49l1:AC:= .loop [1,2,5,6,7,8] [32,81,960,976,1056] d49l1
@[simp] def d49l0:AC:=
 .seq (.seq (.region false [
 ao 10 (.mv (.t 6)),
 ao 11 (.faddr 0 (.t 2)),
 ao 12 (.load none (.t 11)),
 ao 13 (.bin .lss (.t 10) (.t 12))] [1,2,5,6,13]) (.cond (.t 13) (.skip) (.exit 0))) (.seq (.block 1 (.seq (.region false [
 ao 7 (.mv (.c (.bool false)))] [1,2,5,6,7]) (.seq (.seq (.region false [
 ao 8 (.mv (.c (i64 0)))] [1,2,5,6,7,8]) (.block 2 (b49l1))) (.seq (.region false [
 ao 57 (.mv (.t 7))] [1,2,5,6,57]) (.cond (.t 57) (.region false [
 ao 58 (.mv (.t 5)),
 ao 59 (.mv (.t 6)),
 ao 60 (.lit [(i64 0)] 1 [(0,(.t 59))]),
 ao 61 (.app 1 8 (.t 58) (.t 60)),
 ao 5 (.mv (.t 61))] [1,2,5,6]) (.skip)))))) (.region false [
 ao 14 (.mv (.t 6)),
 ao 15 (.bin .add (.t 14) (.c (i64 1))),
 ao 6 (.mv (.t 15))] [1,2,5,6]))
def b49l0:AC:= .loop [1,2,5,6] [32,81,1056] d49l0
def b49:AC:=
 .seq (.region false [
 ao 2 (.box (.t 0)),
 ao 4 (.mv (.c (.sl .full 1 [])))] [1,2]) (.seq (.region false [
 ao 5 (.mv (.c (.sl .full 1 [])))] [1,2,5]) (.seq (.seq (.region false [
 ao 6 (.mv (.c (i64 0)))] [1,2,5,6]) (.block 0 (.seq (.thaw 5 81 1) (b49l0)))) (.seq (.seq (.region false [
 ao 62 (.mv (.t 5)),
 ao 63 (.len (.t 62)),
 ao 64 (.bin .eql (.t 63) (.c (i64 0)))] [1,5,64]) (.cond (.t 64) (.seq (.region false [
 ao 65 (.mv (.t 1)),
 ao 66 (.lit [(i64 0)] 1 [(0,(.t 65))]),
 ao 4 (.mv (.t 66))] [4]) (.ret)) (.skip))) (.seq (.region false [
 ao 67 (.mv (.t 5)),
 ao 4 (.mv (.t 67))] [4]) (.ret)))))
def a49:AFn:=⟨2,[.t 4],b49,false⟩
def n49:Ann:=⟨[[1,2],[1,2,5],[1,2,5,6],[1,2,5,6,13],[1,2,5,6,7],[1,2,5,6,7,8],[1,2,5,6,7,8,20],[1,2,5,6,7,8,9],[1,2,5,6,7,8],[1,2,5,6,7,8],[1,2,5,6,57],[1,2,5,6],[1,2,5,6],[1,5,64],[4],[4]],[⟨[.t 5 81 1],[1,2,5,6],[32,81,1056]⟩,⟨[],[1,2,5,6,7,8],[32,81,960,976,1056]⟩],[],[],[],false,[]⟩
@[simp] def d50l0:AC:=
 .seq (.seq (.region false [
 ao 10 (.mv (.t 6)),
 ao 11 (.mv (.t 1)),
 ao 12 (.len (.t 11)),
 ao 13 (.bin .lss (.t 10) (.t 12))] [1,4,5,6,13]) (.cond (.t 13) (.skip) (.exit 0))) (.seq (.block 1 (.seq (.region false [
 ao 16 (.faddr 4 (.t 5)),
 ao 17 (.load none (.t 16)),
 ao 18 (.mv (.t 6)),
 ao 19 (.idxs 2 (.t 17) (.t 18)),
 ao 20 (.load (some 2) (.t 19)),
 ao 7 (.alloc [(i64 0),(i64 0)]),
 ⟨none, .store 2 (.t 7) (.t 20),none,[],[]⟩] [1,4,5,6,7]) (.seq (.region false [
 ao 21 (.mv (.t 1)),
 ao 22 (.mv (.t 6)),
 ao 23 (.idxs 1 (.t 21) (.t 22)),
 ao 24 (.load none (.t 23)),
 ao 25 (.faddr 0 (.t 7)),
 ⟨none, .store 1 (.t 25) (.t 24),none,[],[]⟩] [1,4,5,6,7]) (.region false [
 ao 26 (.faddr 4 (.t 5)),
 ao 27 (.load none (.t 26)),
 ao 28 (.mv (.t 6)),
 ao 29 (.load (some 2) (.t 7)),
 ao 30 (.idxs 2 (.t 27) (.t 28)),
 ⟨none, .store 2 (.t 30) (.t 29),none,[],[]⟩] [1,4,5,6])))) (.region false [
 ao 14 (.mv (.t 6)),
 ao 15 (.bin .add (.t 14) (.c (i64 1))),
 ao 6 (.mv (.t 15))] [1,4,5,6]))
def b50l0:AC:= .loop [1,4,5,6] [32,64,80,144,1144] d50l0
def b50:AC:=
 .seq (.region false [
 ao 2 (.box (.t 0)),
 ao 4 (.alloc [(i64 0),(i64 0),(i64 0),(.sl .full 3 []),(.sl .full 2 [])])] [1,2,4]) (.seq (.region false [
 ao 8 (.load (some 5) (.t 2)),
 ao 9 (.call 6 [(.t 8)]),
 ao 5 (.alloc [(i64 0),(i64 0),(i64 0),(.sl .full 3 []),(.sl .full 2 [])]),
 ⟨none, .store 5 (.t 5) (.t 9),none,[],[]⟩] [1,4,5]) (.seq (.seq (.region false [
 ao 6 (.mv (.c (i64 0)))] [1,4,5,6]) (.block 0 (b50l0))) (.seq (.region false [
 ao 31 (.faddr 1 (.t 5)),
 ao 32 (.load none (.t 31)),
 ao 33 (.bin .sub (.t 32) (.c (i64 1))),
 ao 34 (.faddr 1 (.t 5)),
 ⟨none, .store 1 (.t 34) (.t 33),none,[],[]⟩] [4,5]) (.seq (.region false [
 ao 35 (.load (some 5) (.t 5)),
 ⟨none, .store 5 (.t 4) (.t 35),none,[],[]⟩] [4]) (.ret)))))
def a50:AFn:=⟨2,[.cell 4 (some 5)],b50,false⟩
def n50:Ann:=⟨[[1,2,4],[1,4,5],[1,4,5,6],[1,4,5,6,13],[1,4,5,6,7],[1,4,5,6,7],[1,4,5,6],[1,4,5,6],[4,5],[4]],[⟨[],[1,4,5,6],[32,64,80,144,1144]⟩],[],[],[],false,[]⟩
@[simp] def d51l0:AC:=
 .seq (.region false [
 ao 17 (.bin .lss (.t 16) (.t 15))] [1,2,7,14,15,16,17]) (.seq (.cond (.t 17) (.skip) (.exit 0)) (.seq (.block 1 (.seq (.region false [
 ao 18 (.mv (.t 16)),
 ao 19 (.idxs 3 (.t 14) (.t 16)),
 ao 20 (.load (some 3) (.t 19)),
 ao 9 (.alloc [(i64 0),(i64 0),(.bool false)]),
 ao 8 (.mv (.t 18)),
 ⟨none, .store 3 (.t 9) (.t 20),none,[],[]⟩] [1,2,7,8,9,14,15,16]) (.block 2 (.seq (.region false [
 ao 22 (.mv (.t 1)),
 ao 23 (.mv (.t 8)),
 ao 24 (.bin .shr (.t 22) (.t 23)),
 ao 25 (.bin .and (.t 24) (.c (i64 1))),
 ao 26 (.bin .eql (.t 25) (.c (i64 0))),
 ao 21 (.mv (.t 26))] [1,2,7,9,14,15,16,21]) (.cond (.t 21) (.skip) (.seq (.region false [
 ao 28 (.faddr 0 (.t 9)),
 ao 29 (.load none (.t 28)),
 ao 30 (.mv (.t 2)),
 ao 31 (.bin .eql (.t 29) (.t 30)),
 ao 27 (.mv (.t 31))] [1,2,7,9,14,15,16,27]) (.cond (.t 27) (.region false [
 ao 32 (.mv (.t 7)),
 ao 33 (.faddr 1 (.t 9)),
 ao 34 (.load none (.t 33)),
 ao 35 (.lit [(i64 0)] 1 [(0,(.t 34))]),
 ao 36 (.app 1 8 (.t 32) (.t 35)),
 ao 7 (.mv (.t 36))] [1,2,7,14,15,16]) (.seq (.region false [
 ao 38 (.faddr 1 (.t 9)),
 ao 39 (.load none (.t 38)),
 ao 40 (.mv (.t 2)),
 ao 41 (.bin .eql (.t 39) (.t 40)),
 ao 37 (.mv (.t 41))] [1,2,7,9,14,15,16,37]) (.cond (.t 37) (.region false [
 ao 42 (.mv (.t 7)),
 ao 43 (.faddr 0 (.t 9)),
 ao 44 (.load none (.t 43)),
 ao 45 (.lit [(i64 0)] 1 [(0,(.t 44))]),
 ao 46 (.app 1 8 (.t 42) (.t 45)),
 ao 7 (.mv (.t 46))] [1,2,7,14,15,16]) (.skip)))))))))) (.region false [
 ao 47 (.bin .add (.t 16) (.c (i64 1))),
 ao 16 (.mv (.t 47))] [1,2,7,14,15,16])))
def b51l0:AC:= .loop [1,2,7,14,15,16] [113,832,864,896] d51l0
def b51:AC:=
 .seq (.region false [
 ao 6 (.mv (.c (.sl .full 1 [])))] [0,1,2]) (.seq (.region false [
 ao 7 (.mv (.c (.sl .full 1 [])))] [0,1,2,7]) (.seq (.seq (.region false [
 ao 10 (.mv (.t 0)),
 ao 11 (.nilck (.t 10)),
 ao 12 (.faddr 0 (.t 11)),
 ao 13 (.faddr 3 (.t 12)),
 ao 14 (.load none (.t 13)),
 ao 15 (.len (.t 14)),
 ao 16 (.mv (.c (i64 0)))] [1,2,7,14,15,16]) (.block 0 (.seq (.thaw 7 113 101) (b51l0)))) (.seq (.seq (.region false [
 ao 48 (.mv (.t 7)),
 ao 49 (.len (.t 48)),
 ao 50 (.bin .eql (.t 49) (.c (i64 0)))] [2,7,50]) (.cond (.t 50) (.seq (.region false [
 ao 51 (.mv (.t 2)),
 ao 52 (.lit [(i64 0)] 1 [(0,(.t 51))]),
 ao 6 (.mv (.t 52))] [6]) (.ret)) (.skip))) (.seq (.region false [
 ao 53 (.mv (.t 7)),
 ao 54 (.call 68 [(.t 53)])] [7]) (.seq (.region false [
 ao 55 (.mv (.t 7)),
 ao 56 (.call 69 [(.t 55)]),
 ao 6 (.mv (.t 56))] [6]) (.ret))))))
def a51:AFn:=⟨3,[.t 6],b51,false⟩
def n51:Ann:=⟨[[0,1,2],[0,1,2,7],[1,2,7,14,15,16],[1,2,7,14,15,16,17],[1,2,7,8,9,14,15,16],[1,2,7,9,14,15,16,21],[1,2,7,9,14,15,16,27],[1,2,7,14,15,16],[1,2,7,9,14,15,16,37],[1,2,7,14,15,16],[1,2,7,14,15,16],[2,7,50],[6],[7],[6]],[⟨[.t 7 113 101],[1,2,7,14,15,16],[113,832,864,896]⟩],[],[],[],false,[(6,896)]⟩
@[simp] def d52l1:AC:=
 .seq (.seq (.region false [
 ao 20 (.mv (.t 8)),
 ao 21 (.faddr 0 (.t 2)),
 ao 22 (.load none (.t 21)),
 ao 23 (.bin .lss (.t 20) (.t 22))] [1,2,6,7,8,23]) (.cond (.t 23) (.skip) (.exit 2))) (.seq (.block 3 (.seq (.region false [
 ao 26 (.mv (.t 6)),
 ao 27 (.bin .mul (.t 26) (.c (i64 2))),
 ao 6 (.mv (.t 27))] [1,2,6,7,8]) (.seq (.region false [
 ao 28 (.mv (.t 1)),
 ao 29 (.mv (.t 7)),
 ao 30 (.idxs 1 (.t 28) (.t 29)),
 ao 31 (.load none (.t 30)),
 ao 32 (.mv (.t 8)),
 ao 33 (.call 70 [(.t 31),(.t 32)])] [1,2,6,7,8,33]) (.cond (.t 33) (.region false [
 ao 34 (.mv (.t 6)),
 ao 35 (.bin .add (.t 34) (.c (i64 1))),
 ao 6 (.mv (.t 35))] [1,2,6,7,8]) (.skip))))) (.region false [
 ao 24 (.mv (.t 8)),
 ao 25 (.bin .add (.t 24) (.c (i64 1))),
 ao 8 (.mv (.t 25))] [1,2,6,7,8]))
def b52l1:AC:= .loop [1,2,6,7,8] [32,80,160,208,1160,2160,3160,4160,5160,6160,7160,8160] d52l1
@[simp] def d52l0:AC:=
 .seq (.seq (.region false [
 ao 14 (.mv (.t 7)),
 ao 15 (.mv (.t 1)),
 ao 16 (.len (.t 15)),
 ao 17 (.bin .lss (.t 14) (.t 16))] [1,2,6,7,17]) (.cond (.t 17) (.skip) (.exit 0))) (.seq (.block 1 (.seq (.region false [
 ao 8 (.mv (.c (i64 0)))] [1,2,6,7,8]) (.block 2 (b52l1)))) (.region false [
 ao 18 (.mv (.t 7)),
 ao 19 (.bin .add (.t 18) (.c (i64 1))),
 ao 7 (.mv (.t 19))] [1,2,6,7]))
def b52l0:AC:= .loop [1,2,6,7] [32,80,160,208,1160,2160,3160,4160,5160,6160,7160,8160] d52l0
def b52:AC:=
 .seq (.region false [
 ao 2 (.box (.t 0)),
 ao 4 (.mv (.c (i64 0)))] [1,2]) (.seq (.region false [
 ao 9 (.load (some 5) (.t 2)),
 ao 10 (.call 6 [(.t 9)]),
 ao 5 (.alloc [(i64 0),(i64 0),(i64 0),(.sl .full 3 []),(.sl .full 2 [])]),
 ⟨none, .store 5 (.t 5) (.t 10),none,[],[]⟩] [1,2,5]) (.seq (.seq (.freeze [160,1160,2160,3160,4160,5160,6160,7160,8160]) (.region false [
 ao 11 (.faddr 4 (.t 5)),
 ⟨none, .store 1 (.t 11) (.c (.sl .full 2 [])),none,[],[]⟩] [1,2,5])) (.seq (.region false [
 ao 12 (.load (some 5) (.t 5)),
 ao 13 (.call 47 [(.t 12)]),
 ao 6 (.mv (.t 13))] [1,2,6]) (.seq (.seq (.region false [
 ao 7 (.mv (.c (i64 0)))] [1,2,6,7]) (.block 0 (b52l0))) (.seq (.region false [
 ao 36 (.mv (.t 6)),
 ao 4 (.mv (.t 36))] [4]) (.ret))))))
def a52:AFn:=⟨2,[.t 4],b52,false⟩
def n52:Ann:=⟨[[1,2],[1,2,5],[1,2,5],[1,2,6],[1,2,6,7],[1,2,6,7,17],[1,2,6,7,8],[1,2,6,7,8,23],[1,2,6,7,8],[1,2,6,7,8,33],[1,2,6,7,8],[1,2,6,7,8],[1,2,6,7],[4]],[⟨[],[1,2,6,7],[32,80,160,208,1160,2160,3160,4160,5160,6160,7160,8160]⟩,⟨[],[1,2,6,7,8],[32,80,160,208,1160,2160,3160,4160,5160,6160,7160,8160]⟩],[],[[],[],[160,1160,2160,3160,4160,5160,6160,7160,8160],[],[],[],[],[],[],[],[],[],[],[]],[],false,[(4,208),(36,208),(34,208),(26,208),(6,208)]⟩
@[simp] def d53l1:AC:=
 .seq (.seq (.region false [
 ao 15 (.mv (.t 8)),
 ao 16 (.mv (.t 1)),
 ao 17 (.len (.t 16)),
 ao 18 (.bin .lss (.t 15) (.t 17))] [1,2,5,6,7,8,18]) (.cond (.t 18) (.skip) (.exit 2))) (.seq (.block 3 (.region true (spl [
 ao 21 (.mv (.t 7)),
 ap 22 (.mv (.t 21)) [0],
 ag 23 (.load (some 5) (.t 2)) 22 false [1,0],
 ag 24 (.mv (.t 1)) 22 false [1,0],
 ag 25 (.mv (.t 8)) 22 false [1,0],
 ag 26 (.idxs 1 (.t 24) (.t 25)) 22 false [3,4,1,0],
 ag 27 (.load none (.t 26)) 22 false [5,3,4,1,0],
 ag 28 (.call 49 [(.t 23),(.t 27)]) 22 false [2,6,5,3,4,1,0],
 ag 29 (.mv (.t 6)) 22 false [1,0]] [
 ag 30 (.call 70 [(.t 28),(.t 29)]) 22 false [8,7,2,6,5,3,4,1,0],
 ap 31 (.pick (.t 22) (.c (.bool true)) (.t 30)) [9,8,7,2,6,5,3,4,1,0],
 ap 7 (.mv (.t 31)) [10,9,8,7,2,6,5,3,4,1,0]]) [1,2,5,6,7,8])) (.region false [
 ao 19 (.mv (.t 8)),
 ao 20 (.bin .add (.t 19) (.c (i64 1))),
 ao 8 (.mv (.t 20))] [1,2,5,6,7,8]))
def b53l1:AC:= .loop [1,2,5,6,7,8] [32,81,560,576] d53l1
@[simp] def d53l0:AC:=
 .seq (.seq (.region false [
 ao 9 (.mv (.t 6)),
 ao 10 (.faddr 0 (.t 2)),
 ao 11 (.load none (.t 10)),
 ao 12 (.bin .lss (.t 9) (.t 11))] [1,2,5,6,12]) (.cond (.t 12) (.skip) (.exit 0))) (.seq (.block 1 (.seq (.region false [
 ao 7 (.mv (.c (.bool false)))] [1,2,5,6,7]) (.seq (.seq (.region false [
 ao 8 (.mv (.c (i64 0)))] [1,2,5,6,7,8]) (.block 2 (b53l1))) (.seq (.region false [
 ao 32 (.mv (.t 7))] [1,2,5,6,32]) (.cond (.t 32) (.region false [
 ao 33 (.mv (.t 5)),
 ao 34 (.mv (.t 6)),
 ao 35 (.lit [(i64 0)] 1 [(0,(.t 34))]),
 ao 36 (.app 1 8 (.t 33) (.t 35)),
 ao 5 (.mv (.t 36))] [1,2,5,6]) (.skip)))))) (.region false [
 ao 13 (.mv (.t 6)),
 ao 14 (.bin .add (.t 13) (.c (i64 1))),
 ao 6 (.mv (.t 14))] [1,2,5,6]))
def b53l0:AC:= .loop [1,2,5,6] [32,81] d53l0
def b53:AC:=
 .seq (.region false [
 ao 2 (.box (.t 0)),
 ao 4 (.mv (.c (.sl .full 1 [])))] [1,2]) (.seq (.region false [
 ao 5 (.mv (.c (.sl .full 1 [])))] [1,2,5]) (.seq (.seq (.region false [
 ao 6 (.mv (.c (i64 0)))] [1,2,5,6]) (.block 0 (.seq (.thaw 5 81 1) (b53l0)))) (.seq (.region false [
 ao 37 (.mv (.t 5)),
 ao 4 (.mv (.t 37))] [4]) (.ret))))
def a53:AFn:=⟨2,[.t 4],b53,false⟩
def n53:Ann:=⟨[[1,2],[1,2,5],[1,2,5,6],[1,2,5,6,12],[1,2,5,6,7],[1,2,5,6,7,8],[1,2,5,6,7,8,18],[1,2,5,6,7,8],[1,2,5,6,7,8],[1,2,5,6,32],[1,2,5,6],[1,2,5,6],[4]],[⟨[.t 5 81 1],[1,2,5,6],[32,81]⟩,⟨[],[1,2,5,6,7,8],[32,81,560,576]⟩],[],[],[],false,[]⟩
def b54:AC:=
 .seq (.region false [
 ao 2 (.box (.t 0)),
 ao 4 (.alloc [(i64 0),(i64 0),(i64 0),(.sl .full 3 []),(.sl .full 2 [])])] [1,2,4]) (.seq (.region false [
 ao 6 (.load (some 5) (.t 2)),
 ao 7 (.call 6 [(.t 6)]),
 ao 5 (.alloc [(i64 0),(i64 0),(i64 0),(.sl .full 3 []),(.sl .full 2 [])]),
 ⟨none, .store 5 (.t 5) (.t 7),none,[],[]⟩] [1,4,5]) (.seq (.seq (.freeze [112,1112,2112,3112,4112,5112,6112,7112,8112]) (.region false [
 ao 8 (.mv (.t 1)),
 ao 9 (.faddr 1 (.t 5)),
 ⟨none, .store 1 (.t 9) (.t 8),none,[],[]⟩] [4,5])) (.seq (.region false [
 ao 10 (.load (some 5) (.t 5)),
 ⟨none, .store 5 (.t 4) (.t 10),none,[],[]⟩] [4]) (.ret))))
def a54:AFn:=⟨2,[.cell 4 (some 5)],b54,false⟩
def n54:Ann:=⟨[[1,2,4],[1,4,5],[4,5],[4]],[],[],[[],[],[112,1112,2112,3112,4112,5112,6112,7112,8112],[]],[],false,[]⟩
def b55:AC:=
 .seq (.region false [
 ao 6 (.mv (.c (.bool false)))] [0,1,2]) (.seq (.region false [
 ao 7 (.mv (.t 1)),
 ao 8 (.mv (.t 0)),
 ao 9 (.bin .leq (.t 7) (.t 8)),
 ao 10 (.mv (.t 9)),
 ag 11 (.mv (.t 0)) 10 true [],
 ag 12 (.mv (.t 2)) 10 true [],
 ag 13 (.bin .leq (.t 11) (.t 12)) 10 true [],
 ao 14 (.pick (.t 10) (.t 13) (.c (.bool false))),
 ao 6 (.mv (.t 14))] [6]) (.ret))
def a55:AFn:=⟨3,[.t 6],b55,false⟩
def n55:Ann:=⟨[[0,1,2],[6]],[],[],[],[],false,[]⟩
@[simp] def d56l0:AC:=
 .seq (.region false [
 ao 11 (.bin .lss (.t 10) (.t 9))] [0,1,4,8,9,10,11]) (.seq (.cond (.t 11) (.skip) (.exit 0)) (.seq (.block 1 (.seq (.region false [
 ao 12 (.mv (.t 10)),
 ao 13 (.idxs 1 (.t 8) (.t 10)),
 ao 14 (.load none (.t 13)),
 ao 6 (.mv (.t 12)),
 ao 7 (.mv (.t 14))] [0,1,4,6,7,8,9,10]) (.seq (.seq (.region false [
 ao 15 (.mv (.t 7)),
 ao 16 (.mv (.t 0)),
 ao 17 (.nilck (.t 16)),
 ao 18 (.faddr 0 (.t 17)),
 ao 19 (.faddr 3 (.t 18)),
 ao 20 (.load none (.t 19)),
 ao 21 (.len (.t 20)),
 ao 22 (.bin .sub (.t 21) (.c (i64 1))),
 ao 23 (.call 21 [(.t 15),(.c (i64 0)),(.t 22)]),
 ao 24 (.un .not (.t 23)),
 ao 25 (.mv (.t 24)),
 ag 26 (.mv (.t 6)) 25 false [],
 ag 27 (.bin .gtr (.t 26) (.c (i64 0))) 25 false [],
 ag 28 (.mv (.t 27)) 25 false [],
 ag 29 (.mv (.t 7)) 28 true [],
 ag 30 (.mv (.t 1)) 28 true [],
 ag 31 (.mv (.t 6)) 28 true [],
 ag 32 (.bin .sub (.t 31) (.c (i64 1))) 28 true [],
 ag 33 (.idxs 1 (.t 30) (.t 32)) 28 true [],
 ag 34 (.load none (.t 33)) 28 true [],
 ag 35 (.bin .leq (.t 29) (.t 34)) 28 true [],
 ag 36 (.pick (.t 28) (.t 35) (.c (.bool false))) 25 false [],
 ao 37 (.pick (.t 25) (.c (.bool true)) (.t 36))] [0,1,4,7,8,9,10,37]) (.cond (.t 37) (.seq (.region false [
 ao 4 (.mv (.c (i64 0))),
 ao 5 (.mv (.c (.bool false)))] [4,5]) (.ret)) (.skip))) (.region false [
 ao 38 (.mv (.t 4)),
 ao 39 (.mv (.t 7)),
 ao 40 (.bin .shl (.c (i64 1)) (.t 39)),
 ao 41 (.bin .or (.t 38) (.t 40)),
 ao 4 (.mv (.t 41))] [0,1,4,8,9,10])))) (.region false [
 ao 42 (.bin .add (.t 10) (.c (i64 1))),
 ao 10 (.mv (.t 42))] [0,1,4,8,9,10])))
def b56l0:AC:= .loop [0,1,4,8,9,10] [] d56l0
def b56:AC:=
 .seq (.region false [
 ao 4 (.mv (.c (i64 0))),
 ao 5 (.mv (.c (.bool false)))] [0,1,4]) (.seq (.seq (.region false [
 ao 8 (.mv (.t 1)),
 ao 9 (.len (.t 8)),
 ao 10 (.mv (.c (i64 0)))] [0,1,4,8,9,10]) (.block 0 (b56l0))) (.seq (.region true (spl [
 ao 43 (.mv (.t 4)),
 ao 44 (.mv (.t 1)),
 ap 45 (.len (.t 44)) [1],
 ao 46 (.mv (.t 0)),
 ap 47 (.nilck (.t 46)) [3],
 ap 48 (.faddr 0 (.t 47)) [4,3],
 ap 49 (.faddr 2 (.t 48)) [5,4,3],
 ap 50 (.load none (.t 49)) [6,5,4,3],
 ap 51 (.bin .leq (.t 45) (.t 50)) [2,7,1,6,5,4,3],
 ap 4 (.mv (.t 43)) [0]] [
 ap 5 (.mv (.t 51)) [8,9,2,7,1,6,5,4,3,0]]) [4,5]) (.ret)))
def a56:AFn:=⟨2,[.t 4, .t 5],b56,false⟩
def n56:Ann:=⟨[[0,1,4],[0,1,4,8,9,10],[0,1,4,8,9,10,11],[0,1,4,6,7,8,9,10],[0,1,4,7,8,9,10,37],[4,5],[0,1,4,8,9,10],[0,1,4,8,9,10],[4,5]],[⟨[],[0,1,4,8,9,10],[]⟩],[],[],[],false,[]⟩
def b57:AC:=
 .seq (.region false [
 ao 4 (.box (.t 0))] [1,2,3,4]) (.seq (.region false [
 ao 5 (.alloc [.nilf])] [1,2,3,4,5]) (.seq (.region false [
 ao 6 (.mkfn 58 [] [(.t 1),(.t 4),(.t 2),(.t 3),(.t 5)]),
 ⟨none, .store 1 (.t 5) (.t 6),none,[],[]⟩] [5]) (.region false [
 ao 7 (.load none (.t 5)),
 ao 8 (.callv (.t 7) [(.c (i64 0))])] [])))
def a57:AFn:=⟨4,[],b57,false⟩
def n57:Ann:=⟨[[1,2,3,4],[1,2,3,4,5],[5],[]],[],[],[],[],false,[]⟩
@[simp] def d58l0:AC:=
 .seq (.region false [
 ao 29 (.bin .lss (.t 28) (.t 27))] [0,3,5,26,27,28,29]) (.seq (.cond (.t 29) (.skip) (.exit 0)) (.seq (.block 1 (.seq (.region false [
 ao 30 (.mv (.t 0)),
 ao 31 (.idxs 1 (.t 26) (.t 28)),
 ao 32 (.load none (.t 31)),
 ao 33 (.faddr 2 (.t 3)),
 ao 34 (.idxa 3 1 (.t 33) (.t 30)),
 ⟨none, .store 1 (.t 34) (.t 32),none,[],[]⟩] [0,3,5,26,27,28]) (.seq (.region false [
 ao 35 (.load none (.t 5)),
 ao 36 (.mv (.t 0)),
 ao 37 (.bin .add (.t 36) (.c (i64 1))),
 ao 38 (.callv (.t 35) [(.t 37)]),
 ao 39 (.un .not (.t 38))] [0,3,5,26,27,28,39]) (.cond (.t 39) (.seq (.region false [
 ao 7 (.mv (.c (.bool false)))] [7]) (.ret)) (.skip))))) (.region false [
 ao 40 (.bin .add (.t 28) (.c (i64 1))),
 ao 28 (.mv (.t 40))] [0,3,5,26,27,28])))
def b58l0:AC:= .loop [0,3,5,26,27,28] [288,416] d58l0
def b58:AC:=
 .seq (.region false [
 ao 7 (.mv (.c (.bool false)))] [0,1,2,3,4,5]) (.seq (.seq (.region false [
 ao 8 (.mv (.t 0)),
 ao 9 (.load none (.t 1)),
 ao 10 (.nilck (.t 9)),
 ao 11 (.faddr 0 (.t 10)),
 ao 12 (.faddr 4 (.t 11)),
 ao 13 (.load none (.t 12)),
 ao 14 (.len (.t 13)),
 ao 15 (.bin .eql (.t 8) (.t 14))] [0,1,2,3,4,5,15]) (.cond (.t 15) (.seq (.region false [
 ao 16 (.load none (.t 2)),
 ao 17 (.load (some 5) (.t 3)),
 ao 18 (.callv (.t 16) [(.t 17)]),
 ao 7 (.mv (.t 18))] [7]) (.ret)) (.skip))) (.seq (.seq (.region true (spl [
 ao 19 (.load none (.t 1)),
 ao 20 (.faddr 1 (.t 3)),
 ap 21 (.load none (.t 20)) [1],
 ao 22 (.mv (.t 0)),
 ao 23 (.faddr 2 (.t 4)),
 ap 24 (.idxa 3 1 (.t 23) (.t 22)) [4,3],
 ap 25 (.load none (.t 24)) [5,4,3],
 ap 26 (.call 51 [(.t 19),(.t 21),(.t 25)]) [0,2,6,1,5,4,3],
 ap 27 (.len (.t 26)) [7,0,2,6,1,5,4,3],
 ao 28 (.mv (.c (i64 0)))] [
 ]) [0,3,5,26,27,28]) (.block 0 (b58l0))) (.seq (.region false [
 ao 7 (.mv (.c (.bool true)))] [7]) (.ret))))
def a58:AFn:=⟨6,[.t 7],b58,false⟩
def n58:Ann:=⟨[[0,1,2,3,4,5],[0,1,2,3,4,5,15],[7],[0,3,5,26,27,28],[0,3,5,26,27,28,29],[0,3,5,26,27,28],[0,3,5,26,27,28,39],[7],[0,3,5,26,27,28],[7]],[⟨[],[0,3,5,26,27,28],[288,416]⟩],[],[],[],false,[]⟩
def b59:AC:=
 .seq (.region false [
 ao 2 (.box (.t 0)),
 ao 3 (.mv (.c (.bool false)))] [1,2]) (.seq (.region false [
 ao 4 (.faddr 0 (.t 2)),
 ao 5 (.load none (.t 4)),
 ao 6 (.load none (.t 1)),
 ao 7 (.call 21 [(.t 5),(.c (i64 0)),(.t 6)]),
 ao 8 (.un .not (.t 7)),
 ao 9 (.mv (.t 8)),
 ag 10 (.faddr 1 (.t 2)) 9 false [],
 ag 11 (.load none (.t 10)) 9 false [],
 ag 12 (.load none (.t 1)) 9 false [],
 ag 13 (.call 21 [(.t 11),(.c (i64 0)),(.t 12)]) 9 false [],
 ag 14 (.un .not (.t 13)) 9 false [],
 ao 15 (.pick (.t 9) (.c (.bool true)) (.t 14)),
 ao 16 (.mv (.t 15)),
 ag 17 (.faddr 0 (.t 2)) 16 false [],
 ag 18 (.load none (.t 17)) 16 false [],
 ag 19 (.faddr 1 (.t 2)) 16 false [],
 ag 20 (.load none (.t 19)) 16 false [],
 ag 21 (.bin .eql (.t 18) (.t 20)) 16 false [],
 ao 22 (.pick (.t 16) (.c (.bool true)) (.t 21)),
 ao 3 (.mv (.t 22))] [3]) (.ret))
def a59:AFn:=⟨2,[.t 3],b59,false⟩
def n59:Ann:=⟨[[1,2],[3]],[],[],[],[],false,[]⟩
def b60:AC:=
 .seq (.region false [
 ao 2 (.box (.t 0)),
 ao 3 (.mv (.c (.bool false)))] [1,2]) (.seq (.region false [
 ao 4 (.faddr 0 (.t 2)),
 ao 5 (.load none (.t 4)),
 ao 6 (.load none (.t 1)),
 ao 7 (.call 21 [(.t 5),(.c (i64 0)),(.t 6)]),
 ao 8 (.un .not (.t 7)),
 ao 9 (.mv (.t 8)),
 ag 10 (.faddr 1 (.t 2)) 9 false [],
 ag 11 (.load none (.t 10)) 9 false [],
 ag 12 (.call 21 [(.t 11),(.c (i64 0)),(.c (i64 99))]) 9 false [],
 ag 13 (.un .not (.t 12)) 9 false [],
 ao 14 (.pick (.t 9) (.c (.bool true)) (.t 13)),
 ao 3 (.mv (.t 14))] [3]) (.ret))
def a60:AFn:=⟨2,[.t 3],b60,false⟩
def n60:Ann:=⟨[[1,2],[3]],[],[],[],[],false,[]⟩
def b61:AC:=
 .seq (.region false [
 ao 4 (.mv (.c (.bool false)))] [0,1]) (.seq (.region false [
 ao 5 (.mv (.t 0)),
 ao 6 (.mv (.t 1)),
 ao 7 (.call 71 [(.t 5),(.t 6)]),
 ao 8 (.bin .geq (.t 7) (.c (i64 0))),
 ao 4 (.mv (.t 8))] [4]) (.ret))
def a61:AFn:=⟨2,[.t 4],b61,false⟩
def n61:Ann:=⟨[[0,1],[4]],[],[],[],[],false,[]⟩
def b62:AC:=
 .seq (.region false [
 ao 4 (.mv (.c (.bool false)))] [0,1]) (.seq (.region false [
 ao 5 (.mv (.t 0)),
 ao 6 (.mv (.t 1)),
 ao 7 (.call 72 [(.t 5),(.t 6)]),
 ao 8 (.bin .geq (.t 7) (.c (i64 0))),
 ao 4 (.mv (.t 8))] [4]) (.ret))
def a62:AFn:=⟨2,[.t 4],b62,false⟩
def n62:Ann:=⟨[[0,1],[4]],[],[],[],[],false,[]⟩
def b65:AC:=
 .seq (.region false [
 ao 4 (.mv (.c (i64 0)))] [0,1]) (.seq (.region false [
 ao 7 (.mv (.t 0)),
 ao 8 (.call 83 [(.t 7)]),
 ao 5 (.mv (.t 8))] [0,1,5]) (.seq (.region false [
 ao 9 (.mv (.t 1)),
 ao 10 (.call 83 [(.t 9)]),
 ao 6 (.mv (.t 10))] [0,1,5,6]) (.seq (.seq (.region false [
 ao 11 (.mv (.t 5))] [0,1,6,11]) (.cond (.t 11) (.seq (.seq (.region false [
 ao 12 (.mv (.t 6))] [12]) (.cond (.t 12) (.seq (.region false [
 ao 4 (.mv (.c (i64 0)))] [4]) (.ret)) (.skip))) (.seq (.region false [
 ao 4 (.mv (.c (i64 (-1))))] [4]) (.ret))) (.skip))) (.seq (.seq (.region false [
 ao 13 (.mv (.t 6))] [0,1,13]) (.cond (.t 13) (.seq (.region false [
 ao 4 (.mv (.c (i64 1)))] [4]) (.ret)) (.skip))) (.seq (.seq (.region false [
 ao 14 (.mv (.t 0)),
 ao 15 (.mv (.t 1)),
 ao 16 (.bin .lss (.t 14) (.t 15))] [0,1,16]) (.cond (.t 16) (.seq (.region false [
 ao 4 (.mv (.c (i64 (-1))))] [4]) (.ret)) (.skip))) (.seq (.seq (.region false [
 ao 17 (.mv (.t 0)),
 ao 18 (.mv (.t 1)),
 ao 19 (.bin .gtr (.t 17) (.t 18))] [19]) (.cond (.t 19) (.seq (.region false [
 ao 4 (.mv (.c (i64 1)))] [4]) (.ret)) (.skip))) (.seq (.region false [
 ao 4 (.mv (.c (i64 0)))] [4]) (.ret))))))))
def a65:AFn:=⟨2,[.t 4],b65,false⟩
def n65:Ann:=⟨[[0,1],[0,1,5],[0,1,5,6],[0,1,6,11],[12],[4],[4],[0,1,13],[4],[0,1,16],[4],[19],[4],[4]],[],[],[],[],false,[(13,160),(12,160),(11,128),(6,160),(5,128)]⟩
@[simp] def d66l0:AC:=
 .seq (.seq (.region false [
 ao 20 (.mv (.t 9)),
 ao 21 (.mv (.t 6)),
 ao 22 (.len (.t 21)),
 ao 23 (.bin .lss (.t 20) (.t 22))] [1,2,6,7,8,9,23]) (.cond (.t 23) (.skip) (.exit 0))) (.seq (.block 1 (.seq (.region true (spl [
 ao 26 (.load (some 5) (.t 2)),
 ao 27 (.mv (.t 6)),
 ao 28 (.mv (.t 9)),
 ap 29 (.idxs 1 (.t 27) (.t 28)) [1,2],
 ap 30 (.load none (.t 29)) [3,1,2],
 ap 31 (.call 50 [(.t 26),(.t 30)]) [0,4,3,1,2],
 ao 32 (.mv (.t 1))] [
 ap 33 (.call 45 [(.t 31),(.t 32)]) [6,5,0,4,3,1,2],
 ap 10 (.mv (.t 33)) [7,6,5,0,4,3,1,2]]) [1,2,6,7,8,9,10]) (.seq (.region false [
 ao 34 (.mv (.t 10)),
 ao 35 (.mv (.t 8)),
 ao 36 (.bin .lss (.t 34) (.t 35))] [1,2,6,7,8,9,10,36]) (.cond (.t 36) (.region false [
 ao 37 (.mv (.t 9)),
 ao 38 (.mv (.t 10)),
 ao 7 (.mv (.t 37)),
 ao 8 (.mv (.t 38))] [1,2,6,7,8,9]) (.skip))))) (.region false [
 ao 24 (.mv (.t 9)),
 ao 25 (.bin .add (.t 24) (.c (i64 1))),
 ao 9 (.mv (.t 25))] [1,2,6,7,8,9]))
def b66l0:AC:= .loop [1,2,6,7,8,9] [32,192,272,304] d66l0
def b66:AC:=
 .seq (.region false [
 ao 2 (.box (.t 0)),
 ao 4 (.mv (.c (i64 0))),
 ao 5 (.mv (.c (.sl .full 1 [])))] [1,2]) (.seq (.region false [
 ao 11 (.load (some 5) (.t 2)),
 ao 12 (.call 84 [(.t 11),(.c (.sl .full 1 []))]),
 ao 6 (.mv (.t 12))] [1,2,6]) (.seq (.region false [
 ao 7 (.mv (.c (i64 0)))] [1,2,6,7]) (.seq (.region true (spl [
 ao 13 (.load (some 5) (.t 2)),
 ao 14 (.mv (.t 6)),
 ap 15 (.idxs 1 (.t 14) (.c (i64 0))) [1],
 ap 16 (.load none (.t 15)) [2,1],
 ap 17 (.call 50 [(.t 13),(.t 16)]) [0,3,2,1],
 ao 18 (.mv (.t 1))] [
 ap 19 (.call 45 [(.t 17),(.t 18)]) [5,4,0,3,2,1],
 ap 8 (.mv (.t 19)) [6,5,4,0,3,2,1]]) [1,2,6,7,8]) (.seq (.seq (.region false [
 ao 9 (.mv (.c (i64 1)))] [1,2,6,7,8,9]) (.block 0 (b66l0))) (.seq (.region true (spl [
 ao 39 (.mv (.t 8)),
 ao 40 (.mv (.t 6)),
 ao 41 (.mv (.t 7)),
 ap 42 (.idxs 1 (.t 40) (.t 41)) [1,2],
 ap 43 (.load none (.t 42)) [3,1,2],
 ap 4 (.mv (.t 39)) [0]] [
 ap 5 (.mv (.t 43)) [4,5,3,1,2,0]]) [4,5]) (.ret))))))
def a66:AFn:=⟨2,[.t 4, .t 5],b66,false⟩
def n66:Ann:=⟨[[1,2],[1,2,6],[1,2,6,7],[1,2,6,7,8],[1,2,6,7,8,9],[1,2,6,7,8,9,23],[1,2,6,7,8,9,10],[1,2,6,7,8,9,10,36],[1,2,6,7,8,9],[1,2,6,7,8,9],[4,5]],[⟨[],[1,2,6,7,8,9],[32,192,272,304]⟩],[],[],[],false,[(4,304),(40,192),(39,304),(38,528),(35,304),(34,528),(10,528),(27,192),(21,192),(8,304),(14,192),(6,192)]⟩
@[simp] def d67l0:AC:=
 .seq (.seq (.region false [
 ao 27 (.mv (.t 9)),
 ao 28 (.mv (.t 2)),
 ao 29 (.bin .lss (.t 27) (.t 28))] [0,1,2,8,9,29]) (.cond (.t 29) (.skip) (.exit 0))) (.seq (.block 1 (.region false [
 ao 32 (.mv (.t 8)),
 ao 33 (.lit [(i64 0)] 0 []),
 ao 34 (.mv (.t 0)),
 ao 35 (.app 1 8 (.t 33) (.t 34)),
 ao 36 (.mv (.t 9)),
 ao 37 (.lit [(i64 0)] 1 [(0,(.t 36))]),
 ao 38 (.app 1 8 (.t 35) (.t 37)),
 ao 39 (.mv (.t 1)),
 ao 40 (.mv (.t 2)),
 ao 41 (.call 67 [(.t 38),(.t 39),(.t 40)]),
 ao 42 (.app 1 24 (.t 32) (.t 41)),
 ao 8 (.mv (.t 42))] [0,1,2,8,9])) (.region false [
 ao 30 (.mv (.t 9)),
 ao 31 (.bin .add (.t 30) (.c (i64 1))),
 ao 9 (.mv (.t 31))] [0,1,2,8,9]))
def b67l0:AC:= .loop [0,1,2,8,9] [129,240] d67l0
def b67:AC:=
 .seq (.region false [
 ao 6 (.mv (.c (.sl .full 1 [])))] [0,1,2]) (.seq (.seq (.region false [
 ao 10 (.mv (.t 0)),
 ao 11 (.len (.t 10)),
 ao 12 (.mv (.t 1)),
 ao 13 (.bin .eql (.t 11) (.t 12))] [0,1,2,13]) (.cond (.t 13) (.seq (.region false [
 ao 14 (.mv (.t 0)),
 ao 15 (.lit [(.sl .full 1 [])] 1 [(0,(.t 14))]),
 ao 6 (.mv (.t 15))] [6]) (.ret)) (.skip))) (.seq (.region false [
 ao 7 (.mv (.c (i64 0)))] [0,1,2,7]) (.seq (.seq (.region false [
 ao 16 (.mv (.t 0)),
 ao 17 (.len (.t 16)),
 ao 18 (.bin .gtr (.t 17) (.c (i64 0)))] [0,1,2,7,18]) (.cond (.t 18) (.region false [
 ao 19 (.mv (.t 0)),
 ao 20 (.mv (.t 0)),
 ao 21 (.len (.t 20)),
 ao 22 (.bin .sub (.t 21) (.c (i64 1))),
 ao 23 (.idxs 1 (.t 19) (.t 22)),
 ao 24 (.load none (.t 23)),
 ao 25 (.bin .add (.t 24) (.c (i64 1))),
 ao 7 (.mv (.t 25))] [0,1,2,7]) (.skip))) (.seq (.region false [
 ao 8 (.mv (.c (.sl .full 1 [])))] [0,1,2,7,8]) (.seq (.seq (.region false [
 ao 26 (.mv (.t 7)),
 ao 9 (.mv (.t 26))] [0,1,2,8,9]) (.block 0 (.seq (.thaw 8 129 1) (b67l0)))) (.seq (.region false [
 ao 43 (.mv (.t 8)),
 ao 6 (.mv (.t 43))] [6]) (.ret)))))))
def a67:AFn:=⟨3,[.t 6],b67,false⟩
def n67:Ann:=⟨[[0,1,2],[0,1,2,13],[6],[0,1,2,7],[0,1,2,7,18],[0,1,2,7],[0,1,2,7,8],[0,1,2,8,9],[0,1,2,8,9,29],[0,1,2,8,9],[0,1,2,8,9],[6]],[⟨[.t 8 129 1],[0,1,2,8,9],[129,240]⟩],[],[],[],false,[]⟩
@[simp] def d69l1:AC:=
 .seq (.seq (.region false [
 ao 29 (.mv (.t 5)),
 ao 30 (.mv (.t 4)),
 ao 31 (.len (.t 30)),
 ao 32 (.bin .lss (.t 29) (.t 31))] [0,3,4,5,32]) (.cond (.t 32) (.skip) (.exit 2))) (.seq (.block 3 (.seq (.region true (spl [
 ao 35 (.mv (.t 4)),
 ao 36 (.mv (.t 5)),
 ap 37 (.idxs 1 (.t 35) (.t 36)) [0,1],
 ap 38 (.load none (.t 37)) [2,0,1],
 ao 39 (.mv (.t 4)),
 ao 40 (.mv (.t 5)),
 ap 41 (.bin .sub (.t 40) (.c (i64 1))) [5],
 ap 42 (.idxs 1 (.t 39) (.t 41)) [4,6,5],
 ap 43 (.load none (.t 42)) [7,4,6,5]] [
 ap 44 (.bin .neq (.t 38) (.t 43)) [3,8,2,0,1,7,4,6,5]]) [0,3,4,5,44]) (.cond (.t 44) (.seq (.region false [
 ao 45 (.mv (.t 0)),
 ao 46 (.mv (.t 3)),
 ao 47 (.mv (.t 4)),
 ao 48 (.mv (.t 5)),
 ao 49 (.idxs 1 (.t 47) (.t 48)),
 ao 50 (.load none (.t 49)),
 ao 51 (.idxs 1 (.t 45) (.t 46)),
 ⟨none, .store 1 (.t 51) (.t 50),none,[],[]⟩] [0,3,4,5]) (.region false [
 ao 52 (.mv (.t 3)),
 ao 53 (.bin .add (.t 52) (.c (i64 1))),
 ao 3 (.mv (.t 53))] [0,3,4,5])) (.skip)))) (.region false [
 ao 33 (.mv (.t 5)),
 ao 34 (.bin .add (.t 33) (.c (i64 1))),
 ao 5 (.mv (.t 34))] [0,3,4,5]))
def b69l1:AC:= .loop [0,3,4,5] [] d69l1
@[simp] def d69l0:AC:=
 .seq (.seq (.region false [
 ao 10 (.mv (.t 3)),
 ao 11 (.mv (.t 0)),
 ao 12 (.len (.t 11)),
 ao 13 (.bin .lss (.t 10) (.t 12))] [0,3,13]) (.cond (.t 13) (.skip) (.exit 0))) (.seq (.block 1 (.seq (.region true (spl [
 ao 16 (.mv (.t 0)),
 ao 17 (.mv (.t 3)),
 ap 18 (.idxs 1 (.t 16) (.t 17)) [0,1],
 ap 19 (.load none (.t 18)) [2,0,1],
 ao 20 (.mv (.t 0)),
 ao 21 (.mv (.t 3)),
 ap 22 (.bin .sub (.t 21) (.c (i64 1))) [5],
 ap 23 (.idxs 1 (.t 20) (.t 22)) [4,6,5],
 ap 24 (.load none (.t 23)) [7,4,6,5]] [
 ap 25 (.bin .eql (.t 19) (.t 24)) [3,8,2,0,1,7,4,6,5]]) [0,3,25]) (.cond (.t 25) (.seq (.region false [
 ao 26 (.mv (.t 0)),
 ao 27 (.mv (.t 3)),
 ao 28 (.slice 1 (.t 26) (some (.t 27)) none none),
 ao 4 (.mv (.t 28))] [0,3,4]) (.seq (.seq (.region false [
 ao 5 (.mv (.c (i64 1)))] [0,3,4,5]) (.block 2 (b69l1))) (.seq (.region false [
 ao 54 (.mv (.t 0)),
 ao 55 (.mv (.t 3)),
 ao 56 (.slice 1 (.t 54) (some (.t 55)) none none),
 ⟨none, .clear [(i64 0)] (.t 56),none,[],[]⟩] [0,3]) (.seq (.region false [
 ao 57 (.mv (.t 0)),
 ao 58 (.mv (.t 3)),
 ao 59 (.slice 1 (.t 57) none (some (.t 58)) none),
 ao 2 (.mv (.t 59))] [2]) (.ret))))) (.skip)))) (.region false [
 ao 14 (.mv (.t 3)),
 ao 15 (.bin .add (.t 14) (.c (i64 1))),
 ao 3 (.mv (.t 15))] [0,3]))
def b69l0:AC:= .loop [0,3] [] d69l0
def b69:AC:=
 .seq (.region false [
 ao 2 (.mv (.c (.sl .full 1 [])))] [0]) (.seq (.seq (.region false [
 ao 6 (.mv (.t 0)),
 ao 7 (.len (.t 6)),
 ao 8 (.bin .lss (.t 7) (.c (i64 2)))] [0,8]) (.cond (.t 8) (.seq (.region false [
 ao 9 (.mv (.t 0)),
 ao 2 (.mv (.t 9))] [2]) (.ret)) (.skip))) (.seq (.seq (.region false [
 ao 3 (.mv (.c (i64 1)))] [0,3]) (.block 0 (b69l0))) (.seq (.region false [
 ao 60 (.mv (.t 0)),
 ao 2 (.mv (.t 60))] [2]) (.ret))))
def a69:AFn:=⟨1,[.t 2],b69,false⟩
def n69:Ann:=⟨[[0],[0,8],[2],[0,3],[0,3,13],[0,3,25],[0,3,4],[0,3,4,5],[0,3,4,5,32],[0,3,4,5,44],[0,3,4,5],[0,3,4,5],[0,3,4,5],[0,3],[2],[0,3],[2]],[⟨[],[0,3],[]⟩,⟨[],[0,3,4,5],[]⟩],[],[],[],false,[]⟩
@[simp] def d70l0:AC:=
 .seq (.seq (.region false [
 ao 6 (.mv (.t 5)),
 ao 7 (.mv (.t 0)),
 ao 8 (.len (.t 7)),
 ao 9 (.bin .lss (.t 6) (.t 8))] [0,1,5,9]) (.cond (.t 9) (.skip) (.exit 0))) (.seq (.block 1 (.seq (.region false [
 ao 12 (.mv (.t 0)),
 ao 13 (.mv (.t 5)),
 ao 14 (.idxs 1 (.t 12) (.t 13)),
 ao 15 (.load none (.t 14)),
 ao 16 (.mv (.t 1)),
 ao 17 (.bin .eql (.t 15) (.t 16))] [0,1,5,17]) (.cond (.t 17) (.seq (.region false [
 ao 4 (.mv (.c (.bool true)))] [4]) (.ret)) (.skip)))) (.region false [
 ao 10 (.mv (.t 5)),
 ao 11 (.bin .add (.t 10) (.c (i64 1))),
 ao 5 (.mv (.t 11))] [0,1,5]))
def b70l0:AC:= .loop [0,1,5] [] d70l0
def b70:AC:=
 .seq (.region false [
 ao 4 (.mv (.c (.bool false)))] [0,1]) (.seq (.seq (.region false [
 ao 5 (.mv (.c (i64 0)))] [0,1,5]) (.block 0 (b70l0))) (.seq (.region false [
 ao 4 (.mv (.c (.bool false)))] [4]) (.ret)))
def a70:AFn:=⟨2,[.t 4],b70,false⟩
def n70:Ann:=⟨[[0,1],[0,1,5],[0,1,5,9],[0,1,5,17],[4],[0,1,5],[4]],[⟨[],[0,1,5],[]⟩],[],[],[],false,[]⟩
@[simp] def d71l0:AC:=
 .seq (.region false [
 ao 9 (.bin .lss (.t 8) (.t 7))] [0,1,7,8,9]) (.seq (.cond (.t 9) (.skip) (.exit 0)) (.seq (.block 1 (.seq (.region false [
 ao 10 (.mv (.t 8)),
 ao 5 (.mv (.t 10))] [0,1,5,7,8]) (.seq (.region false [
 ao 11 (.mv (.t 1)),
 ao 12 (.mv (.t 0)),
 ao 13 (.mv (.t 5)),
 ao 14 (.idxs 3 (.t 12) (.t 13)),
 ao 15 (.load (some 3) (.t 14)),
 ao 16 (.callv (.t 11) [(.t 15)])] [0,1,5,7,8,16]) (.cond (.t 16) (.seq (.region false [
 ao 17 (.mv (.t 5)),
 ao 4 (.mv (.t 17))] [4]) (.ret)) (.skip))))) (.region false [
 ao 18 (.bin .add (.t 8) (.c (i64 1))),
 ao 8 (.mv (.t 18))] [0,1,7,8])))
def b71l0:AC:= .loop [0,1,7,8] [] d71l0
def b71:AC:=
 .seq (.region false [
 ao 4 (.mv (.c (i64 0)))] [0,1]) (.seq (.seq (.region false [
 ao 6 (.mv (.t 0)),
 ao 7 (.len (.t 6)),
 ao 8 (.mv (.c (i64 0)))] [0,1,7,8]) (.block 0 (b71l0))) (.seq (.region false [
 ao 4 (.mv (.c (i64 (-1))))] [4]) (.ret)))
def a71:AFn:=⟨2,[.t 4],b71,false⟩
def n71:Ann:=⟨[[0,1],[0,1,7,8],[0,1,7,8,9],[0,1,5,7,8],[0,1,5,7,8,16],[4],[0,1,7,8],[4]],[⟨[],[0,1,7,8],[]⟩],[],[],[],false,[]⟩
@[simp] def d72l0:AC:=
 .seq (.region false [
 ao 9 (.bin .lss (.t 8) (.t 7))] [0,1,7,8,9]) (.seq (.cond (.t 9) (.skip) (.exit 0)) (.seq (.block 1 (.seq (.region false [
 ao 10 (.mv (.t 8)),
 ao 5 (.mv (.t 10))] [0,1,5,7,8]) (.seq (.region false [
 ao 11 (.mv (.t 1)),
 ao 12 (.mv (.t 0)),
 ao 13 (.mv (.t 5)),
 ao 14 (.idxs 2 (.t 12) (.t 13)),
 ao 15 (.load (some 2) (.t 14)),
 ao 16 (.callv (.t 11) [(.t 15)])] [0,1,5,7,8,16]) (.cond (.t 16) (.seq (.region false [
 ao 17 (.mv (.t 5)),
 ao 4 (.mv (.t 17))] [4]) (.ret)) (.skip))))) (.region false [
 ao 18 (.bin .add (.t 8) (.c (i64 1))),
 ao 8 (.mv (.t 18))] [0,1,7,8])))
def b72l0:AC:= .loop [0,1,7,8] [] d72l0
def b72:AC:=
 .seq (.region false [
 ao 4 (.mv (.c (i64 0)))] [0,1]) (.seq (.seq (.region false [
 ao 6 (.mv (.t 0)),
 ao 7 (.len (.t 6)),
 ao 8 (.mv (.c (i64 0)))] [0,1,7,8]) (.block 0 (b72l0))) (.seq (.region false [
 ao 4 (.mv (.c (i64 (-1))))] [4]) (.ret)))
def a72:AFn:=⟨2,[.t 4],b72,false⟩
def n72:Ann:=⟨[[0,1],[0,1,7,8],[0,1,7,8,9],[0,1,5,7,8],[0,1,5,7,8,16],[4],[0,1,7,8],[4]],[⟨[],[0,1,7,8],[]⟩],[],[],[],false,[]⟩
def b83:AC:=
 .seq (.region false [
 ao 2 (.mv (.c (.bool false)))] [0]) (.seq (.region false [
 ao 3 (.mv (.t 0)),
 ao 4 (.mv (.t 0)),
 ao 5 (.bin .neq (.t 3) (.t 4)),
 ao 2 (.mv (.t 5))] [2]) (.ret))
def a83:AFn:=⟨1,[.t 2],b83,false⟩
def n83:Ann:=⟨[[0],[2]],[],[],[],[],false,[]⟩
@[simp] def d84l0:AC:=
 .seq (.seq (.region false [
 ao 25 (.mv (.t 7)),
 ao 26 (.mv (.t 6)),
 ao 27 (.len (.t 26)),
 ao 28 (.bin .lss (.t 25) (.t 27))] [1,2,5,6,7,28]) (.cond (.t 28) (.skip) (.exit 0))) (.seq (.block 1 (.region true (spl [
 ao 31 (.mv (.t 5)),
 ao 32 (.load (some 5) (.t 2)),
 ao 33 (.lit [(i64 0)] 0 []),
 ao 34 (.mv (.t 1)),
 ap 35 (.app 1 8 (.t 33) (.t 34)) [2,3],
 ao 36 (.mv (.t 6)),
 ao 37 (.mv (.t 7)),
 ap 38 (.idxs 1 (.t 36) (.t 37)) [5,6],
 ap 39 (.load none (.t 38)) [7,5,6],
 ap 40 (.lit [(i64 0)] 1 [(0,(.t 39))]) [8,7,5,6],
 ap 41 (.app 1 8 (.t 35) (.t 40)) [9,4,8,7,5,6,2,3],
 ap 42 (.call 84 [(.t 32),(.t 41)]) [1,10,9,4,8,7,5,6,2,3]] [
 ap 43 (.app 1 24 (.t 31) (.t 42)) [0,11,1,10,9,4,8,7,5,6,2,3],
 ap 5 (.mv (.t 43)) [12,0,11,1,10,9,4,8,7,5,6,2,3]]) [1,2,5,6,7])) (.region false [
 ao 29 (.mv (.t 7)),
 ao 30 (.bin .add (.t 29) (.c (i64 1))),
 ao 7 (.mv (.t 30))] [1,2,5,6,7]))
def b84l0:AC:= .loop [1,2,5,6,7] [32,81,240,384] d84l0
def b84:AC:=
 .seq (.region false [
 ao 2 (.box (.t 0)),
 ao 4 (.mv (.c (.sl .full 1 [])))] [1,2]) (.seq (.seq (.region false [
 ao 8 (.mv (.t 1)),
 ao 9 (.len (.t 8)),
 ao 10 (.faddr 4 (.t 2)),
 ao 11 (.load none (.t 10)),
 ao 12 (.len (.t 11)),
 ao 13 (.bin .eql (.t 9) (.t 12))] [1,2,13]) (.cond (.t 13) (.seq (.region false [
 ao 14 (.mv (.t 1)),
 ao 15 (.lit [(.sl .full 1 [])] 1 [(0,(.t 14))]),
 ao 4 (.mv (.t 15))] [4]) (.ret)) (.skip))) (.seq (.region false [
 ao 5 (.mv (.c (.sl .full 1 [])))] [1,2,5]) (.seq (.region true (spl [
 ao 16 (.load (some 5) (.t 2)),
 ao 17 (.faddr 4 (.t 2)),
 ap 18 (.load none (.t 17)) [1],
 ao 19 (.mv (.t 1)),
 ap 20 (.len (.t 19)) [3],
 ap 21 (.idxs 2 (.t 18) (.t 20)) [2,4,1,3],
 ap 22 (.faddr 0 (.t 21)) [5,2,4,1,3],
 ap 23 (.load none (.t 22)) [6,5,2,4,1,3]] [
 ap 24 (.call 49 [(.t 16),(.t 23)]) [0,7,6,5,2,4,1,3],
 ap 6 (.mv (.t 24)) [8,0,7,6,5,2,4,1,3]]) [1,2,5,6]) (.seq (.seq (.region false [
 ao 7 (.mv (.c (i64 0)))] [1,2,5,6,7]) (.block 0 (.seq (.thaw 5 81 1) (b84l0)))) (.seq (.region false [
 ao 44 (.mv (.t 5)),
 ao 4 (.mv (.t 44))] [4]) (.ret))))))
def a84:AFn:=⟨2,[.t 4],b84,false⟩
def n84:Ann:=⟨[[1,2],[1,2,13],[4],[1,2,5],[1,2,5,6],[1,2,5,6,7],[1,2,5,6,7,28],[1,2,5,6,7],[1,2,5,6,7],[4]],[⟨[.t 5 81 1],[1,2,5,6,7],[32,81,240,384]⟩],[],[],[],false,[(36,384),(26,384),(6,384)]⟩
end Go.Proofs.YtbcjofkfgpbhmaaGreat
