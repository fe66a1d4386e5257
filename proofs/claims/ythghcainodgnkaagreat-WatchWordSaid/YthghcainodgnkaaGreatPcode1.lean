/-
  MADE BY PROGRAM (mkt.py, out of what Gen.lean prints): the functions' code for the evaluator.
-/
import Derived.Test.YthghcainodgnkaaGreatAb6
set_option linter.unusedSimpArgs false
set_option linter.unusedVariables false
namespace Go.Proofs.YthghcainodgnkaaGreat
open Go.Ab
def zeroV(n:Nat):List V:=List.replicate n (i64 0)
def b10:AC:=
 .seq (.region false [
 ao 2 (.box (.t 0)),
 ao 3 (.box (.t 1)),
 ao 4 (.mv (.c (.bool false)))] [2,3]) (.seq (.region false [
 ao 12 (.load (some 7) (.t 2)),
 ao 13 (.call 28 [(.t 12)]),
 ao 5 (.alloc [(i64 0),(i64 0),(.sl .full 1 []),(.sl .full 4 []),(i64 0),(i64 0),(.sl .full 1 [])]),
 ⟨none, .store 7 (.t 5) (.t 13),none,[],[]⟩] [2,3,5]) (.seq (.region false [
 ao 14 (.faddr 0 (.t 5)),
 ao 15 (.faddr 3 (.t 14)),
 ao 16 (.load none (.t 15)),
 ao 17 (.load (some 4) (.t 3)),
 ao 18 (.lit [(i64 0),(i64 0),(i64 0),(i64 0)] 1 [(0,(.t 17))]),
 ao 19 (.app 4 32 (.t 16) (.t 18)),
 ao 20 (.faddr 0 (.t 5)),
 ao 21 (.faddr 3 (.t 20)),
 ⟨none, .store 1 (.t 21) (.t 19),none,[],[]⟩] [2,5]) (.seq (.seq (.region false [
 ao 22 (.load (some 7) (.t 2)),
 ao 23 (.call 16 [(.t 22)]),
 ao 24 (.un .not (.t 23)),
 ao 25 (.mv (.t 24)),
 ag 26 (.load (some 7) (.t 5)) 25 false [],
 ag 27 (.call 16 [(.t 26)]) 25 false [],
 ag 28 (.un .not (.t 27)) 25 false [],
 ao 29 (.pick (.t 25) (.c (.bool true)) (.t 28))] [2,5,29]) (.cond (.t 29) (.seq (.region false [
 ao 30 (.call 17 []),
 ao 4 (.mv (.t 30))] [4]) (.ret)) (.skip))) (.seq (.region true (spl [
 ao 31 (.load (some 7) (.t 2)),
 ap 32 (.call 55 [(.t 31)]) [0],
 ao 33 (.load (some 7) (.t 5))] [
 ap 34 (.call 55 [(.t 33)]) [2,1,0],
 ap 6 (.mv (.t 32)) [3,2,1,0],
 ap 7 (.mv (.t 34)) [4,3,2,1,0]]) [2,5,6,7]) (.seq (.region false [
 ao 36 (.load (some 7) (.t 2)),
 ao 37 (.call 19 [(.t 36)]),
 ao 35 (.mv (.t 37)),
 ao 38 (.ext (.t 35) 0),
 ao 39 (.ext (.t 35) 1),
 ao 8 (.mv (.t 38)),
 ao 9 (.mv (.t 39))] [2,5,6,7,8,9]) (.seq (.region false [
 ao 41 (.load (some 7) (.t 5)),
 ao 42 (.call 19 [(.t 41)]),
 ao 40 (.mv (.t 42)),
 ao 43 (.ext (.t 40) 0),
 ao 44 (.ext (.t 40) 1),
 ao 10 (.mv (.t 43)),
 ao 11 (.mv (.t 44))] [2,5,6,7,8,9,10,11]) (.seq (.seq (.region false [
 ao 45 (.mv (.t 6)),
 ao 46 (.bin .lss (.t 45) (.c (i64 0))),
 ao 47 (.mv (.t 46)),
 ag 48 (.mv (.t 7)) 47 false [],
 ag 49 (.bin .lss (.t 48) (.c (i64 0))) 47 false [],
 ao 50 (.pick (.t 47) (.c (.bool true)) (.t 49)),
 ao 51 (.mv (.t 50)),
 ag 52 (.mv (.t 7)) 51 false [],
 ag 53 (.mv (.t 6)) 51 false [],
 ag 54 (.bin .gtr (.t 52) (.t 53)) 51 false [],
 ao 55 (.pick (.t 51) (.c (.bool true)) (.t 54)),
 ao 56 (.mv (.t 55)),
 ag 57 (.mv (.t 9)) 56 false [],
 ag 58 (.un .not (.t 57)) 56 false [],
 ao 59 (.pick (.t 56) (.c (.bool true)) (.t 58)),
 ao 60 (.mv (.t 59)),
 ag 61 (.mv (.t 11)) 60 false [],
 ag 62 (.un .not (.t 61)) 60 false [],
 ao 63 (.pick (.t 60) (.c (.bool true)) (.t 62)),
 ao 64 (.mv (.t 63)),
 ag 65 (.mv (.t 10)) 64 false [],
 ag 66 (.mv (.t 8)) 64 false [],
 ag 67 (.bin .lss (.t 65) (.t 66)) 64 false [],
 ao 68 (.pick (.t 64) (.c (.bool true)) (.t 67))] [2,5,7,68]) (.cond (.t 68) (.seq (.region false [
 ao 4 (.mv (.c (.bool false)))] [4]) (.ret)) (.skip))) (.seq (.region false [
 ao 69 (.mv (.t 7)),
 ao 70 (.bin .eql (.t 69) (.c (i64 0))),
 ao 71 (.mv (.t 70)),
 ag 72 (.load (some 7) (.t 5)) 71 false [],
 ag 73 (.load (some 7) (.t 2)) 71 false [],
 ag 74 (.call 56 [(.t 72),(.t 73)]) 71 false [],
 ao 75 (.pick (.t 71) (.c (.bool true)) (.t 74)),
 ao 76 (.mv (.t 75)),
 ag 77 (.call 17 []) 76 true [],
 ao 78 (.pick (.t 76) (.t 77) (.c (.bool false))),
 ao 4 (.mv (.t 78))] [4]) (.ret)))))))))
def a10:AFn:=⟨2,[.t 4],b10,false⟩
def n10:Ann:=⟨[[2,3],[2,3,5],[2,5],[2,5,29],[4],[2,5,6,7],[2,5,6,7,8,9],[2,5,6,7,8,9,10,11],[2,5,7,68],[4],[4]],[],[],[],[],false,[(69,544),(66,592),(65,672),(61,672),(57,592),(53,512),(52,544),(48,544),(45,512),(11,672),(10,672),(44,672),(43,672),(40,672),(9,592),(8,592),(39,592),(38,592),(35,592),(7,544),(6,512),(4,480)]⟩
def b16:AC:=
 .seq (.region false [
 ao 1 (.box (.t 0)),
 ao 2 (.mv (.c (.bool false)))] [1]) (.seq (.region false [
 ao 3 (.load (some 7) (.t 1)),
 ao 4 (.call 27 [(.t 3)]),
 ao 5 (.un .not (.t 4)),
 ao 6 (.mv (.t 5)),
 ag 7 (.load (some 7) (.t 1)) 6 true [],
 ag 8 (.call 40 [(.t 7)]) 6 true [],
 ag 9 (.bin .eql (.t 8) (.c (i64 0))) 6 true [],
 ao 10 (.pick (.t 6) (.t 9) (.c (.bool false))),
 ao 2 (.mv (.t 10))] [2]) (.ret))
def a16:AFn:=⟨1,[.t 2],b16,false⟩
def n16:Ann:=⟨[[1],[2]],[],[],[],[],false,[]⟩
def b17:AC:=
 .seq (.region false [
 ao 0 (.mv (.c (.bool false)))] []) (.seq (.region false [
 ao 16 (.call 73 []),
 ao 15 (.mv (.t 16)),
 ao 17 (.ext (.t 15) 0),
 ao 18 (.ext (.t 15) 1),
 ao 1 (.alloc [(i64 0),(i64 0),(.sl .full 1 []),(.sl .full 4 []),(i64 0),(i64 0),(.sl .full 1 [])]),
 ao 2 (.alloc [(i64 0),(i64 0),(.sl .full 1 []),(.sl .full 4 []),(i64 0),(i64 0),(.sl .full 1 [])]),
 ⟨none, .store 7 (.t 1) (.t 17),none,[],[]⟩,
 ⟨none, .store 7 (.t 2) (.t 18),none,[],[]⟩] [1,2]) (.seq (.region false [
 ao 20 (.load (some 7) (.t 2)),
 ao 21 (.call 41 [(.t 20)]),
 ao 19 (.mv (.t 21)),
 ao 22 (.ext (.t 19) 0),
 ao 23 (.ext (.t 19) 1),
 ao 3 (.mv (.t 22)),
 ao 4 (.mv (.t 23))] [1,3,4]) (.seq (.region false [
 ao 25 (.load (some 7) (.t 1)),
 ao 26 (.call 20 [(.t 25)]),
 ao 24 (.mv (.t 26)),
 ao 27 (.ext (.t 24) 0),
 ao 28 (.ext (.t 24) 1),
 ao 5 (.mv (.t 27)),
 ao 6 (.mv (.t 28))] [1,3,4,5,6]) (.seq (.region false [
 ao 30 (.load (some 7) (.t 1)),
 ao 31 (.call 21 [(.t 30)]),
 ao 29 (.mv (.t 31)),
 ao 32 (.ext (.t 29) 0),
 ao 33 (.ext (.t 29) 1),
 ao 7 (.mv (.t 32)),
 ao 8 (.mv (.t 33))] [1,3,4,5,6,7,8]) (.seq (.region false [
 ao 35 (.load (some 7) (.t 1)),
 ao 36 (.call 29 [(.t 35),(.c (i64 2))]),
 ao 34 (.mv (.t 36)),
 ao 37 (.ext (.t 34) 0),
 ao 38 (.ext (.t 34) 1),
 ao 9 (.mv (.t 37)),
 ao 10 (.mv (.t 38))] [1,3,4,5,6,7,8,9,10]) (.seq (.region false [
 ao 40 (.load (some 7) (.t 1)),
 ao 41 (.call 48 [(.t 40),(.c (i64 1)),(.c (i64 0))]),
 ao 39 (.mv (.t 41)),
 ao 42 (.ext (.t 39) 0),
 ao 43 (.ext (.t 39) 1),
 ao 11 (.alloc [(i64 0),(i64 0)]),
 ⟨none, .store 2 (.t 11) (.t 42),none,[],[]⟩,
 ao 12 (.mv (.t 43))] [1,3,4,5,6,7,8,9,10,11,12]) (.seq (.region false [
 ao 45 (.load (some 7) (.t 1)),
 ao 46 (.call 22 [(.t 45)]),
 ao 44 (.mv (.t 46)),
 ao 47 (.ext (.t 44) 0),
 ao 48 (.ext (.t 44) 1),
 ao 13 (.mv (.t 47)),
 ao 14 (.mv (.t 48))] [3,4,5,6,7,8,9,10,11,12,13,14]) (.seq (.region false [
 ao 49 (.mv (.t 4)),
 ao 50 (.bin .eql (.t 49) (.c (i64 0))),
 ao 51 (.mv (.t 50)),
 ag 52 (.mv (.t 6)) 51 true [],
 ag 53 (.bin .eql (.t 52) (.c (i64 0))) 51 true [],
 ao 54 (.pick (.t 51) (.t 53) (.c (.bool false))),
 ao 55 (.mv (.t 54)),
 ag 56 (.mv (.t 8)) 55 true [],
 ag 57 (.bin .eql (.t 56) (.c (i64 0))) 55 true [],
 ao 58 (.pick (.t 55) (.t 57) (.c (.bool false))),
 ao 59 (.mv (.t 58)),
 ag 60 (.mv (.t 10)) 59 true [],
 ag 61 (.bin .eql (.t 60) (.c (i64 0))) 59 true [],
 ao 62 (.pick (.t 59) (.t 61) (.c (.bool false))),
 ao 63 (.mv (.t 62)),
 ag 64 (.mv (.t 12)) 63 true [],
 ag 65 (.bin .eql (.t 64) (.c (i64 0))) 63 true [],
 ao 66 (.pick (.t 63) (.t 65) (.c (.bool false))),
 ao 67 (.mv (.t 66)),
 ag 68 (.mv (.t 14)) 67 true [],
 ag 69 (.bin .eql (.t 68) (.c (i64 0))) 67 true [],
 ao 70 (.pick (.t 67) (.t 69) (.c (.bool false))),
 ao 71 (.mv (.t 70)),
 ag 72 (.mv (.t 3)) 71 true [],
 ag 73 (.bin .eql (.t 72) (.c (i64 3))) 71 true [],
 ao 74 (.pick (.t 71) (.t 73) (.c (.bool false))),
 ao 75 (.mv (.t 74)),
 ag 76 (.mv (.t 5)) 75 true [],
 ag 77 (.lit [(i64 0)] 2 [(0,(.c (i64 0))),(1,(.c (i64 3)))]) 75 true [],
 ag 78 (.call 34 [(.t 76),(.t 77)]) 75 true [],
 ao 79 (.pick (.t 75) (.t 78) (.c (.bool false))),
 ao 80 (.mv (.t 79)),
 ag 81 (.mv (.t 7)) 80 true [],
 ag 82 (.lit [(i64 0)] 1 [(0,(.c (i64 3)))]) 80 true [],
 ag 83 (.call 34 [(.t 81),(.t 82)]) 80 true [],
 ao 84 (.pick (.t 80) (.t 83) (.c (.bool false))),
 ao 85 (.mv (.t 84)),
 ag 86 (.mv (.t 9)) 85 true [],
 ag 87 (.bin .eql (.t 86) (.c (i64 2))) 85 true [],
 ao 88 (.pick (.t 85) (.t 87) (.c (.bool false))),
 ao 89 (.mv (.t 88)),
 ag 90 (.load (some 2) (.t 11)) 89 true [],
 ag 91 (.build [(i64 0),(i64 0)] [(0,1,(.c (i64 2))),(1,1,(.c (i64 9)))]) 89 true [],
 ag 92 (.eqa [true,true] false (.t 90) (.t 91)) 89 true [],
 ao 93 (.pick (.t 89) (.t 92) (.c (.bool false))),
 ao 94 (.mv (.t 93)),
 ag 95 (.mv (.t 13)) 94 true [],
 ag 96 (.lit [(i64 0)] 2 [(0,(.c (i64 0))),(1,(.c (i64 3)))]) 94 true [],
 ag 97 (.call 34 [(.t 95),(.t 96)]) 94 true [],
 ao 98 (.pick (.t 94) (.t 97) (.c (.bool false))),
 ao 0 (.mv (.t 98))] [0]) (.ret)))))))))
def a17:AFn:=⟨0,[.t 0],b17,false⟩
def n17:Ann:=⟨[[],[1,2],[1,3,4],[1,3,4,5,6],[1,3,4,5,6,7,8],[1,3,4,5,6,7,8,9,10],[1,3,4,5,6,7,8,9,10,11,12],[3,4,5,6,7,8,9,10,11,12,13,14],[0]],[],[],[],[],false,[(95,736),(86,576),(81,496),(76,416),(72,336),(68,736),(64,656),(60,576),(56,496),(52,416),(49,336),(14,736),(13,736),(48,736),(47,736),(44,736),(12,656),(43,656),(42,656),(39,656),(10,576),(9,576),(38,576),(37,576),(34,576),(8,496),(7,496),(33,496),(32,496),(29,496),(6,416),(5,416),(28,416),(27,416),(24,416),(4,336),(3,336),(23,336),(22,336),(19,336),(18,256),(17,256),(15,256)]⟩
def b19:AC:=
 .seq (.region false [
 ao 1 (.box (.t 0)),
 ao 2 (.mv (.c (i64 0))),
 ao 3 (.mv (.c (.bool false)))] [1]) (.seq (.region false [
 ao 7 (.load (some 7) (.t 1)),
 ao 8 (.call 31 [(.t 7)]),
 ao 6 (.mv (.t 8)),
 ao 9 (.ext (.t 6) 0),
 ao 10 (.ext (.t 6) 1),
 ao 4 (.mv (.t 9)),
 ao 5 (.mv (.t 10))] [1,4,5]) (.seq (.seq (.region false [
 ao 11 (.mv (.t 5)),
 ao 12 (.bin .eql (.t 11) (.c (i64 3)))] [1,4,5,12]) (.cond (.t 12) (.seq (.region false [
 ao 2 (.mv (.c (i64 100))),
 ao 3 (.mv (.c (.bool true)))] [2,3]) (.ret)) (.skip))) (.seq (.region true (spl [
 ao 13 (.mv (.t 4)),
 ao 14 (.mv (.t 5)),
 ap 15 (.bin .eql (.t 14) (.c (i64 0))) [1],
 ap 16 (.mv (.t 15)) [2,1],
 ag 17 (.mv (.t 4)) 16 true [3,2,1],
 ag 18 (.bin .geq (.t 17) (.c (i64 0))) 16 true [4,3,2,1],
 ap 19 (.pick (.t 16) (.t 18) (.c (.bool false))) [5,4,3,2,1],
 ap 20 (.mv (.t 19)) [6,5,4,3,2,1],
 ag 21 (.mv (.t 4)) 20 true [7,6,5,4,3,2,1],
 ag 22 (.faddr 0 (.t 1)) 20 true [7,6,5,4,3,2,1],
 ag 23 (.faddr 3 (.t 22)) 20 true [9,7,6,5,4,3,2,1],
 ag 24 (.load none (.t 23)) 20 true [10,9,7,6,5,4,3,2,1],
 ag 25 (.len (.t 24)) 20 true [11,10,9,7,6,5,4,3,2,1],
 ag 26 (.bin .leq (.t 21) (.t 25)) 20 true [8,12,11,10,9,7,6,5,4,3,2,1],
 ap 27 (.pick (.t 20) (.t 26) (.c (.bool false))) [13,8,12,11,10,9,7,6,5,4,3,2,1],
 ap 2 (.mv (.t 13)) [7,0,6,5,4,3,2,1]] [
 ap 3 (.mv (.t 27)) [14,15,13,8,12,11,10,9,7,0,6,5,4,3,2,1]]) [2,3]) (.ret))))
def a19:AFn:=⟨1,[.t 2, .t 3],b19,false⟩
def n19:Ann:=⟨[[1],[1,4,5],[1,4,5,12],[2,3],[2,3]],[],[],[],[],false,[(2,128),(21,128),(17,128),(14,128),(13,128),(11,128),(5,128),(4,128),(10,128),(9,128),(6,128)]⟩
def b20:AC:=
 .seq (.region false [
 ao 1 (.box (.t 0)),
 ao 2 (.mv (.c (.sl .full 1 []))),
 ao 3 (.mv (.c (i64 0)))] [1]) (.seq (.region false [
 ao 7 (.load (some 7) (.t 1)),
 ao 8 (.call 76 [(.t 7),(.c (.bool true))]),
 ao 6 (.mv (.t 8)),
 ao 9 (.ext (.t 6) 0),
 ao 10 (.ext (.t 6) 1),
 ao 4 (.mv (.t 9)),
 ao 5 (.mv (.t 10))] [4,5]) (.seq (.seq (.region false [
 ao 11 (.mv (.t 5)),
 ao 12 (.bin .neq (.t 11) (.c (i64 0)))] [4,5,12]) (.cond (.t 12) (.seq (.region false [
 ao 13 (.mv (.t 5)),
 ao 2 (.mv (.c (.sl .full 1 []))),
 ao 3 (.mv (.t 13))] [2,3]) (.ret)) (.skip))) (.seq (.region false [
 ao 14 (.mv (.t 4)),
 ao 15 (.nilck (.t 14)),
 ao 16 (.faddr 7 (.t 15)),
 ao 17 (.load none (.t 16)),
 ao 18 (.idxs 5 (.t 17) (.c (i64 0))),
 ao 19 (.faddr 0 (.t 18)),
 ao 20 (.load none (.t 19)),
 ao 21 (.call 77 [(.t 20)]),
 ao 2 (.mv (.t 21)),
 ao 3 (.mv (.c (i64 0)))] [2,3]) (.ret))))
def a20:AFn:=⟨1,[.t 2, .t 3],b20,false⟩
def n20:Ann:=⟨[[1],[4,5],[4,5,12],[2,3],[2,3]],[],[],[],[],false,[(2,336),(14,128),(3,128),(13,128),(11,128),(5,128),(4,128),(10,128),(9,128),(6,128)]⟩
@[simp] def d21l0:AC:=
 .seq (.region false [
 ao 23 (.bin .lss (.t 22) (.t 21))] [6,20,21,22,23]) (.seq (.cond (.t 23) (.skip) (.exit 0)) (.seq (.block 1 (.seq (.region false [
 ao 24 (.idxs 5 (.t 20) (.t 22)),
 ao 25 (.load (some 5) (.t 24)),
 ao 8 (.alloc [(.int .u64 0),(i64 0),(i64 0),(.sl .full 1 []),(.sl .full 4 [])]),
 ⟨none, .store 5 (.t 8) (.t 25),none,[],[]⟩] [6,8,20,21,22]) (.region false [
 ao 26 (.mv (.t 6)),
 ao 27 (.faddr 0 (.t 8)),
 ao 28 (.load none (.t 27)),
 ao 29 (.bin .and (.t 26) (.t 28)),
 ao 6 (.mv (.t 29))] [6,20,21,22]))) (.region false [
 ao 30 (.bin .add (.t 22) (.c (i64 1))),
 ao 22 (.mv (.t 30))] [6,20,21,22])))
def b21l0:AC:= .loop [6,20,21,22] [16,176,512] d21l0
def b21:AC:=
 .seq (.region false [
 ao 1 (.box (.t 0)),
 ao 2 (.mv (.c (.sl .full 1 []))),
 ao 3 (.mv (.c (i64 0)))] [1]) (.seq (.region false [
 ao 10 (.load (some 7) (.t 1)),
 ao 11 (.call 76 [(.t 10),(.c (.bool true))]),
 ao 9 (.mv (.t 11)),
 ao 12 (.ext (.t 9) 0),
 ao 13 (.ext (.t 9) 1),
 ao 4 (.mv (.t 12)),
 ao 5 (.mv (.t 13))] [4,5]) (.seq (.seq (.region false [
 ao 14 (.mv (.t 5)),
 ao 15 (.bin .neq (.t 14) (.c (i64 0)))] [4,5,15]) (.cond (.t 15) (.seq (.region false [
 ao 16 (.mv (.t 5)),
 ao 2 (.mv (.c (.sl .full 1 []))),
 ao 3 (.mv (.t 16))] [2,3]) (.ret)) (.skip))) (.seq (.region false [
 ao 6 (.mv (.c (.int .u64 18446744073709551615)))] [4,6]) (.seq (.seq (.region false [
 ao 17 (.mv (.t 4)),
 ao 18 (.nilck (.t 17)),
 ao 19 (.faddr 7 (.t 18)),
 ao 20 (.load none (.t 19)),
 ao 21 (.len (.t 20)),
 ao 22 (.mv (.c (i64 0)))] [6,20,21,22]) (.block 0 (b21l0))) (.seq (.region false [
 ao 31 (.mv (.t 6)),
 ao 32 (.call 77 [(.t 31)]),
 ao 2 (.mv (.t 32)),
 ao 3 (.mv (.c (i64 0)))] [2,3]) (.ret))))))
def a21:AFn:=⟨1,[.t 2, .t 3],b21,false⟩
def n21:Ann:=⟨[[1],[4,5],[4,5,15],[2,3],[4,6],[6,20,21,22],[6,20,21,22,23],[6,8,20,21,22],[6,20,21,22],[6,20,21,22],[2,3]],[⟨[],[6,20,21,22],[16,176,512]⟩],[],[],[],false,[(2,512),(17,176),(3,176),(16,176),(14,176),(5,176),(4,176),(13,176),(12,176),(9,176)]⟩
def b22:AC:=
 .seq (.region false [
 ao 1 (.box (.t 0)),
 ao 2 (.mv (.c (.sl .full 1 []))),
 ao 3 (.mv (.c (i64 0)))] [1]) (.seq (.region false [
 ao 7 (.load (some 7) (.t 1)),
 ao 8 (.call 76 [(.t 7),(.c (.bool true))]),
 ao 6 (.mv (.t 8)),
 ao 9 (.ext (.t 6) 0),
 ao 10 (.ext (.t 6) 1),
 ao 4 (.mv (.t 9)),
 ao 5 (.mv (.t 10))] [4,5]) (.seq (.seq (.region false [
 ao 11 (.mv (.t 5)),
 ao 12 (.bin .neq (.t 11) (.c (i64 0)))] [4,5,12]) (.cond (.t 12) (.seq (.region false [
 ao 13 (.mv (.t 5)),
 ao 2 (.mv (.c (.sl .full 1 []))),
 ao 3 (.mv (.t 13))] [2,3]) (.ret)) (.skip))) (.seq (.region false [
 ao 14 (.mv (.t 4)),
 ao 15 (.call 78 [(.t 14)]),
 ao 2 (.mv (.t 15)),
 ao 3 (.mv (.c (i64 0)))] [2,3]) (.ret))))
def a22:AFn:=⟨1,[.t 2, .t 3],b22,false⟩
def n22:Ann:=⟨[[1],[4,5],[4,5,12],[2,3],[2,3]],[],[],[],[],false,[(2,240),(14,128),(3,128),(13,128),(11,128),(5,128),(4,128),(10,128),(9,128),(6,128)]⟩
@[simp] def d24l0:AC:=
 .seq (.seq (.region false [
 ao 8 (.mv (.t 7)),
 ao 9 (.mv (.t 0)),
 ao 10 (.len (.t 9)),
 ao 11 (.bin .lss (.t 8) (.t 10))] [0,1,2,7,11]) (.cond (.t 11) (.skip) (.exit 0))) (.seq (.block 1 (.seq (.region true (spl [
 ao 14 (.mv (.t 0)),
 ao 15 (.mv (.t 7)),
 ap 16 (.idxs 1 (.t 14) (.t 15)) [0,1],
 ap 17 (.load none (.t 16)) [2,0,1],
 ao 18 (.mv (.t 1)),
 ao 19 (.mv (.t 2)),
 ap 20 (.call 47 [(.t 17),(.t 18),(.t 19)]) [3,4,5,2,0,1],
 ap 21 (.un .not (.t 20)) [6,3,4,5,2,0,1],
 ap 22 (.mv (.t 21)) [7,6,3,4,5,2,0,1],
 ag 23 (.mv (.t 7)) 22 false [8,7,6,3,4,5,2,0,1],
 ag 24 (.bin .gtr (.t 23) (.c (i64 0))) 22 false [9,8,7,6,3,4,5,2,0,1],
 ag 25 (.mv (.t 24)) 22 false [10,9,8,7,6,3,4,5,2,0,1],
 ag 26 (.mv (.t 0)) 25 true [11,10,9,8,7,6,3,4,5,2,0,1],
 ag 27 (.mv (.t 7)) 25 true [11,10,9,8,7,6,3,4,5,2,0,1],
 ag 28 (.idxs 1 (.t 26) (.t 27)) 25 true [12,13,11,10,9,8,7,6,3,4,5,2,0,1],
 ag 29 (.load none (.t 28)) 25 true [14,12,13,11,10,9,8,7,6,3,4,5,2,0,1],
 ag 30 (.mv (.t 0)) 25 true [11,10,9,8,7,6,3,4,5,2,0,1],
 ag 31 (.mv (.t 7)) 25 true [11,10,9,8,7,6,3,4,5,2,0,1],
 ag 32 (.bin .sub (.t 31) (.c (i64 1))) 25 true [17,11,10,9,8,7,6,3,4,5,2,0,1],
 ag 33 (.idxs 1 (.t 30) (.t 32)) 25 true [16,18,17,11,10,9,8,7,6,3,4,5,2,0,1],
 ag 34 (.load none (.t 33)) 25 true [19,16,18,17,11,10,9,8,7,6,3,4,5,2,0,1]] [
 ag 35 (.bin .leq (.t 29) (.t 34)) 25 true [15,20,14,12,13,19,16,18,17,11,10,9,8,7,6,3,4,5,2,0,1],
 ag 36 (.pick (.t 25) (.t 35) (.c (.bool false))) 22 false [21,15,20,14,12,13,19,16,18,17,11,10,9,8,7,6,3,4,5,2,0,1],
 ap 37 (.pick (.t 22) (.c (.bool true)) (.t 36)) [22,21,15,20,14,12,13,19,16,18,17,11,10,9,8,7,6,3,4,5,2,0,1]]) [0,1,2,7,37]) (.cond (.t 37) (.seq (.region false [
 ao 6 (.mv (.c (.bool false)))] [6]) (.ret)) (.skip)))) (.region false [
 ao 12 (.mv (.t 7)),
 ao 13 (.bin .add (.t 12) (.c (i64 1))),
 ao 7 (.mv (.t 13))] [0,1,2,7]))
def b24l0:AC:= .loop [0,1,2,7] [] d24l0
def b24:AC:=
 .seq (.region false [
 ao 6 (.mv (.c (.bool false)))] [0,1,2]) (.seq (.seq (.region false [
 ao 7 (.mv (.c (i64 0)))] [0,1,2,7]) (.block 0 (b24l0))) (.seq (.region false [
 ao 6 (.mv (.c (.bool true)))] [6]) (.ret)))
def a24:AFn:=⟨3,[.t 6],b24,false⟩
def n24:Ann:=⟨[[0,1,2],[0,1,2,7],[0,1,2,7,11],[0,1,2,7,37],[6],[0,1,2,7],[6]],[⟨[],[0,1,2,7],[]⟩],[],[],[],false,[]⟩
def b27:AC:=
 .seq (.region false [
 ao 1 (.box (.t 0)),
 ao 2 (.mv (.c (.bool false)))] [1]) (.seq (.region false [
 ao 3 (.load (some 7) (.t 1)),
 ao 4 (.call 36 [(.t 3)]),
 ao 5 (.mv (.t 4)),
 ag 6 (.faddr 0 (.t 1)) 5 false [],
 ag 7 (.faddr 0 (.t 6)) 5 false [],
 ag 8 (.load none (.t 7)) 5 false [],
 ag 9 (.bin .gtr (.t 8) (.c (i64 3))) 5 false [],
 ag 10 (.mv (.t 9)) 5 false [],
 ag 11 (.faddr 0 (.t 1)) 10 false [],
 ag 12 (.faddr 1 (.t 11)) 10 false [],
 ag 13 (.load none (.t 12)) 10 false [],
 ag 14 (.bin .gtr (.t 13) (.c (i64 4))) 10 false [],
 ag 15 (.pick (.t 10) (.c (.bool true)) (.t 14)) 5 false [],
 ag 16 (.mv (.t 15)) 5 false [],
 ag 17 (.load (some 7) (.t 1)) 16 true [],
 ag 18 (.call 40 [(.t 17)]) 16 true [],
 ag 19 (.bin .eql (.t 18) (.c (i64 0))) 16 true [],
 ag 20 (.pick (.t 16) (.t 19) (.c (.bool false))) 5 false [],
 ao 21 (.pick (.t 5) (.c (.bool true)) (.t 20)),
 ao 2 (.mv (.t 21))] [2]) (.ret))
def a27:AFn:=⟨1,[.t 2],b27,false⟩
def n27:Ann:=⟨[[1],[2]],[],[],[],[],false,[(5,64)]⟩
def b28:AC:=
 .seq (.region false [
 ao 1 (.box (.t 0)),
 ao 2 (.alloc [(i64 0),(i64 0),(.sl .full 1 []),(.sl .full 4 []),(i64 0),(i64 0),(.sl .full 1 [])])] [1,2]) (.seq (.region true (spl [
 ao 3 (.faddr 0 (.t 1)),
 ap 4 (.load (some 4) (.t 3)) [0],
 ap 5 (.call 81 [(.t 4)]) [1,0],
 ao 6 (.faddr 4 (.t 1)),
 ap 7 (.load none (.t 6)) [3],
 ao 8 (.faddr 5 (.t 1)),
 ap 9 (.load none (.t 8)) [5],
 ao 10 (.lit [(i64 0)] 0 []),
 ao 11 (.faddr 6 (.t 1)),
 ap 12 (.load none (.t 11)) [8],
 ap 13 (.app 1 8 (.t 10) (.t 12)) [7,9,2,8,1,0]] [
 ap 14 (.build [(i64 0),(i64 0),(.sl .full 1 []),(.sl .full 4 []),(i64 0),(i64 0),(.sl .full 1 [])] [(0,4,(.t 5)),(4,1,(.t 7)),(5,1,(.t 9)),(6,1,(.t 13))]) [4,6,10,3,5,7,9,2,8,1,0],
 ⟨none, .store 7 (.t 2) (.t 14),none,[11,4,6,10,3,5,7,9,2,8,1,0],[]⟩]) [2]) (.ret))
def a28:AFn:=⟨1,[.cell 2 (some 7)],b28,true⟩
def n28:Ann:=⟨[[1,2],[2]],[],[],[],[],true,[]⟩
@[simp] def d29l0:AC:=
 .seq (.region false [
 ao 35 (.bin .lss (.t 34) (.t 33))] [1,2,6,8,9,32,33,34,35]) (.seq (.cond (.t 35) (.skip) (.exit 0)) (.seq (.block 1 (.seq (.region false [
 ao 36 (.idxs 5 (.t 32) (.t 34)),
 ao 37 (.load (some 5) (.t 36)),
 ao 11 (.alloc [(.int .u64 0),(i64 0),(i64 0),(.sl .full 1 []),(.sl .full 4 [])]),
 ⟨none, .store 5 (.t 11) (.t 37),none,[],[]⟩] [1,2,6,8,9,11,32,33,34]) (.seq (.region true (spl [
 ao 39 (.faddr 1 (.t 11)),
 ap 40 (.load (some 4) (.t 39)) [0],
 ao 41 (.faddr 0 (.t 2)),
 ap 42 (.faddr 3 (.t 41)) [2],
 ap 43 (.load none (.t 42)) [3,2],
 ao 44 (.mv (.t 1)),
 ap 45 (.idxs 4 (.t 43) (.t 44)) [4,5,3,2],
 ap 46 (.load (some 4) (.t 45)) [6,4,5,3,2],
 ap 47 (.call 83 [(.t 40),(.t 46)]) [1,7,0,6,4,5,3,2],
 ap 38 (.mv (.t 47)) [8,1,7,0,6,4,5,3,2],
 ap 48 (.ext (.t 38) 0) [9,8,1,7,0,6,4,5,3,2],
 ap 49 (.ext (.t 38) 1) [9,8,1,7,0,6,4,5,3,2],
 ap 12 (.mv (.t 48)) [10,9,8,1,7,0,6,4,5,3,2]] [
 ap 13 (.mv (.t 49)) [11,12,10,9,8,1,7,0,6,4,5,3,2]]) [1,2,6,8,9,12,32,33,34]) (.seq (.region false [
 ao 50 (.mv (.t 12))] [1,2,6,8,9,32,33,34,50]) (.block 2 (.seq (.region false [
 ao 52 (.bin .eql (.t 50) (.c (i64 1))),
 ao 51 (.mv (.t 52))] [1,2,6,8,9,32,33,34,50,51]) (.cond (.t 51) (.region false [
 ao 53 (.mv (.t 8)),
 ao 54 (.bin .add (.t 53) (.c (i64 1))),
 ao 8 (.mv (.t 54))] [1,2,6,8,9,32,33,34]) (.seq (.region false [
 ao 56 (.bin .eql (.t 50) (.c (i64 2))),
 ao 55 (.mv (.t 56))] [1,2,6,8,9,32,33,34,55]) (.cond (.t 55) (.region false [
 ao 57 (.mv (.t 9)),
 ao 58 (.bin .add (.t 57) (.c (i64 1))),
 ao 9 (.mv (.t 58))] [1,2,6,8,9,32,33,34]) (.skip)))))))))) (.region false [
 ao 59 (.bin .add (.t 34) (.c (i64 1))),
 ao 34 (.mv (.t 59))] [1,2,6,8,9,32,33,34])))
def b29l0:AC:= .loop [1,2,6,8,9,32,33,34] [32,352,368] d29l0
def b29:AC:=
 .seq (.region false [
 ao 2 (.box (.t 0)),
 ao 4 (.mv (.c (i64 0))),
 ao 5 (.mv (.c (i64 0)))] [1,2]) (.seq (.region true (spl [
 ao 15 (.load (some 7) (.t 2)),
 ao 16 (.mv (.t 1)),
 ao 17 (.faddr 0 (.t 2)),
 ap 18 (.faddr 3 (.t 17)) [2],
 ap 19 (.load none (.t 18)) [3,2],
 ap 20 (.len (.t 19)) [4,3,2],
 ap 21 (.bin .sub (.t 20) (.c (i64 1))) [5,4,3,2],
 ap 22 (.call 82 [(.t 16),(.c (i64 0)),(.t 21)]) [1,6,5,4,3,2],
 ap 23 (.call 76 [(.t 15),(.t 22)]) [0,7,1,6,5,4,3,2],
 ap 14 (.mv (.t 23)) [8,0,7,1,6,5,4,3,2],
 ap 24 (.ext (.t 14) 0) [9,8,0,7,1,6,5,4,3,2],
 ap 25 (.ext (.t 14) 1) [9,8,0,7,1,6,5,4,3,2],
 ap 6 (.mv (.t 24)) [10,9,8,0,7,1,6,5,4,3,2]] [
 ap 7 (.mv (.t 25)) [11,12,10,9,8,0,7,1,6,5,4,3,2]]) [1,2,6,7]) (.seq (.seq (.region false [
 ao 26 (.mv (.t 7)),
 ao 27 (.bin .neq (.t 26) (.c (i64 0)))] [1,2,6,7,27]) (.cond (.t 27) (.seq (.region false [
 ao 28 (.mv (.t 7)),
 ao 4 (.mv (.c (i64 0))),
 ao 5 (.mv (.t 28))] [4,5]) (.ret)) (.skip))) (.seq (.region false [
 ao 8 (.mv (.c (i64 0))),
 ao 9 (.mv (.c (i64 0)))] [1,2,6,8,9]) (.seq (.seq (.region false [
 ao 29 (.mv (.t 6)),
 ao 30 (.nilck (.t 29)),
 ao 31 (.faddr 7 (.t 30)),
 ao 32 (.load none (.t 31)),
 ao 33 (.len (.t 32)),
 ao 34 (.mv (.c (i64 0)))] [1,2,6,8,9,32,33,34]) (.block 0 (b29l0))) (.seq (.seq (.region false [
 ao 60 (.mv (.t 6)),
 ao 61 (.nilck (.t 60)),
 ao 62 (.faddr 7 (.t 61)),
 ao 63 (.load none (.t 62)),
 ao 64 (.len (.t 63))] [8,9,64]) (.block 3 (.seq (.region false [
 ao 66 (.mv (.t 9)),
 ao 67 (.bin .eql (.t 64) (.t 66)),
 ao 65 (.mv (.t 67))] [8,64,65]) (.cond (.t 65) (.seq (.region false [
 ao 4 (.mv (.c (i64 1))),
 ao 5 (.mv (.c (i64 0)))] [4,5]) (.ret)) (.seq (.region false [
 ao 69 (.mv (.t 8)),
 ao 70 (.bin .eql (.t 64) (.t 69)),
 ao 68 (.mv (.t 70))] [68]) (.cond (.t 68) (.seq (.region false [
 ao 4 (.mv (.c (i64 2))),
 ao 5 (.mv (.c (i64 0)))] [4,5]) (.ret)) (.skip))))))) (.seq (.region false [
 ao 4 (.mv (.c (i64 3))),
 ao 5 (.mv (.c (i64 0)))] [4,5]) (.ret)))))))
def a29:AFn:=⟨2,[.t 4, .t 5],b29,false⟩
def n29:Ann:=⟨[[1,2],[1,2,6,7],[1,2,6,7,27],[4,5],[1,2,6,8,9],[1,2,6,8,9,32,33,34],[1,2,6,8,9,32,33,34,35],[1,2,6,8,9,11,32,33,34],[1,2,6,8,9,12,32,33,34],[1,2,6,8,9,32,33,34,50],[1,2,6,8,9,32,33,34,50,51],[1,2,6,8,9,32,33,34],[1,2,6,8,9,32,33,34,55],[1,2,6,8,9,32,33,34],[1,2,6,8,9,32,33,34],[8,9,64],[8,64,65],[4,5],[68],[4,5],[4,5]],[⟨[],[1,2,6,8,9,32,33,34],[32,352,368]⟩],[],[],[],false,[(60,368),(50,752),(13,752),(12,752),(49,752),(48,752),(38,752),(29,368),(5,368),(28,368),(26,368),(7,368),(6,368),(25,368),(24,368),(14,368)]⟩
def b31:AC:=
 .seq (.region false [
 ao 1 (.box (.t 0)),
 ao 2 (.mv (.c (i64 0))),
 ao 3 (.mv (.c (i64 0)))] [1]) (.seq (.region false [
 ao 7 (.load (some 7) (.t 1)),
 ao 8 (.call 22 [(.t 7)]),
 ao 6 (.mv (.t 8)),
 ao 9 (.ext (.t 6) 0),
 ao 10 (.ext (.t 6) 1),
 ao 4 (.mv (.t 9)),
 ao 5 (.mv (.t 10))] [4,5]) (.seq (.region false [
 ao 11 (.mv (.t 4)),
 ao 12 (.len (.t 11)),
 ao 13 (.mv (.t 5)),
 ao 2 (.mv (.t 12)),
 ao 3 (.mv (.t 13))] [2,3]) (.ret)))
def a31:AFn:=⟨1,[.t 2, .t 3],b31,false⟩
def n31:Ann:=⟨[[1],[4,5],[2,3]],[],[],[],[],false,[(3,128),(13,128),(11,128),(5,128),(4,128),(10,128),(9,128),(6,128)]⟩
@[simp] def d34l0:AC:=
 .seq (.seq (.region false [
 ao 11 (.mv (.t 5)),
 ao 12 (.mv (.t 0)),
 ao 13 (.len (.t 12)),
 ao 14 (.bin .lss (.t 11) (.t 13))] [0,1,5,14]) (.cond (.t 14) (.skip) (.exit 0))) (.seq (.block 1 (.seq (.region true (spl [
 ao 17 (.mv (.t 0)),
 ao 18 (.mv (.t 5)),
 ap 19 (.idxs 1 (.t 17) (.t 18)) [0,1],
 ap 20 (.load none (.t 19)) [2,0,1],
 ao 21 (.mv (.t 1)),
 ao 22 (.mv (.t 5)),
 ap 23 (.idxs 1 (.t 21) (.t 22)) [4,5],
 ap 24 (.load none (.t 23)) [6,4,5]] [
 ap 25 (.bin .neq (.t 20) (.t 24)) [3,7,2,0,1,6,4,5]]) [0,1,5,25]) (.cond (.t 25) (.seq (.region false [
 ao 4 (.mv (.c (.bool false)))] [4]) (.ret)) (.skip)))) (.region false [
 ao 15 (.mv (.t 5)),
 ao 16 (.bin .add (.t 15) (.c (i64 1))),
 ao 5 (.mv (.t 16))] [0,1,5]))
def b34l0:AC:= .loop [0,1,5] [] d34l0
def b34:AC:=
 .seq (.region false [
 ao 4 (.mv (.c (.bool false)))] [0,1]) (.seq (.seq (.region false [
 ao 6 (.mv (.t 0)),
 ao 7 (.len (.t 6)),
 ao 8 (.mv (.t 1)),
 ao 9 (.len (.t 8)),
 ao 10 (.bin .neq (.t 7) (.t 9))] [0,1,10]) (.cond (.t 10) (.seq (.region false [
 ao 4 (.mv (.c (.bool false)))] [4]) (.ret)) (.skip))) (.seq (.seq (.region false [
 ao 5 (.mv (.c (i64 0)))] [0,1,5]) (.block 0 (b34l0))) (.seq (.region false [
 ao 4 (.mv (.c (.bool true)))] [4]) (.ret))))
def a34:AFn:=⟨2,[.t 4],b34,false⟩
def n34:Ann:=⟨[[0,1],[0,1,10],[4],[0,1,5],[0,1,5,14],[0,1,5,25],[4],[0,1,5],[4]],[⟨[],[0,1,5],[]⟩],[],[],[],false,[]⟩
def b36:AC:=
 .seq (.region false [
 ao 1 (.box (.t 0)),
 ao 2 (.mv (.c (.bool false)))] [1]) (.seq (.region false [
 ao 3 (.faddr 0 (.t 1)),
 ao 4 (.load (some 4) (.t 3)),
 ao 5 (.call 88 [(.t 4)]),
 ao 6 (.mv (.t 5)),
 ag 7 (.faddr 6 (.t 1)) 6 false [],
 ag 8 (.load none (.t 7)) 6 false [],
 ag 9 (.len (.t 8)) 6 false [],
 ag 10 (.bin .gtr (.t 9) (.c (i64 40))) 6 false [],
 ao 11 (.pick (.t 6) (.c (.bool true)) (.t 10)),
 ao 2 (.mv (.t 11))] [2]) (.ret))
def a36:AFn:=⟨1,[.t 2],b36,false⟩
def n36:Ann:=⟨[[1],[2]],[],[],[],[],false,[(6,80)]⟩
def b39:AC:=
 .seq (.region false [
 ao 1 (.box (.t 0)),
 ao 2 (.mv (.c (i64 0)))] [1]) (.seq (.seq (.region false [
 ao 3 (.faddr 0 (.t 1)),
 ao 4 (.load (some 4) (.t 3)),
 ao 5 (.call 94 [(.t 4)]),
 ao 6 (.bin .neq (.t 5) (.c (i64 0))),
 ao 7 (.mv (.t 6)),
 ag 8 (.faddr 4 (.t 1)) 7 false [],
 ag 9 (.load none (.t 8)) 7 false [],
 ag 10 (.call 82 [(.t 9),(.c (i64 0)),(.c (i64 5))]) 7 false [],
 ag 11 (.un .not (.t 10)) 7 false [],
 ao 12 (.pick (.t 7) (.c (.bool true)) (.t 11)),
 ao 13 (.mv (.t 12)),
 ag 14 (.faddr 5 (.t 1)) 13 false [],
 ag 15 (.load none (.t 14)) 13 false [],
 ag 16 (.call 82 [(.t 15),(.c (i64 0)),(.c (i64 5))]) 13 false [],
 ag 17 (.un .not (.t 16)) 13 false [],
 ao 18 (.pick (.t 13) (.c (.bool true)) (.t 17)),
 ao 19 (.mv (.t 18)),
 ag 20 (.faddr 0 (.t 1)) 19 false [],
 ag 21 (.load (some 4) (.t 20)) 19 false [],
 ag 22 (.faddr 6 (.t 1)) 19 false [],
 ag 23 (.load none (.t 22)) 19 false [],
 ag 24 (.call 90 [(.t 21),(.t 23)]) 19 false [],
 ag 25 (.un .not (.t 24)) 19 false [],
 ao 26 (.pick (.t 19) (.c (.bool true)) (.t 25))] [26]) (.cond (.t 26) (.seq (.region false [
 ao 2 (.mv (.c (i64 110)))] [2]) (.ret)) (.skip))) (.seq (.region false [
 ao 2 (.mv (.c (i64 0)))] [2]) (.ret)))
def a39:AFn:=⟨1,[.t 2],b39,false⟩
def n39:Ann:=⟨[[1],[26],[2],[2]],[],[],[],[],false,[]⟩
def b40:AC:=
 .seq (.region false [
 ao 1 (.box (.t 0)),
 ao 2 (.mv (.c (i64 0)))] [1]) (.seq (.seq (.region false [
 ao 3 (.faddr 0 (.t 1)),
 ao 4 (.load (some 4) (.t 3)),
 ao 5 (.call 95 [(.t 4)]),
 ao 6 (.bin .neq (.t 5) (.c (i64 0))),
 ao 7 (.mv (.t 6)),
 ag 8 (.faddr 4 (.t 1)) 7 false [],
 ag 9 (.load none (.t 8)) 7 false [],
 ag 10 (.call 96 [(.t 9),(.c (i64 0)),(.c (i64 5))]) 7 false [],
 ag 11 (.un .not (.t 10)) 7 false [],
 ao 12 (.pick (.t 7) (.c (.bool true)) (.t 11)),
 ao 13 (.mv (.t 12)),
 ag 14 (.faddr 5 (.t 1)) 13 false [],
 ag 15 (.load none (.t 14)) 13 false [],
 ag 16 (.call 96 [(.t 15),(.c (i64 0)),(.c (i64 5))]) 13 false [],
 ag 17 (.un .not (.t 16)) 13 false [],
 ao 18 (.pick (.t 13) (.c (.bool true)) (.t 17)),
 ao 19 (.mv (.t 18)),
 ag 20 (.faddr 6 (.t 1)) 19 false [],
 ag 21 (.load none (.t 20)) 19 false [],
 ag 22 (.faddr 0 (.t 1)) 19 false [],
 ag 23 (.faddr 1 (.t 22)) 19 false [],
 ag 24 (.load none (.t 23)) 19 false [],
 ag 25 (.bin .sub (.t 24) (.c (i64 1))) 19 false [],
 ag 26 (.call 24 [(.t 21),(.c (i64 0)),(.t 25)]) 19 false [],
 ag 27 (.un .not (.t 26)) 19 false [],
 ao 28 (.pick (.t 19) (.c (.bool true)) (.t 27))] [28]) (.cond (.t 28) (.seq (.region false [
 ao 2 (.mv (.c (i64 110)))] [2]) (.ret)) (.skip))) (.seq (.region false [
 ao 2 (.mv (.c (i64 0)))] [2]) (.ret)))
def a40:AFn:=⟨1,[.t 2],b40,false⟩
def n40:Ann:=⟨[[1],[28],[2],[2]],[],[],[],[],false,[]⟩
def b41:AC:=
 .seq (.region false [
 ao 1 (.box (.t 0)),
 ao 2 (.mv (.c (i64 0))),
 ao 3 (.mv (.c (i64 0)))] [1]) (.seq (.region false [
 ao 7 (.load (some 7) (.t 1)),
 ao 8 (.call 89 [(.t 7),(.c (.bool true))]),
 ao 6 (.mv (.t 8)),
 ao 9 (.ext (.t 6) 0),
 ao 10 (.ext (.t 6) 1),
 ao 4 (.mv (.t 9)),
 ao 5 (.mv (.t 10))] [4,5]) (.seq (.seq (.region false [
 ao 11 (.mv (.t 5)),
 ao 12 (.bin .neq (.t 11) (.c (i64 0)))] [4,5,12]) (.cond (.t 12) (.seq (.region false [
 ao 13 (.mv (.t 5)),
 ao 2 (.mv (.c (i64 0))),
 ao 3 (.mv (.t 13))] [2,3]) (.ret)) (.skip))) (.seq (.region false [
 ao 14 (.mv (.t 4)),
 ao 15 (.nilck (.t 14)),
 ao 16 (.faddr 7 (.t 15)),
 ao 17 (.load none (.t 16)),
 ao 18 (.len (.t 17)),
 ao 2 (.mv (.t 18)),
 ao 3 (.mv (.c (i64 0)))] [2,3]) (.ret))))
def a41:AFn:=⟨1,[.t 2, .t 3],b41,false⟩
def n41:Ann:=⟨[[1],[4,5],[4,5,12],[2,3],[2,3]],[],[],[],[],false,[(14,128),(3,128),(13,128),(11,128),(5,128),(4,128),(10,128),(9,128),(6,128)]⟩
def b47:AC:=
 .seq (.region false [
 ao 6 (.mv (.c (.bool false)))] [0,1,2]) (.seq (.region false [
 ao 7 (.mv (.t 1)),
 ao 8 (.mv (.t 0)),
 ao 9 (.bin .leq (.t 7) (.t 8)),
 ao 10 (.mv (.t 9)),
 ag 11 (.mv (.t 0)) 10 true [],
 ag 12 (.mv (.t 2)) 10 true [],
 ag 13 (.bin .leq (.t 11) (.t 12)) 10 true [],
 ao 14 (.pick (.t 10) (.t 13) (.c (.bool false))),
 ao 6 (.mv (.t 14))] [6]) (.ret))
def a47:AFn:=⟨3,[.t 6],b47,false⟩
def n47:Ann:=⟨[[0,1,2],[6]],[],[],[],[],false,[]⟩
def b48:AC:=
 .seq (.region false [
 ao 3 (.box (.t 0)),
 ao 4 (.box (.t 1)),
 ao 5 (.box (.t 2)),
 ao 6 (.alloc [(i64 0),(i64 0)]),
 ao 7 (.mv (.c (i64 0)))] [3,4,5,6]) (.seq (.region true (spl [
 ao 11 (.load (some 7) (.t 3)),
 ao 12 (.load (some 7) (.t 3)),
 ao 13 (.load none (.t 4)),
 ap 14 (.call 99 [(.t 12),(.t 13)]) [1,2],
 ap 15 (.mv (.t 14)) [3,1,2],
 ag 16 (.load none (.t 5)) 15 true [4,3,1,2],
 ag 17 (.faddr 0 (.t 3)) 15 true [4,3,1,2],
 ag 18 (.faddr 0 (.t 17)) 15 true [6,4,3,1,2],
 ag 19 (.load none (.t 18)) 15 true [7,6,4,3,1,2],
 ag 20 (.bin .sub (.t 19) (.c (i64 1))) 15 true [8,7,6,4,3,1,2],
 ag 21 (.call 82 [(.t 16),(.c (i64 0)),(.t 20)]) 15 true [5,9,8,7,6,4,3,1,2],
 ap 22 (.pick (.t 15) (.t 21) (.c (.bool false))) [10,5,9,8,7,6,4,3,1,2],
 ap 23 (.call 76 [(.t 11),(.t 22)]) [0,11,10,5,9,8,7,6,4,3,1,2],
 ap 10 (.mv (.t 23)) [12,0,11,10,5,9,8,7,6,4,3,1,2],
 ap 24 (.ext (.t 10) 0) [13,12,0,11,10,5,9,8,7,6,4,3,1,2],
 ap 25 (.ext (.t 10) 1) [13,12,0,11,10,5,9,8,7,6,4,3,1,2],
 ap 8 (.mv (.t 24)) [14,13,12,0,11,10,5,9,8,7,6,4,3,1,2]] [
 ap 9 (.mv (.t 25)) [15,16,14,13,12,0,11,10,5,9,8,7,6,4,3,1,2]]) [4,5,6,8,9]) (.seq (.seq (.region false [
 ao 26 (.mv (.t 9)),
 ao 27 (.bin .neq (.t 26) (.c (i64 0)))] [4,5,6,8,9,27]) (.cond (.t 27) (.seq (.region false [
 ao 28 (.build [(i64 0),(i64 0)] []),
 ao 29 (.mv (.t 9)),
 ⟨none, .store 2 (.t 6) (.t 28),none,[],[]⟩,
 ao 7 (.mv (.t 29))] [6,7]) (.ret)) (.skip))) (.seq (.region false [
 ao 30 (.mv (.t 8)),
 ao 31 (.mkfn 101 [] [(.t 4),(.t 5)]),
 ao 32 (.call 100 [(.t 30),(.t 31)]),
 ⟨none, .store 2 (.t 6) (.t 32),none,[],[]⟩,
 ao 7 (.mv (.c (i64 0)))] [6,7]) (.ret))))
def a48:AFn:=⟨3,[.cell 6 (some 2), .t 7],b48,false⟩
def n48:Ann:=⟨[[3,4,5,6],[4,5,6,8,9],[4,5,6,8,9,27],[6,7],[6,7]],[],[],[],[],false,[(30,368),(7,368),(29,368),(26,368),(9,368),(8,368),(25,368),(24,368),(10,368),(15,224)]⟩
def b53:AC:=
 .seq (.region false [
 ao 3 (.box (.t 0)),
 ao 4 (.box (.t 1)),
 ao 5 (.box (.t 2)),
 ao 6 (.alloc [(i64 0),(i64 0)]),
 ao 7 (.mv (.c (i64 0)))] [3,4,5,6]) (.seq (.region true (spl [
 ao 11 (.load (some 7) (.t 3)),
 ao 12 (.load (some 7) (.t 3)),
 ao 13 (.load none (.t 4)),
 ap 14 (.call 99 [(.t 12),(.t 13)]) [1,2],
 ap 15 (.mv (.t 14)) [3,1,2],
 ag 16 (.load (some 7) (.t 3)) 15 true [4,3,1,2],
 ag 17 (.load none (.t 5)) 15 true [4,3,1,2],
 ag 18 (.call 99 [(.t 16),(.t 17)]) 15 true [5,6,4,3,1,2],
 ap 19 (.pick (.t 15) (.t 18) (.c (.bool false))) [7,5,6,4,3,1,2],
 ap 20 (.mv (.t 19)) [8,7,5,6,4,3,1,2],
 ag 21 (.load none (.t 4)) 20 true [9,8,7,5,6,4,3,1,2],
 ag 22 (.load none (.t 5)) 20 true [9,8,7,5,6,4,3,1,2],
 ag 23 (.bin .leq (.t 21) (.t 22)) 20 true [10,11,9,8,7,5,6,4,3,1,2],
 ap 24 (.pick (.t 20) (.t 23) (.c (.bool false))) [12,10,11,9,8,7,5,6,4,3,1,2],
 ap 25 (.call 76 [(.t 11),(.t 24)]) [0,13,12,10,11,9,8,7,5,6,4,3,1,2],
 ap 10 (.mv (.t 25)) [14,0,13,12,10,11,9,8,7,5,6,4,3,1,2],
 ap 26 (.ext (.t 10) 0) [15,14,0,13,12,10,11,9,8,7,5,6,4,3,1,2],
 ap 27 (.ext (.t 10) 1) [15,14,0,13,12,10,11,9,8,7,5,6,4,3,1,2],
 ap 8 (.mv (.t 26)) [16,15,14,0,13,12,10,11,9,8,7,5,6,4,3,1,2]] [
 ap 9 (.mv (.t 27)) [17,18,16,15,14,0,13,12,10,11,9,8,7,5,6,4,3,1,2]]) [4,5,6,8,9]) (.seq (.seq (.region false [
 ao 28 (.mv (.t 9)),
 ao 29 (.bin .neq (.t 28) (.c (i64 0)))] [4,5,6,8,9,29]) (.cond (.t 29) (.seq (.region false [
 ao 30 (.build [(i64 0),(i64 0)] []),
 ao 31 (.mv (.t 9)),
 ⟨none, .store 2 (.t 6) (.t 30),none,[],[]⟩,
 ao 7 (.mv (.t 31))] [6,7]) (.ret)) (.skip))) (.seq (.region false [
 ao 32 (.mv (.t 8)),
 ao 33 (.mkfn 106 [] [(.t 4),(.t 5)]),
 ao 34 (.call 100 [(.t 32),(.t 33)]),
 ⟨none, .store 2 (.t 6) (.t 34),none,[],[]⟩,
 ao 7 (.mv (.c (i64 0)))] [6,7]) (.ret))))
def a53:AFn:=⟨3,[.cell 6 (some 2), .t 7],b53,false⟩
def n53:Ann:=⟨[[3,4,5,6],[4,5,6,8,9],[4,5,6,8,9,29],[6,7],[6,7]],[],[],[],[],false,[(32,400),(7,400),(31,400),(28,400),(9,400),(8,400),(27,400),(26,400),(10,400),(15,224)]⟩
def b55:AC:=
 .seq (.region false [
 ao 1 (.box (.t 0)),
 ao 2 (.mv (.c (i64 0)))] [1]) (.seq (.region false [
 ao 6 (.load (some 7) (.t 1)),
 ao 7 (.call 41 [(.t 6)]),
 ao 5 (.mv (.t 7)),
 ao 8 (.ext (.t 5) 0),
 ao 9 (.ext (.t 5) 1),
 ao 3 (.mv (.t 8)),
 ao 4 (.mv (.t 9))] [3,4]) (.seq (.seq (.region false [
 ao 10 (.mv (.t 4)),
 ao 11 (.bin .neq (.t 10) (.c (i64 0))),
 ao 12 (.mv (.t 11)),
 ag 13 (.mv (.t 3)) 12 false [],
 ag 14 (.bin .lss (.t 13) (.c (i64 0))) 12 false [],
 ao 15 (.pick (.t 12) (.c (.bool true)) (.t 14)),
 ao 16 (.mv (.t 15)),
 ag 17 (.mv (.t 3)) 16 false [],
 ag 18 (.bin .gtr (.t 17) (.c (i64 32))) 16 false [],
 ao 19 (.pick (.t 16) (.c (.bool true)) (.t 18))] [3,19]) (.cond (.t 19) (.seq (.region false [
 ao 2 (.mv (.c (i64 (-1))))] [2]) (.ret)) (.skip))) (.seq (.region false [
 ao 20 (.mv (.t 3)),
 ao 2 (.mv (.t 20))] [2]) (.ret))))
def a55:AFn:=⟨1,[.t 2],b55,false⟩
def n55:Ann:=⟨[[1],[3,4],[3,19],[2],[2]],[],[],[],[],false,[(2,112),(20,112),(17,112),(13,112),(10,112),(4,112),(3,112),(9,112),(8,112),(5,112)]⟩
@[simp] def d56l1:AC:=
 .seq (.seq (.region false [
 ao 22 (.mv (.t 6)),
 ao 23 (.faddr 0 (.t 2)),
 ao 24 (.faddr 0 (.t 23)),
 ao 25 (.load none (.t 24)),
 ao 26 (.bin .lss (.t 22) (.t 25))] [2,3,5,6,26]) (.cond (.t 26) (.skip) (.exit 2))) (.seq (.block 3 (.seq (.region false [
 ao 30 (.load (some 7) (.t 2)),
 ao 31 (.mv (.t 5)),
 ao 32 (.mv (.t 6)),
 ao 33 (.call 48 [(.t 30),(.t 31),(.t 32)]),
 ao 29 (.mv (.t 33)),
 ao 34 (.ext (.t 29) 0),
 ao 35 (.ext (.t 29) 1),
 ao 7 (.alloc [(i64 0),(i64 0)]),
 ⟨none, .store 2 (.t 7) (.t 34),none,[],[]⟩,
 ao 8 (.mv (.t 35))] [2,3,5,6,7,8]) (.seq (.region false [
 ao 37 (.load (some 7) (.t 3)),
 ao 38 (.mv (.t 5)),
 ao 39 (.mv (.t 6)),
 ao 40 (.call 48 [(.t 37),(.t 38),(.t 39)]),
 ao 36 (.mv (.t 40)),
 ao 41 (.ext (.t 36) 0),
 ao 42 (.ext (.t 36) 1),
 ao 9 (.alloc [(i64 0),(i64 0)]),
 ⟨none, .store 2 (.t 9) (.t 41),none,[],[]⟩,
 ao 10 (.mv (.t 42))] [2,3,5,6,7,8,9,10]) (.seq (.region false [
 ao 43 (.mv (.t 8)),
 ao 44 (.bin .neq (.t 43) (.c (i64 0))),
 ao 45 (.mv (.t 44)),
 ag 46 (.mv (.t 10)) 45 false [],
 ag 47 (.bin .neq (.t 46) (.c (i64 0))) 45 false [],
 ao 48 (.pick (.t 45) (.c (.bool true)) (.t 47)),
 ao 49 (.mv (.t 48)),
 ag 50 (.load (some 2) (.t 7)) 49 false [],
 ag 51 (.load (some 2) (.t 9)) 49 false [],
 ag 52 (.call 109 [(.t 50),(.t 51)]) 49 false [],
 ag 53 (.un .not (.t 52)) 49 false [],
 ao 54 (.pick (.t 49) (.c (.bool true)) (.t 53))] [2,3,5,6,54]) (.cond (.t 54) (.seq (.region false [
 ao 4 (.mv (.c (.bool false)))] [4]) (.ret)) (.skip)))))) (.region false [
 ao 27 (.mv (.t 6)),
 ao 28 (.bin .add (.t 27) (.c (i64 1))),
 ao 6 (.mv (.t 28))] [2,3,5,6]))
def b56l1:AC:= .loop [2,3,5,6] [32,48] d56l1
@[simp] def d56l0:AC:=
 .seq (.seq (.region false [
 ao 15 (.mv (.t 5)),
 ao 16 (.faddr 0 (.t 2)),
 ao 17 (.faddr 1 (.t 16)),
 ao 18 (.load none (.t 17)),
 ao 19 (.bin .lss (.t 15) (.t 18))] [2,3,5,19]) (.cond (.t 19) (.skip) (.exit 0))) (.seq (.block 1 (.seq (.seq (.region false [
 ao 6 (.mv (.c (i64 0)))] [2,3,5,6]) (.block 2 (b56l1))) (.seq (.region false [
 ao 56 (.load (some 7) (.t 2)),
 ao 57 (.mv (.t 5)),
 ao 58 (.call 53 [(.t 56),(.c (i64 0)),(.t 57)]),
 ao 55 (.mv (.t 58)),
 ao 59 (.ext (.t 55) 0),
 ao 60 (.ext (.t 55) 1),
 ao 11 (.alloc [(i64 0),(i64 0)]),
 ⟨none, .store 2 (.t 11) (.t 59),none,[],[]⟩,
 ao 12 (.mv (.t 60))] [2,3,5,11,12]) (.seq (.region false [
 ao 62 (.load (some 7) (.t 3)),
 ao 63 (.mv (.t 5)),
 ao 64 (.call 53 [(.t 62),(.c (i64 0)),(.t 63)]),
 ao 61 (.mv (.t 64)),
 ao 65 (.ext (.t 61) 0),
 ao 66 (.ext (.t 61) 1),
 ao 13 (.alloc [(i64 0),(i64 0)]),
 ⟨none, .store 2 (.t 13) (.t 65),none,[],[]⟩,
 ao 14 (.mv (.t 66))] [2,3,5,11,12,13,14]) (.seq (.region false [
 ao 67 (.mv (.t 12)),
 ao 68 (.bin .neq (.t 67) (.c (i64 0))),
 ao 69 (.mv (.t 68)),
 ag 70 (.mv (.t 14)) 69 false [],
 ag 71 (.bin .neq (.t 70) (.c (i64 0))) 69 false [],
 ao 72 (.pick (.t 69) (.c (.bool true)) (.t 71)),
 ao 73 (.mv (.t 72)),
 ag 74 (.load (some 2) (.t 11)) 73 false [],
 ag 75 (.load (some 2) (.t 13)) 73 false [],
 ag 76 (.call 109 [(.t 74),(.t 75)]) 73 false [],
 ag 77 (.un .not (.t 76)) 73 false [],
 ao 78 (.pick (.t 73) (.c (.bool true)) (.t 77))] [2,3,5,78]) (.cond (.t 78) (.seq (.region false [
 ao 4 (.mv (.c (.bool false)))] [4]) (.ret)) (.skip))))))) (.region false [
 ao 20 (.mv (.t 5)),
 ao 21 (.bin .add (.t 20) (.c (i64 1))),
 ao 5 (.mv (.t 21))] [2,3,5]))
def b56l0:AC:= .loop [2,3,5] [32,48] d56l0
def b56:AC:=
 .seq (.region false [
 ao 2 (.box (.t 0)),
 ao 3 (.box (.t 1)),
 ao 4 (.mv (.c (.bool false)))] [2,3]) (.seq (.seq (.region false [
 ao 5 (.mv (.c (i64 0)))] [2,3,5]) (.block 0 (b56l0))) (.seq (.region false [
 ao 4 (.mv (.c (.bool true)))] [4]) (.ret)))
def a56:AFn:=⟨2,[.t 4],b56,false⟩
def n56:Ann:=⟨[[2,3],[2,3,5],[2,3,5,19],[2,3,5,6],[2,3,5,6,26],[2,3,5,6,7,8],[2,3,5,6,7,8,9,10],[2,3,5,6,54],[4],[2,3,5,6],[2,3,5,11,12],[2,3,5,11,12,13,14],[2,3,5,78],[4],[2,3,5],[4]],[⟨[],[2,3,5],[32,48]⟩,⟨[],[2,3,5,6],[32,48]⟩],[],[],[],false,[(70,1024),(67,928),(14,1024),(66,1024),(65,1024),(61,1024),(12,928),(60,928),(59,928),(55,928),(46,640),(43,528),(10,640),(42,640),(41,640),(36,640),(8,528),(35,528),(34,528),(29,528)]⟩
@[simp] def d69l1:AC:=
 .seq (.region false [
 ao 35 (.bin .lss (.t 34) (.t 33))] [4,6,7,8,22,23,33,34,35]) (.seq (.cond (.t 35) (.skip) (.exit 2)) (.seq (.block 3 (.seq (.region false [
 ao 36 (.mv (.t 34)),
 ao 9 (.mv (.t 36))] [4,6,7,8,9,22,23,33,34]) (.region true (spl [
 ao 37 (.mv (.t 8)),
 ao 38 (.mv (.t 9)),
 ao 39 (.mv (.t 4)),
 ap 40 (.nilck (.t 39)) [2],
 ap 41 (.faddr 4 (.t 40)) [3,2],
 ao 42 (.mv (.t 4)),
 ao 43 (.mv (.t 7)),
 ao 44 (.mv (.t 9)),
 ap 45 (.call 116 [(.t 42),(.t 43),(.t 44)]) [5,6,7],
 ap 46 (.call 115 [(.t 41),(.c (i64 0)),(.t 45)]) [4,8,3,2,5,6,7],
 ap 47 (.field none 0 (.t 46)) [9,4,8,3,2,5,6,7],
 ao 48 (.mv (.t 4)),
 ap 49 (.nilck (.t 48)) [11],
 ap 50 (.faddr 4 (.t 49)) [12,11],
 ao 51 (.mv (.t 4)),
 ao 52 (.mv (.t 7)),
 ao 53 (.mv (.t 9)),
 ap 54 (.bin .add (.t 53) (.c (i64 1))) [16],
 ap 55 (.call 116 [(.t 51),(.t 52),(.t 54)]) [14,15,17,9,16,4,8,3,2,5,6,7],
 ap 56 (.call 115 [(.t 50),(.c (i64 0)),(.t 55)]) [13,18,12,11,14,15,17,9,16,4,8,3,2,5,6,7],
 ap 57 (.field none 0 (.t 56)) [19,13,18,12,11,14,15,17,9,16,4,8,3,2,5,6,7],
 ap 58 (.bin .sub (.t 47) (.t 57)) [10,20,19,13,18,12,11,14,15,17,9,16,4,8,3,2,5,6,7]] [
 ap 59 (.idxs 1 (.t 37) (.t 38)) [0,1,21,10,20,19,13,18,12,11,14,15,17,9,16,4,8,3,2,5,6,7],
 ⟨none, .store 1 (.t 59) (.t 58),none,[22,0,1,21,10,20,19,13,18,12,11,14,15,17,9,16,4,8,3,2,5,6,7],[]⟩]) [4,6,7,8,22,23,33,34]))) (.region false [
 ao 60 (.bin .add (.t 34) (.c (i64 1))),
 ao 34 (.mv (.t 60))] [4,6,7,8,22,23,33,34])))
def b69l1:AC:= .loop [4,6,7,8,22,23,33,34] [16,97,192,496,1008,1024] d69l1
@[simp] def d69l0:AC:=
 .seq (.region false [
 ao 24 (.bin .lss (.t 23) (.t 22))] [4,6,22,23,24]) (.seq (.cond (.t 24) (.skip) (.exit 0)) (.seq (.block 1 (.seq (.region false [
 ao 25 (.mv (.t 23)),
 ao 7 (.mv (.t 25))] [4,6,7,22,23]) (.seq (.region false [
 ao 26 (.mv (.t 4)),
 ao 27 (.nilck (.t 26)),
 ao 28 (.faddr 0 (.t 27)),
 ao 29 (.faddr 0 (.t 28)),
 ao 30 (.load none (.t 29)),
 ao 31 (.mksl [(i64 0)] 8 (.t 30) (.t 30)),
 ao 8 (.mv (.t 31))] [4,6,7,8,22,23]) (.seq (.seq (.region false [
 ao 32 (.mv (.t 8)),
 ao 33 (.len (.t 32)),
 ao 34 (.mv (.c (i64 0)))] [4,6,7,8,22,23,33,34]) (.block 2 (b69l1))) (.seq (.freeze [496]) (.region false [
 ao 61 (.mv (.t 6)),
 ao 62 (.mv (.t 8)),
 ao 63 (.lit [(.sl .full 1 [])] 1 [(0,(.t 62))]),
 ao 64 (.app 1 24 (.t 61) (.t 63)),
 ao 6 (.mv (.t 64))] [4,6,22,23])))))) (.region false [
 ao 65 (.bin .add (.t 23) (.c (i64 1))),
 ao 23 (.mv (.t 65))] [4,6,22,23])))
def b69l0:AC:= .loop [4,6,22,23] [16,97,192] d69l0
def b69:AC:=
 .seq (.region false [
 ao 1 (.box (.t 0)),
 ao 2 (.mv (.c (.sl .full 1 []))),
 ao 3 (.mv (.c (i64 0)))] [1]) (.seq (.region false [
 ao 11 (.load (some 4) (.t 1)),
 ao 12 (.call 114 [(.t 11),(.c (.bool true))]),
 ao 10 (.mv (.t 12)),
 ao 13 (.ext (.t 10) 0),
 ao 14 (.ext (.t 10) 1),
 ao 4 (.mv (.t 13)),
 ao 5 (.mv (.t 14))] [4,5]) (.seq (.seq (.region false [
 ao 15 (.mv (.t 5)),
 ao 16 (.bin .neq (.t 15) (.c (i64 0)))] [4,5,16]) (.cond (.t 16) (.seq (.region false [
 ao 17 (.mv (.t 5)),
 ao 2 (.mv (.c (.sl .full 1 []))),
 ao 3 (.mv (.t 17))] [2,3]) (.ret)) (.skip))) (.seq (.region false [
 ao 6 (.mv (.c (.sl .full 1 [])))] [4,6]) (.seq (.seq (.region false [
 ao 18 (.mv (.t 4)),
 ao 19 (.nilck (.t 18)),
 ao 20 (.faddr 0 (.t 19)),
 ao 21 (.faddr 1 (.t 20)),
 ao 22 (.load none (.t 21)),
 ao 23 (.mv (.c (i64 0)))] [4,6,22,23]) (.block 0 (.seq (.thaw 6 97 1) (b69l0)))) (.seq (.region false [
 ao 66 (.mv (.t 6)),
 ao 2 (.mv (.t 66)),
 ao 3 (.mv (.c (i64 0)))] [2,3]) (.ret))))))
def a69:AFn:=⟨1,[.t 2, .t 3],b69,false⟩
def n69:Ann:=⟨[[1],[4,5],[4,5,16],[2,3],[4,6],[4,6,22,23],[4,6,22,23,24],[4,6,7,22,23],[4,6,7,8,22,23],[4,6,7,8,22,23,33,34],[4,6,7,8,22,23,33,34,35],[4,6,7,8,9,22,23,33,34],[4,6,7,8,22,23,33,34],[4,6,7,8,22,23,33,34],[4,6,22,23],[4,6,22,23],[2,3]],[⟨[.t 6 97 1],[4,6,22,23],[16,97,192]⟩,⟨[],[4,6,7,8,22,23,33,34],[16,97,192,496,1008,1024]⟩],[],[[],[],[],[],[],[],[],[],[],[],[],[],[],[],[496],[],[]],[],false,[(51,192),(48,192),(42,192),(39,192),(26,192),(18,192),(3,192),(17,192),(15,192),(5,192),(4,192),(14,192),(13,192),(10,192)]⟩
def b73:AC:=
 .seq (.region false [
 ao 0 (.alloc [(i64 0),(i64 0),(.sl .full 1 []),(.sl .full 4 []),(i64 0),(i64 0),(.sl .full 1 [])]),
 ao 1 (.alloc [(i64 0),(i64 0),(.sl .full 1 []),(.sl .full 4 []),(i64 0),(i64 0),(.sl .full 1 [])])] [0,1]) (.seq (.region false [
 ao 2 (.lit [(i64 0)] 1 [(0,(.c (i64 0)))]),
 ao 3 (.lit [(i64 0)] 1 [(0,(.c (i64 0)))]),
 ao 4 (.lit [(i64 0)] 1 [(0,(.c (i64 0)))]),
 ao 5 (.lit [(.sl .full 1 [])] 3 [(0,(.t 2)),(1,(.t 3)),(2,(.t 4))]),
 ao 6 (.call 117 [(.c (i64 0)),(.c (i64 0)),(.c (i64 5)),(.c (i64 6))]),
 ao 7 (.call 117 [(.c (i64 1)),(.c (i64 0)),(.c (i64 2)),(.c (i64 3))]),
 ao 8 (.call 117 [(.c (i64 2)),(.c (i64 0)),(.c (i64 7)),(.c (i64 9))]),
 ao 9 (.call 117 [(.c (i64 3)),(.c (i64 0)),(.c (i64 4)),(.c (i64 4))]),
 ao 10 (.lit [(i64 0),(i64 0),(i64 0),(i64 0)] 4 [(0,(.t 6)),(1,(.t 7)),(2,(.t 8)),(3,(.t 9))]),
 ao 11 (.build [(i64 0),(i64 0),(.sl .full 1 []),(.sl .full 4 [])] [(0,1,(.c (i64 1))),(1,1,(.c (i64 4))),(2,1,(.t 5)),(3,1,(.t 10))]),
 ao 12 (.lit [(i64 0)] 1 [(0,(.c (i64 2)))]),
 ao 13 (.build [(i64 0),(i64 0),(.sl .full 1 []),(.sl .full 4 []),(i64 0),(i64 0),(.sl .full 1 [])] [(0,4,(.t 11)),(4,1,(.c (i64 2))),(5,1,(.c (i64 1))),(6,1,(.t 12))]),
 ⟨none, .store 7 (.t 0) (.t 13),none,[],[]⟩] [0,1]) (.seq (.region false [
 ao 14 (.load (some 7) (.t 0)),
 ao 15 (.call 28 [(.t 14)]),
 ⟨none, .store 7 (.t 1) (.t 15),none,[],[]⟩] [0,1]) (.seq (.seq (.freeze [240,1240,2240,3240,4240,5240,6240,7240,8240]) (.region false [
 ao 16 (.faddr 6 (.t 1)),
 ⟨none, .store 1 (.t 16) (.c (.sl .full 1 [])),none,[],[]⟩] [0,1])) (.seq (.region true (spl [
 ao 17 (.load (some 7) (.t 0)),
 ⟨(some 18), .load (some 7) (.t 1),none,[],[0]⟩,
 ⟨none, .store 7 (.t 0) (.t 17),none,[0],[]⟩] [
 ⟨none, .store 7 (.t 1) (.t 18),none,[1,2,0],[]⟩]) [0,1]) (.ret)))))
def a73:AFn:=⟨0,[.cell 0 (some 7), .cell 1 (some 7)],b73,false⟩
def n73:Ann:=⟨[[0,1],[0,1],[0,1],[0,1],[0,1]],[],[],[[],[],[],[240,1240,2240,3240,4240,5240,6240,7240,8240],[]],[],false,[]⟩
def b76:AC:=
 .seq (.region false [
 ao 2 (.box (.t 0)),
 ao 4 (.mv (.c .nilp)),
 ao 5 (.mv (.c (i64 0)))] [1,2]) (.seq (.region false [
 ao 9 (.load (some 7) (.t 2)),
 ao 10 (.mv (.t 1)),
 ao 11 (.call 89 [(.t 9),(.t 10)]),
 ao 8 (.mv (.t 11)),
 ao 12 (.ext (.t 8) 0),
 ao 13 (.ext (.t 8) 1),
 ao 6 (.mv (.t 12)),
 ao 7 (.mv (.t 13))] [6,7]) (.seq (.seq (.region false [
 ao 14 (.mv (.t 7)),
 ao 15 (.bin .eql (.t 14) (.c (i64 0))),
 ao 16 (.mv (.t 15)),
 ag 17 (.mv (.t 6)) 16 true [],
 ag 18 (.nilck (.t 17)) 16 true [],
 ag 19 (.faddr 7 (.t 18)) 16 true [],
 ag 20 (.load none (.t 19)) 16 true [],
 ag 21 (.len (.t 20)) 16 true [],
 ag 22 (.bin .eql (.t 21) (.c (i64 0))) 16 true [],
 ao 23 (.pick (.t 16) (.t 22) (.c (.bool false)))] [6,7,23]) (.cond (.t 23) (.seq (.region false [
 ao 4 (.mv (.c .nilp)),
 ao 5 (.mv (.c (i64 3)))] [4,5]) (.ret)) (.skip))) (.seq (.region false [
 ao 24 (.mv (.t 6)),
 ao 25 (.mv (.t 7)),
 ao 4 (.mv (.t 24)),
 ao 5 (.mv (.t 25))] [4,5]) (.ret))))
def a76:AFn:=⟨2,[.t 4, .t 5],b76,false⟩
def n76:Ann:=⟨[[1,2],[6,7],[6,7,23],[4,5],[4,5]],[],[],[],[],false,[(5,176),(4,176),(25,176),(24,176),(17,176),(14,176),(7,176),(6,176),(13,176),(12,176),(8,176)]⟩
@[simp] def d77l0:AC:=
 .seq (.seq (.region false [
 ao 5 (.mv (.t 0)),
 ao 6 (.mv (.t 4)),
 ao 7 (.bin .shr (.t 5) (.t 6)),
 ao 8 (.bin .gtr (.t 7) (.c (.int .u64 0)))] [0,3,4,8]) (.cond (.t 8) (.skip) (.exit 0))) (.seq (.block 1 (.seq (.region false [
 ao 11 (.mv (.t 0)),
 ao 12 (.mv (.t 4)),
 ao 13 (.call 119 [(.t 11),(.t 12)])] [0,3,4,13]) (.cond (.t 13) (.region false [
 ao 14 (.mv (.t 3)),
 ao 15 (.mv (.t 4)),
 ao 16 (.lit [(i64 0)] 1 [(0,(.t 15))]),
 ao 17 (.app 1 8 (.t 14) (.t 16)),
 ao 3 (.mv (.t 17))] [0,3,4]) (.skip)))) (.region false [
 ao 9 (.mv (.t 4)),
 ao 10 (.bin .add (.t 9) (.c (i64 1))),
 ao 4 (.mv (.t 10))] [0,3,4]))
def b77l0:AC:= .loop [0,3,4] [49] d77l0
def b77:AC:=
 .seq (.region false [
 ao 2 (.mv (.c (.sl .full 1 [])))] [0]) (.seq (.region false [
 ao 3 (.mv (.c (.sl .full 1 [])))] [0,3]) (.seq (.seq (.region false [
 ao 4 (.mv (.c (i64 0)))] [0,3,4]) (.block 0 (.seq (.thaw 3 49 1) (b77l0)))) (.seq (.region false [
 ao 18 (.mv (.t 3)),
 ao 2 (.mv (.t 18))] [2]) (.ret))))
def a77:AFn:=⟨1,[.t 2],b77,false⟩
def n77:Ann:=⟨[[0],[0,3],[0,3,4],[0,3,4,8],[0,3,4,13],[0,3,4],[0,3,4],[2]],[⟨[.t 3 49 1],[0,3,4],[49]⟩],[],[],[],false,[]⟩
@[simp] def d78l0:AC:=
 .seq (.region false [
 ao 20 (.bin .lss (.t 19) (.t 18))] [3,4,18,19,20]) (.seq (.cond (.t 20) (.skip) (.exit 0)) (.seq (.block 1 (.seq (.region false [
 ao 21 (.mv (.t 19)),
 ao 5 (.mv (.t 21))] [3,4,5,18,19]) (.seq (.region false [
 ao 23 (.load none (.t 4)),
 ao 24 (.mv (.t 5)),
 ao 25 (.callv (.t 23) [(.c (.sl .full 1 [])),(.c (i64 0)),(.t 24)]),
 ao 22 (.mv (.t 25)),
 ao 26 (.ext (.t 22) 0),
 ao 27 (.ext (.t 22) 1),
 ao 6 (.mv (.t 26)),
 ao 7 (.mv (.t 27))] [3,4,6,7,18,19]) (.seq (.region false [
 ao 28 (.mv (.t 7))] [3,4,6,18,19,28]) (.cond (.t 28) (.seq (.region false [
 ao 29 (.mv (.t 6)),
 ao 2 (.mv (.t 29))] [2]) (.ret)) (.skip)))))) (.region false [
 ao 30 (.bin .add (.t 19) (.c (i64 1))),
 ao 19 (.mv (.t 30))] [3,4,18,19])))
def b78l0:AC:= .loop [3,4,18,19] [16,48,64,544] d78l0
def b78:AC:=
 .seq (.region false [
 ao 1 (.box (.t 0)),
 ao 2 (.mv (.c (.sl .full 1 [])))] [1]) (.seq (.region false [
 ao 10 (.load none (.t 1)),
 ao 11 (.nilck (.t 10)),
 ao 12 (.faddr 0 (.t 11)),
 ao 13 (.faddr 0 (.t 12)),
 ao 14 (.faddr 3 (.t 13)),
 ao 15 (.load none (.t 14)),
 ao 16 (.len (.t 15)),
 ao 3 (.alloc [(i64 0)]),
 ⟨none, .store 1 (.t 3) (.t 16),none,[],[]⟩] [1,3]) (.seq (.region false [
 ao 4 (.alloc [.nilf])] [1,3,4]) (.seq (.region false [
 ao 17 (.mkfn 120 [] [(.t 1),(.t 3),(.t 4)]),
 ⟨none, .store 1 (.t 4) (.t 17),none,[],[]⟩] [3,4]) (.seq (.seq (.region false [
 ao 18 (.load none (.t 3)),
 ao 19 (.mv (.c (i64 0)))] [3,4,18,19]) (.block 0 (b78l0))) (.seq (.region false [
 ao 32 (.load none (.t 4)),
 ao 33 (.load none (.t 3)),
 ao 34 (.callv (.t 32) [(.c (.sl .full 1 [])),(.c (i64 0)),(.t 33)]),
 ao 31 (.mv (.t 34)),
 ao 35 (.ext (.t 31) 0),
 ao 36 (.ext (.t 31) 1),
 ao 8 (.mv (.t 35)),
 ao 9 (.mv (.t 36))] [8]) (.seq (.region false [
 ao 37 (.mv (.t 8)),
 ao 2 (.mv (.t 37))] [2]) (.ret)))))))
def a78:AFn:=⟨1,[.t 2],b78,false⟩
def n78:Ann:=⟨[[1],[1,3],[1,3,4],[3,4],[3,4,18,19],[3,4,18,19,20],[3,4,5,18,19],[3,4,6,7,18,19],[3,4,6,18,19,28],[2],[3,4,18,19],[8],[2]],[⟨[],[3,4,18,19],[16,48,64,544]⟩],[],[],[],false,[]⟩
@[simp] def d81l0:AC:=
 .seq (.seq (.region false [
 ao 14 (.mv (.t 4)),
 ao 15 (.faddr 2 (.t 1)),
 ao 16 (.load none (.t 15)),
 ao 17 (.len (.t 16)),
 ao 18 (.bin .lss (.t 14) (.t 17))] [1,2,3,4,18]) (.cond (.t 18) (.skip) (.exit 0))) (.seq (.block 1 (.region true (spl [
 ao 21 (.faddr 2 (.t 3)),
 ap 22 (.load none (.t 21)) [0],
 ao 23 (.lit [(i64 0)] 0 []),
 ao 24 (.faddr 2 (.t 1)),
 ap 25 (.load none (.t 24)) [3],
 ao 26 (.mv (.t 4)),
 ap 27 (.idxs 1 (.t 25) (.t 26)) [4,5,3],
 ap 28 (.load none (.t 27)) [6,4,5,3],
 ap 29 (.app 1 8 (.t 23) (.t 28)) [2,7,6,4,5,3],
 ap 30 (.lit [(.sl .full 1 [])] 1 [(0,(.t 29))]) [8,2,7,6,4,5,3]] [
 ap 31 (.app 1 24 (.t 22) (.t 30)) [1,9,0,8,2,7,6,4,5,3],
 ap 32 (.faddr 2 (.t 3)) [10,1,9,0,8,2,7,6,4,5,3],
 ⟨none, .store 1 (.t 32) (.t 31),none,[11,10,1,9,0,8,2,7,6,4,5,3],[]⟩]) [1,2,3,4])) (.region false [
 ao 19 (.mv (.t 4)),
 ao 20 (.bin .add (.t 19) (.c (i64 1))),
 ao 4 (.mv (.t 20))] [1,2,3,4]))
def b81l0:AC:= .loop [1,2,3,4] [16,32,48,52,144,192] d81l0
def b81:AC:=
 .seq (.region false [
 ao 1 (.box (.t 0)),
 ao 2 (.alloc [(i64 0),(i64 0),(.sl .full 1 []),(.sl .full 4 [])])] [1,2]) (.seq (.region true (spl [
 ao 5 (.faddr 0 (.t 1)),
 ap 6 (.load none (.t 5)) [0],
 ao 7 (.faddr 1 (.t 1)),
 ap 8 (.load none (.t 7)) [2],
 ao 9 (.lit [(i64 0),(i64 0),(i64 0),(i64 0)] 0 []),
 ao 10 (.faddr 3 (.t 1)),
 ap 11 (.load none (.t 10)) [5],
 ap 12 (.app 4 32 (.t 9) (.t 11)) [4,6,5],
 ap 13 (.build [(i64 0),(i64 0),(.sl .full 1 []),(.sl .full 4 [])] [(0,1,(.t 6)),(1,1,(.t 8)),(3,1,(.t 12))]) [1,3,7,0,2,4,6,5],
 ao 3 (.alloc [(i64 0),(i64 0),(.sl .full 1 []),(.sl .full 4 [])])] [
 ⟨none, .store 4 (.t 3) (.t 13),none,[8,9,1,3,7,0,2,4,6,5],[]⟩]) [1,2,3]) (.seq (.seq (.region false [
 ao 4 (.mv (.c (i64 0)))] [1,2,3,4]) (.block 0 (.seq (.thawc 3 2 52 1) (b81l0)))) (.seq (.region false [
 ao 33 (.load (some 4) (.t 3)),
 ⟨none, .store 4 (.t 2) (.t 33),none,[],[]⟩] [2]) (.ret))))
def a81:AFn:=⟨1,[.cell 2 (some 4)],b81,true⟩
def n81:Ann:=⟨[[1,2],[1,2,3],[1,2,3,4],[1,2,3,4,18],[1,2,3,4],[1,2,3,4],[2]],[⟨[.c 3 2 52 1],[1,2,3,4],[16,32,48,52,144,192]⟩],[],[],[],true,[]⟩
def b82:AC:=
 .seq (.region false [
 ao 6 (.mv (.c (.bool false)))] [0,1,2]) (.seq (.region false [
 ao 7 (.mv (.t 0)),
 ao 8 (.mv (.t 1)),
 ao 9 (.bin .geq (.t 7) (.t 8)),
 ao 10 (.mv (.t 9)),
 ag 11 (.mv (.t 0)) 10 true [],
 ag 12 (.mv (.t 2)) 10 true [],
 ag 13 (.bin .leq (.t 11) (.t 12)) 10 true [],
 ao 14 (.pick (.t 10) (.t 13) (.c (.bool false))),
 ao 6 (.mv (.t 14))] [6]) (.ret))
def a82:AFn:=⟨3,[.t 6],b82,false⟩
def n82:Ann:=⟨[[0,1,2],[6]],[],[],[],[],false,[]⟩
def b83:AC:=
 .seq (.region false [
 ao 2 (.box (.t 0)),
 ao 3 (.box (.t 1)),
 ao 4 (.mv (.c (i64 0))),
 ao 5 (.mv (.c (i64 0)))] [2,3]) (.seq (.region true (spl [
 ao 10 (.load (some 4) (.t 2)),
 ao 11 (.load (some 4) (.t 2)),
 ao 12 (.load (some 4) (.t 3)),
 ap 13 (.call 126 [(.t 11),(.t 12)]) [1,2],
 ap 14 (.call 114 [(.t 10),(.t 13)]) [0,3,1,2],
 ap 9 (.mv (.t 14)) [4,0,3,1,2],
 ap 15 (.ext (.t 9) 0) [5,4,0,3,1,2],
 ap 16 (.ext (.t 9) 1) [5,4,0,3,1,2],
 ap 6 (.mv (.t 15)) [6,5,4,0,3,1,2]] [
 ap 7 (.mv (.t 16)) [7,8,6,5,4,0,3,1,2]]) [3,6,7]) (.seq (.seq (.region false [
 ao 17 (.mv (.t 7)),
 ao 18 (.bin .neq (.t 17) (.c (i64 0)))] [3,6,7,18]) (.cond (.t 18) (.seq (.region false [
 ao 19 (.mv (.t 7)),
 ao 4 (.mv (.c (i64 0))),
 ao 5 (.mv (.t 19))] [4,5]) (.ret)) (.skip))) (.seq (.seq (.region false [
 ao 20 (.mv (.t 6)),
 ao 21 (.faddr 0 (.t 3)),
 ao 22 (.load none (.t 21)),
 ao 23 (.faddr 1 (.t 3)),
 ao 24 (.load none (.t 23)),
 ao 25 (.call 127 [(.t 20),(.t 22),(.t 24)]),
 ao 8 (.alloc [(i64 0),(i64 0)]),
 ⟨none, .store 2 (.t 8) (.t 25),none,[],[]⟩] [3,8]) (.block 0 (.seq (.region false [
 ao 27 (.faddr 0 (.t 8)),
 ao 28 (.load none (.t 27)),
 ao 29 (.faddr 2 (.t 3)),
 ao 30 (.load none (.t 29)),
 ao 31 (.bin .geq (.t 28) (.t 30)),
 ao 32 (.mv (.t 31)),
 ag 33 (.faddr 1 (.t 8)) 32 true [],
 ag 34 (.load none (.t 33)) 32 true [],
 ag 35 (.faddr 3 (.t 3)) 32 true [],
 ag 36 (.load none (.t 35)) 32 true [],
 ag 37 (.bin .leq (.t 34) (.t 36)) 32 true [],
 ao 38 (.pick (.t 32) (.t 37) (.c (.bool false))),
 ao 26 (.mv (.t 38))] [3,8,26]) (.cond (.t 26) (.seq (.region false [
 ao 4 (.mv (.c (i64 1))),
 ao 5 (.mv (.c (i64 0)))] [4,5]) (.ret)) (.seq (.region false [
 ao 40 (.faddr 0 (.t 8)),
 ao 41 (.load none (.t 40)),
 ao 42 (.faddr 3 (.t 3)),
 ao 43 (.load none (.t 42)),
 ao 44 (.bin .gtr (.t 41) (.t 43)),
 ao 45 (.mv (.t 44)),
 ag 46 (.faddr 1 (.t 8)) 45 false [],
 ag 47 (.load none (.t 46)) 45 false [],
 ag 48 (.faddr 2 (.t 3)) 45 false [],
 ag 49 (.load none (.t 48)) 45 false [],
 ag 50 (.bin .lss (.t 47) (.t 49)) 45 false [],
 ao 51 (.pick (.t 45) (.c (.bool true)) (.t 50)),
 ao 39 (.mv (.t 51))] [39]) (.cond (.t 39) (.seq (.region false [
 ao 4 (.mv (.c (i64 2))),
 ao 5 (.mv (.c (i64 0)))] [4,5]) (.ret)) (.skip))))))) (.seq (.region false [
 ao 4 (.mv (.c (i64 3))),
 ao 5 (.mv (.c (i64 0)))] [4,5]) (.ret)))))
def a83:AFn:=⟨2,[.t 4, .t 5],b83,false⟩
def n83:Ann:=⟨[[2,3],[3,6,7],[3,6,7,18],[4,5],[3,8],[3,8,26],[4,5],[39],[4,5],[4,5]],[],[],[],[],false,[(20,224),(5,224),(19,224),(17,224),(7,224),(6,224),(16,224),(15,224),(9,224)]⟩
def b88:AC:=
 .seq (.region false [
 ao 1 (.box (.t 0)),
 ao 2 (.mv (.c (.bool false)))] [1]) (.seq (.region false [
 ao 3 (.faddr 2 (.t 1)),
 ao 4 (.load none (.t 3)),
 ao 5 (.call 132 [(.t 4)]),
 ao 6 (.mv (.t 5)),
 ag 7 (.faddr 3 (.t 1)) 6 false [],
 ag 8 (.load none (.t 7)) 6 false [],
 ag 9 (.len (.t 8)) 6 false [],
 ag 10 (.bin .gtr (.t 9) (.c (i64 40))) 6 false [],
 ao 11 (.pick (.t 6) (.c (.bool true)) (.t 10)),
 ao 2 (.mv (.t 11))] [2]) (.ret))
def a88:AFn:=⟨1,[.t 2],b88,false⟩
def n88:Ann:=⟨[[1],[2]],[],[],[],[],false,[(6,80)]⟩
@[simp] def d89l0:AC:=
 .seq (.region false [
 ao 25 (.bin .lss (.t 24) (.t 23))] [2,7,23,24,25]) (.seq (.cond (.t 25) (.skip) (.exit 0)) (.seq (.block 1 (.seq (.region false [
 ao 26 (.mv (.t 24)),
 ao 8 (.alloc [(.int .u64 0)]),
 ⟨none, .store 1 (.t 8) (.t 26),none,[],[]⟩] [2,7,8,23,24]) (.seq (.seq (.region false [
 ao 27 (.mv (.t 7)),
 ao 28 (.load none (.t 8)),
 ao 29 (.call 121 [(.t 27),(.t 28)]),
 ao 30 (.un .not (.t 29))] [2,7,8,23,24,30]) (.cond (.t 30) (.exit 1) (.skip))) (.seq (.region false [
 ao 31 (.mv (.t 7)),
 ao 32 (.mkfn 133 [] [(.t 8),(.t 2)]),
 ao 33 (.call 123 [(.t 31),(.t 32)]),
 ao 9 (.alloc [(i64 0),(i64 0),(.sl .full 1 []),(.sl .full 4 [])]),
 ⟨none, .store 4 (.t 9) (.t 33),none,[],[]⟩] [2,7,8,9,23,24]) (.seq (.region false [
 ao 34 (.load (some 4) (.t 9)),
 ao 35 (.call 122 [(.t 34)])] [2,7,8,9,23,24,35]) (.cond (.t 35) (.region true (spl [
 ⟨(some 36), .mv (.t 7),none,[],[121,888888]⟩,
 ao 37 (.mv (.t 7)),
 ap 38 (.nilck (.t 37)) [1],
 ap 39 (.faddr 7 (.t 38)) [2,1],
 ap 40 (.load none (.t 39)) [3,2,1],
 ao 41 (.load none (.t 8)),
 ao 42 (.load (some 4) (.t 9)),
 ap 43 (.build [(.int .u64 0),(i64 0),(i64 0),(.sl .full 1 []),(.sl .full 4 [])] [(0,1,(.t 41)),(1,4,(.t 42))]) [5,6],
 ap 44 (.lit [(.int .u64 0),(i64 0),(i64 0),(.sl .full 1 []),(.sl .full 4 [])] 1 [(0,(.t 43))]) [7,5,6],
 ap 45 (.app 5 72 (.t 40) (.t 44)) [4,8,3,2,1,7,5,6]] [
 ap 46 (.nilck (.t 36)) [0,9,4,8,3,2,1,7,5,6],
 ap 47 (.faddr 7 (.t 46)) [10,0,9,4,8,3,2,1,7,5,6],
 ⟨none, .store 1 (.t 47) (.t 45),none,[11,10,0,9,4,8,3,2,1,7,5,6],[]⟩]) [2,7,23,24]) (.skip))))))) (.region false [
 ao 48 (.bin .add (.t 24) (.c (.int .u64 1))),
 ao 24 (.mv (.t 48))] [2,7,23,24])))
def b89l0:AC:= .loop [2,7,23,24] [32,121,304] d89l0
def b89:AC:=
 .seq (.region false [
 ao 2 (.box (.t 0)),
 ao 4 (.mv (.c .nilp)),
 ao 5 (.mv (.c (i64 0)))] [1,2]) (.seq (.seq (.region false [
 ao 10 (.load (some 7) (.t 2)),
 ao 11 (.call 39 [(.t 10)]),
 ao 6 (.mv (.t 11))] [1,2,6]) (.seq (.region false [
 ao 12 (.mv (.t 6)),
 ao 13 (.bin .neq (.t 12) (.c (i64 0)))] [1,2,6,13]) (.cond (.t 13) (.seq (.region false [
 ao 14 (.mv (.t 6)),
 ao 4 (.mv (.c .nilp)),
 ao 5 (.mv (.t 14))] [4,5]) (.ret)) (.skip)))) (.seq (.seq (.region false [
 ao 15 (.mv (.t 1)),
 ao 16 (.un .not (.t 15))] [2,16]) (.cond (.t 16) (.seq (.region false [
 ao 4 (.mv (.c .nilp)),
 ao 5 (.mv (.c (i64 1)))] [4,5]) (.ret)) (.skip))) (.seq (.region false [
 ao 17 (.load (some 7) (.t 2)),
 ao 18 (.build [(i64 0),(i64 0),(.sl .full 1 []),(.sl .full 4 []),(i64 0),(i64 0),(.sl .full 1 []),(.sl .full 5 [])] [(0,7,(.t 17))]),
 ao 19 (.box (.t 18)),
 ao 7 (.mv (.t 19))] [2,7]) (.seq (.seq (.region false [
 ao 20 (.faddr 0 (.t 2)),
 ao 21 (.faddr 1 (.t 20)),
 ao 22 (.load none (.t 21)),
 ao 23 (.bin .shl (.c (.int .u64 1)) (.t 22)),
 ao 24 (.mv (.c (.int .u64 0)))] [2,7,23,24]) (.block 0 (.seq (.thawc 7 7 121 105) (b89l0)))) (.seq (.region false [
 ao 49 (.mv (.t 7)),
 ao 50 (.nilck (.t 49)),
 ao 51 (.faddr 7 (.t 50)),
 ao 52 (.load none (.t 51)),
 ao 53 (.call 134 [(.t 52),(.c (.fn 135 [] []))])] [7]) (.seq (.seq (.freeze [121]) (.region false [
 ao 54 (.mv (.t 7)),
 ao 4 (.mv (.t 54)),
 ao 5 (.mv (.c (i64 0)))] [4,5])) (.ret)))))))
def a89:AFn:=⟨2,[.t 4, .t 5],b89,false⟩
def n89:Ann:=⟨[[1,2],[1,2,6],[1,2,6,13],[4,5],[2,16],[4,5],[2,7],[2,7,23,24],[2,7,23,24,25],[2,7,8,23,24],[2,7,8,23,24,30],[2,7,8,9,23,24],[2,7,8,9,23,24,35],[2,7,23,24],[2,7,23,24],[7],[4,5]],[⟨[.c 7 7 121 105],[2,7,23,24],[32,121,304]⟩],[],[[],[],[],[],[],[],[],[],[],[],[],[],[],[],[],[],[121]],[],false,[(1000040,121),(4,304),(54,304),(49,304),(37,304),(36,304),(31,304),(27,304),(7,304),(5,176),(14,176),(12,176),(6,176)]⟩
@[simp] def d90l0:AC:=
 .seq (.region false [
 ao 10 (.bin .lss (.t 9) (.t 8))] [1,2,7,8,9,10]) (.seq (.cond (.t 10) (.skip) (.exit 0)) (.seq (.block 1 (.seq (.region false [
 ao 11 (.mv (.t 9)),
 ao 12 (.idxs 1 (.t 7) (.t 9)),
 ao 13 (.load none (.t 12)),
 ao 5 (.mv (.t 11)),
 ao 6 (.mv (.t 13))] [1,2,5,6,7,8,9]) (.seq (.region false [
 ao 14 (.mv (.t 6)),
 ao 15 (.faddr 1 (.t 2)),
 ao 16 (.load none (.t 15)),
 ao 17 (.bin .sub (.t 16) (.c (i64 1))),
 ao 18 (.call 82 [(.t 14),(.c (i64 0)),(.t 17)]),
 ao 19 (.un .not (.t 18)),
 ao 20 (.mv (.t 19)),
 ag 21 (.mv (.t 5)) 20 false [],
 ag 22 (.bin .gtr (.t 21) (.c (i64 0))) 20 false [],
 ag 23 (.mv (.t 22)) 20 false [],
 ag 24 (.mv (.t 6)) 23 true [],
 ag 25 (.mv (.t 1)) 23 true [],
 ag 26 (.mv (.t 5)) 23 true [],
 ag 27 (.bin .sub (.t 26) (.c (i64 1))) 23 true [],
 ag 28 (.idxs 1 (.t 25) (.t 27)) 23 true [],
 ag 29 (.load none (.t 28)) 23 true [],
 ag 30 (.bin .leq (.t 24) (.t 29)) 23 true [],
 ag 31 (.pick (.t 23) (.t 30) (.c (.bool false))) 20 false [],
 ao 32 (.pick (.t 20) (.c (.bool true)) (.t 31))] [1,2,7,8,9,32]) (.cond (.t 32) (.seq (.region false [
 ao 4 (.mv (.c (.bool false)))] [4]) (.ret)) (.skip))))) (.region false [
 ao 33 (.bin .add (.t 9) (.c (i64 1))),
 ao 9 (.mv (.t 33))] [1,2,7,8,9])))
def b90l0:AC:= .loop [1,2,7,8,9] [32] d90l0
def b90:AC:=
 .seq (.region false [
 ao 2 (.box (.t 0)),
 ao 4 (.mv (.c (.bool false)))] [1,2]) (.seq (.seq (.region false [
 ao 7 (.mv (.t 1)),
 ao 8 (.len (.t 7)),
 ao 9 (.mv (.c (i64 0)))] [1,2,7,8,9]) (.block 0 (b90l0))) (.seq (.region false [
 ao 4 (.mv (.c (.bool true)))] [4]) (.ret)))
def a90:AFn:=⟨2,[.t 4],b90,false⟩
def n90:Ann:=⟨[[1,2],[1,2,7,8,9],[1,2,7,8,9,10],[1,2,5,6,7,8,9],[1,2,7,8,9,32],[4],[1,2,7,8,9],[4]],[⟨[],[1,2,7,8,9],[32]⟩],[],[],[],false,[]⟩
@[simp] def d93l0:AC:=
 .seq (.region false [
 ao 8 (.bin .lss (.t 7) (.t 6))] [2,5,6,7,8]) (.seq (.cond (.t 8) (.skip) (.exit 0)) (.seq (.block 1 (.seq (.region false [
 ao 9 (.idxs 1 (.t 5) (.t 7)),
 ao 10 (.load none (.t 9)),
 ao 4 (.mv (.t 10))] [2,4,5,6,7]) (.region false [
 ao 11 (.mv (.t 2)),
 ao 12 (.mv (.t 4)),
 ao 13 (.bin .shl (.c (.int .u64 1)) (.t 12)),
 ao 14 (.bin .or (.t 11) (.t 13)),
 ao 2 (.mv (.t 14))] [2,5,6,7]))) (.region false [
 ao 15 (.bin .add (.t 7) (.c (i64 1))),
 ao 7 (.mv (.t 15))] [2,5,6,7])))
def b93l0:AC:= .loop [2,5,6,7] [] d93l0
def b93:AC:=
 .seq (.region false [
 ao 2 (.mv (.c (.int .u64 0)))] [0,2]) (.seq (.seq (.region false [
 ao 5 (.mv (.t 0)),
 ao 6 (.len (.t 5)),
 ao 7 (.mv (.c (i64 0)))] [2,5,6,7]) (.block 0 (b93l0))) (.seq (.region false [
 ao 16 (.mv (.t 2)),
 ao 2 (.mv (.t 16))] [2]) (.ret)))
def a93:AFn:=⟨1,[.t 2],b93,false⟩
def n93:Ann:=⟨[[0,2],[2,5,6,7],[2,5,6,7,8],[2,4,5,6,7],[2,5,6,7],[2,5,6,7],[2]],[⟨[],[2,5,6,7],[]⟩],[],[],[],false,[]⟩
@[simp] def d94l1:AC:=
 .seq (.region false [
 ao 42 (.bin .lss (.t 41) (.t 40))] [1,4,33,34,35,39,40,41,42]) (.seq (.cond (.t 42) (.skip) (.exit 2)) (.seq (.block 3 (.seq (.region false [
 ao 43 (.mv (.t 41)),
 ao 44 (.idxs 1 (.t 39) (.t 41)),
 ao 45 (.load none (.t 44)),
 ao 5 (.mv (.t 43)),
 ao 6 (.mv (.t 45))] [1,4,5,6,33,34,35,39,40,41]) (.seq (.region false [
 ao 46 (.mv (.t 6)),
 ao 47 (.faddr 0 (.t 1)),
 ao 48 (.load none (.t 47)),
 ao 49 (.bin .sub (.t 48) (.c (i64 1))),
 ao 50 (.call 139 [(.t 46),(.c (i64 0)),(.t 49)]),
 ao 51 (.un .not (.t 50)),
 ao 52 (.mv (.t 51)),
 ag 53 (.mv (.t 5)) 52 false [],
 ag 54 (.bin .gtr (.t 53) (.c (i64 0))) 52 false [],
 ag 55 (.mv (.t 54)) 52 false [],
 ag 56 (.mv (.t 6)) 55 true [],
 ag 57 (.mv (.t 4)) 55 true [],
 ag 58 (.mv (.t 5)) 55 true [],
 ag 59 (.bin .sub (.t 58) (.c (i64 1))) 55 true [],
 ag 60 (.idxs 1 (.t 57) (.t 59)) 55 true [],
 ag 61 (.load none (.t 60)) 55 true [],
 ag 62 (.bin .leq (.t 56) (.t 61)) 55 true [],
 ag 63 (.pick (.t 55) (.t 62) (.c (.bool false))) 52 false [],
 ao 64 (.pick (.t 52) (.c (.bool true)) (.t 63))] [1,4,33,34,35,39,40,41,64]) (.cond (.t 64) (.seq (.region false [
 ao 2 (.mv (.c (i64 10)))] [2]) (.ret)) (.skip))))) (.region false [
 ao 65 (.bin .add (.t 41) (.c (i64 1))),
 ao 41 (.mv (.t 65))] [1,4,33,34,35,39,40,41])))
def b94l1:AC:= .loop [1,4,33,34,35,39,40,41] [16,144,224,1120] d94l1
@[simp] def d94l0:AC:=
 .seq (.region false [
 ao 36 (.bin .lss (.t 35) (.t 34))] [1,33,34,35,36]) (.seq (.cond (.t 36) (.skip) (.exit 0)) (.seq (.block 1 (.seq (.region false [
 ao 37 (.idxs 1 (.t 33) (.t 35)),
 ao 38 (.load none (.t 37)),
 ao 4 (.mv (.t 38))] [1,4,33,34,35]) (.seq (.region false [
 ao 39 (.mv (.t 4)),
 ao 40 (.len (.t 39)),
 ao 41 (.mv (.c (i64 0)))] [1,4,33,34,35,39,40,41]) (.block 2 (b94l1))))) (.region false [
 ao 66 (.bin .add (.t 35) (.c (i64 1))),
 ao 35 (.mv (.t 66))] [1,33,34,35])))
def b94l0:AC:= .loop [1,33,34,35] [16,144,224,1120] d94l0
def b94:AC:=
 .seq (.region false [
 ao 1 (.box (.t 0)),
 ao 2 (.mv (.c (i64 0)))] [1]) (.seq (.seq (.region false [
 ao 7 (.faddr 0 (.t 1)),
 ao 8 (.load none (.t 7)),
 ao 9 (.call 139 [(.t 8),(.c (i64 1)),(.c (i64 4))]),
 ao 10 (.un .not (.t 9)),
 ao 11 (.mv (.t 10)),
 ag 12 (.faddr 1 (.t 1)) 11 false [],
 ag 13 (.load none (.t 12)) 11 false [],
 ag 14 (.call 139 [(.t 13),(.c (i64 1)),(.c (i64 5))]) 11 false [],
 ag 15 (.un .not (.t 14)) 11 false [],
 ao 16 (.pick (.t 11) (.c (.bool true)) (.t 15)),
 ao 17 (.mv (.t 16)),
 ag 18 (.faddr 2 (.t 1)) 17 false [],
 ag 19 (.load none (.t 18)) 17 false [],
 ag 20 (.len (.t 19)) 17 false [],
 ag 21 (.faddr 1 (.t 1)) 17 false [],
 ag 22 (.load none (.t 21)) 17 false [],
 ag 23 (.bin .sub (.t 22) (.c (i64 1))) 17 false [],
 ag 24 (.bin .neq (.t 20) (.t 23)) 17 false [],
 ao 25 (.pick (.t 17) (.c (.bool true)) (.t 24)),
 ao 26 (.mv (.t 25)),
 ag 27 (.faddr 3 (.t 1)) 26 false [],
 ag 28 (.load none (.t 27)) 26 false [],
 ag 29 (.len (.t 28)) 26 false [],
 ag 30 (.bin .gtr (.t 29) (.c (i64 8))) 26 false [],
 ao 31 (.pick (.t 26) (.c (.bool true)) (.t 30))] [1,31]) (.cond (.t 31) (.seq (.region false [
 ao 2 (.mv (.c (i64 10)))] [2]) (.ret)) (.skip))) (.seq (.seq (.region false [
 ao 32 (.faddr 2 (.t 1)),
 ao 33 (.load none (.t 32)),
 ao 34 (.len (.t 33)),
 ao 35 (.mv (.c (i64 0)))] [1,33,34,35]) (.block 0 (b94l0))) (.seq (.seq (.region false [
 ao 67 (.faddr 3 (.t 1)),
 ao 68 (.load none (.t 67)),
 ao 69 (.mkfn 141 [] [(.t 1)]),
 ao 70 (.call 140 [(.t 68),(.t 69)])] [70]) (.cond (.t 70) (.seq (.region false [
 ao 2 (.mv (.c (i64 10)))] [2]) (.ret)) (.skip))) (.seq (.region false [
 ao 2 (.mv (.c (i64 0)))] [2]) (.ret)))))
def a94:AFn:=⟨1,[.t 2],b94,false⟩
def n94:Ann:=⟨[[1],[1,31],[2],[1,33,34,35],[1,33,34,35,36],[1,4,33,34,35],[1,4,33,34,35,39,40,41],[1,4,33,34,35,39,40,41,42],[1,4,5,6,33,34,35,39,40,41],[1,4,33,34,35,39,40,41,64],[2],[1,4,33,34,35,39,40,41],[1,33,34,35],[70],[2],[2]],[⟨[],[1,33,34,35],[16,144,224,1120]⟩,⟨[],[1,4,33,34,35,39,40,41],[16,144,224,1120]⟩],[],[],[],false,[]⟩
@[simp] def d95l0:AC:=
 .seq (.seq (.region false [
 ao 30 (.mv (.t 3)),
 ao 31 (.faddr 2 (.t 1)),
 ao 32 (.load none (.t 31)),
 ao 33 (.len (.t 32)),
 ao 34 (.bin .lss (.t 30) (.t 33))] [1,3,34]) (.cond (.t 34) (.skip) (.exit 0))) (.seq (.block 1 (.seq (.region true (spl [
 ao 37 (.faddr 2 (.t 1)),
 ap 38 (.load none (.t 37)) [0],
 ao 39 (.mv (.t 3)),
 ap 40 (.idxs 1 (.t 38) (.t 39)) [1,2,0],
 ap 41 (.load none (.t 40)) [3,1,2,0],
 ao 42 (.faddr 0 (.t 1)),
 ap 43 (.load none (.t 42)) [5],
 ap 44 (.bin .sub (.t 43) (.c (i64 1))) [6,5]] [
 ap 45 (.call 24 [(.t 41),(.c (i64 0)),(.t 44)]) [4,7,3,1,2,0,6,5],
 ap 46 (.un .not (.t 45)) [8,4,7,3,1,2,0,6,5]]) [1,3,46]) (.cond (.t 46) (.seq (.region false [
 ao 2 (.mv (.c (i64 10)))] [2]) (.ret)) (.skip)))) (.region false [
 ao 35 (.mv (.t 3)),
 ao 36 (.bin .add (.t 35) (.c (i64 1))),
 ao 3 (.mv (.t 36))] [1,3]))
def b95l0:AC:= .loop [1,3] [16,112,192,960] d95l0
@[simp] def d95l1:AC:=
 .seq (.seq (.region false [
 ao 47 (.mv (.t 4)),
 ao 48 (.faddr 3 (.t 1)),
 ao 49 (.load none (.t 48)),
 ao 50 (.len (.t 49)),
 ao 51 (.bin .lss (.t 47) (.t 50))] [1,4,51]) (.cond (.t 51) (.skip) (.exit 2))) (.seq (.block 3 (.seq (.region true (spl [
 ao 54 (.load (some 4) (.t 1)),
 ao 55 (.faddr 3 (.t 1)),
 ap 56 (.load none (.t 55)) [1],
 ao 57 (.mv (.t 4)),
 ap 58 (.idxs 4 (.t 56) (.t 57)) [2,3,1],
 ap 59 (.load (some 4) (.t 58)) [4,2,3,1]] [
 ap 60 (.call 130 [(.t 54),(.t 59)]) [0,5,4,2,3,1],
 ap 61 (.un .not (.t 60)) [6,0,5,4,2,3,1]]) [1,4,61]) (.cond (.t 61) (.seq (.region false [
 ao 2 (.mv (.c (i64 10)))] [2]) (.ret)) (.skip)))) (.region false [
 ao 52 (.mv (.t 4)),
 ao 53 (.bin .add (.t 52) (.c (i64 1))),
 ao 4 (.mv (.t 53))] [1,4]))
def b95l1:AC:= .loop [1,4] [16,112,192,720] d95l1
def b95:AC:=
 .seq (.region false [
 ao 1 (.box (.t 0)),
 ao 2 (.mv (.c (i64 0)))] [1]) (.seq (.seq (.region false [
 ao 5 (.faddr 0 (.t 1)),
 ao 6 (.load none (.t 5)),
 ao 7 (.call 47 [(.t 6),(.c (i64 1)),(.c (i64 4))]),
 ao 8 (.un .not (.t 7)),
 ao 9 (.mv (.t 8)),
 ag 10 (.faddr 1 (.t 1)) 9 false [],
 ag 11 (.load none (.t 10)) 9 false [],
 ag 12 (.call 47 [(.t 11),(.c (i64 1)),(.c (i64 5))]) 9 false [],
 ag 13 (.un .not (.t 12)) 9 false [],
 ao 14 (.pick (.t 9) (.c (.bool true)) (.t 13)),
 ao 15 (.mv (.t 14)),
 ag 16 (.faddr 2 (.t 1)) 15 false [],
 ag 17 (.load none (.t 16)) 15 false [],
 ag 18 (.len (.t 17)) 15 false [],
 ag 19 (.faddr 1 (.t 1)) 15 false [],
 ag 20 (.load none (.t 19)) 15 false [],
 ag 21 (.bin .sub (.t 20) (.c (i64 1))) 15 false [],
 ag 22 (.bin .neq (.t 18) (.t 21)) 15 false [],
 ao 23 (.pick (.t 15) (.c (.bool true)) (.t 22)),
 ao 24 (.mv (.t 23)),
 ag 25 (.faddr 3 (.t 1)) 24 false [],
 ag 26 (.load none (.t 25)) 24 false [],
 ag 27 (.len (.t 26)) 24 false [],
 ag 28 (.bin .gtr (.t 27) (.c (i64 8))) 24 false [],
 ao 29 (.pick (.t 24) (.c (.bool true)) (.t 28))] [1,29]) (.cond (.t 29) (.seq (.region false [
 ao 2 (.mv (.c (i64 10)))] [2]) (.ret)) (.skip))) (.seq (.seq (.region false [
 ao 3 (.mv (.c (i64 0)))] [1,3]) (.block 0 (b95l0))) (.seq (.seq (.region false [
 ao 4 (.mv (.c (i64 0)))] [1,4]) (.block 2 (b95l1))) (.seq (.region false [
 ao 2 (.mv (.c (i64 0)))] [2]) (.ret)))))
def a95:AFn:=⟨1,[.t 2],b95,false⟩
def n95:Ann:=⟨[[1],[1,29],[2],[1,3],[1,3,34],[1,3,46],[2],[1,3],[1,4],[1,4,51],[1,4,61],[2],[1,4],[2]],[⟨[],[1,3],[16,112,192,960]⟩,⟨[],[1,4],[16,112,192,720]⟩],[],[],[],false,[]⟩
def b96:AC:=
 .seq (.region false [
 ao 6 (.mv (.c (.bool false)))] [0,1,2]) (.seq (.region false [
 ao 7 (.mv (.t 0)),
 ao 8 (.mv (.t 1)),
 ao 9 (.mv (.t 2)),
 ao 10 (.call 47 [(.t 7),(.t 8),(.t 9)]),
 ao 6 (.mv (.t 10))] [6]) (.ret))
def a96:AFn:=⟨3,[.t 6],b96,false⟩
def n96:Ann:=⟨[[0,1,2],[6]],[],[],[],[],false,[(6,160)]⟩
def b99:AC:=
 .seq (.region false [
 ao 2 (.box (.t 0)),
 ao 4 (.mv (.c (.bool false)))] [1,2]) (.seq (.region false [
 ao 5 (.mv (.t 1)),
 ao 6 (.faddr 0 (.t 2)),
 ao 7 (.faddr 1 (.t 6)),
 ao 8 (.load none (.t 7)),
 ao 9 (.bin .sub (.t 8) (.c (i64 1))),
 ao 10 (.call 82 [(.t 5),(.c (i64 0)),(.t 9)]),
 ao 4 (.mv (.t 10))] [4]) (.ret))
def a99:AFn:=⟨2,[.t 4],b99,false⟩
def n99:Ann:=⟨[[1,2],[4]],[],[],[],[],false,[(4,160)]⟩
@[simp] def d100l0:AC:=
 .seq (.region false [
 ao 16 (.bin .lss (.t 15) (.t 14))] [1,4,5,13,14,15,16]) (.seq (.cond (.t 16) (.skip) (.exit 0)) (.seq (.block 1 (.seq (.region false [
 ao 17 (.mv (.t 15)),
 ao 18 (.idxs 5 (.t 13) (.t 15)),
 ao 19 (.load (some 5) (.t 18)),
 ao 7 (.alloc [(.int .u64 0),(i64 0),(i64 0),(.sl .full 1 []),(.sl .full 4 [])]),
 ao 6 (.mv (.t 17)),
 ⟨none, .store 5 (.t 7) (.t 19),none,[],[]⟩] [1,4,5,6,7,13,14,15]) (.seq (.region false [
 ao 21 (.mv (.t 1)),
 ao 22 (.faddr 1 (.t 7)),
 ao 23 (.load (some 4) (.t 22)),
 ao 24 (.callv (.t 21) [(.t 23)]),
 ao 20 (.mv (.t 24)),
 ao 25 (.ext (.t 20) 0),
 ao 26 (.ext (.t 20) 1),
 ao 8 (.alloc [(i64 0),(i64 0)]),
 ⟨none, .store 2 (.t 8) (.t 25),none,[],[]⟩,
 ao 9 (.mv (.t 26))] [1,4,5,6,8,13,14,15]) (.seq (.seq (.region false [
 ao 27 (.mv (.t 6)),
 ao 28 (.bin .eql (.t 27) (.c (i64 0)))] [1,4,5,8,13,14,15,28]) (.cond (.t 28) (.region false [
 ao 29 (.load (some 2) (.t 8)),
 ⟨none, .store 2 (.t 5) (.t 29),none,[],[]⟩] [1,4,5,8,13,14,15]) (.skip))) (.region false [
 ao 30 (.faddr 0 (.t 5)),
 ao 31 (.load none (.t 30)),
 ao 32 (.faddr 0 (.t 8)),
 ao 33 (.load none (.t 32)),
 ao 34 (.mm false (.t 31) (.t 33)),
 ao 35 (.faddr 1 (.t 5)),
 ao 36 (.load none (.t 35)),
 ao 37 (.faddr 1 (.t 8)),
 ao 38 (.load none (.t 37)),
 ao 39 (.mm true (.t 36) (.t 38)),
 ao 40 (.build [(i64 0),(i64 0)] [(0,1,(.t 34)),(1,1,(.t 39))]),
 ⟨none, .store 2 (.t 5) (.t 40),none,[],[]⟩] [1,4,5,13,14,15]))))) (.region false [
 ao 41 (.bin .add (.t 15) (.c (i64 1))),
 ao 15 (.mv (.t 41))] [1,4,5,13,14,15])))
def b100l0:AC:= .loop [1,4,5,13,14,15] [64,80] d100l0
def b100:AC:=
 .seq (.region false [
 ao 4 (.alloc [(i64 0),(i64 0)])] [0,1,4]) (.seq (.region false [
 ao 5 (.alloc [(i64 0),(i64 0)])] [0,1,4,5]) (.seq (.seq (.region false [
 ao 10 (.mv (.t 0)),
 ao 11 (.nilck (.t 10)),
 ao 12 (.faddr 7 (.t 11)),
 ao 13 (.load none (.t 12)),
 ao 14 (.len (.t 13)),
 ao 15 (.mv (.c (i64 0)))] [1,4,5,13,14,15]) (.block 0 (b100l0))) (.seq (.region false [
 ao 42 (.load (some 2) (.t 5)),
 ⟨none, .store 2 (.t 4) (.t 42),none,[],[]⟩] [4]) (.ret))))
def a100:AFn:=⟨2,[.cell 4 (some 2)],b100,false⟩
def n100:Ann:=⟨[[0,1,4],[0,1,4,5],[1,4,5,13,14,15],[1,4,5,13,14,15,16],[1,4,5,6,7,13,14,15],[1,4,5,6,8,13,14,15],[1,4,5,8,13,14,15,28],[1,4,5,8,13,14,15],[1,4,5,13,14,15],[1,4,5,13,14,15],[4]],[⟨[],[1,4,5,13,14,15],[64,80]⟩],[],[],[],false,[]⟩
def b101:AC:=
 .seq (.region false [
 ao 3 (.box (.t 0)),
 ao 4 (.alloc [(i64 0),(i64 0)]),
 ao 5 (.mv (.c (i64 0)))] [1,2,3,4]) (.seq (.region false [
 ao 6 (.load (some 4) (.t 3)),
 ao 7 (.load none (.t 1)),
 ao 8 (.load none (.t 2)),
 ao 9 (.call 102 [(.t 6),(.t 7),(.t 8)]),
 ao 10 (.ext (.t 9) 0),
 ao 11 (.ext (.t 9) 1),
 ⟨none, .store 2 (.t 4) (.t 10),none,[],[]⟩,
 ao 5 (.mv (.t 11))] [4,5]) (.ret))
def a101:AFn:=⟨3,[.cell 4 (some 2), .t 5],b101,false⟩
def n101:Ann:=⟨[[1,2,3,4],[4,5]],[],[],[],[],false,[(5,144),(11,144),(10,144)]⟩
def b102:AC:=
 .seq (.region false [
 ao 3 (.box (.t 0)),
 ao 6 (.alloc [(i64 0),(i64 0)]),
 ao 7 (.mv (.c (i64 0)))] [1,2,3,6]) (.seq (.region true (spl [
 ao 11 (.load (some 4) (.t 3)),
 ao 12 (.load (some 4) (.t 3)),
 ao 13 (.mv (.t 1)),
 ao 14 (.mv (.t 2)),
 ap 15 (.call 143 [(.t 12),(.t 13),(.t 14)]) [1,2,3],
 ap 16 (.call 114 [(.t 11),(.t 15)]) [0,4,1,2,3],
 ap 10 (.mv (.t 16)) [5,0,4,1,2,3],
 ap 17 (.ext (.t 10) 0) [6,5,0,4,1,2,3],
 ap 18 (.ext (.t 10) 1) [6,5,0,4,1,2,3],
 ap 8 (.mv (.t 17)) [7,6,5,0,4,1,2,3]] [
 ap 9 (.mv (.t 18)) [8,9,7,6,5,0,4,1,2,3]]) [1,2,6,8,9]) (.seq (.seq (.region false [
 ao 19 (.mv (.t 9)),
 ao 20 (.bin .neq (.t 19) (.c (i64 0)))] [1,2,6,8,9,20]) (.cond (.t 20) (.seq (.region false [
 ao 21 (.build [(i64 0),(i64 0)] []),
 ao 22 (.mv (.t 9)),
 ⟨none, .store 2 (.t 6) (.t 21),none,[],[]⟩,
 ao 7 (.mv (.t 22))] [6,7]) (.ret)) (.skip))) (.seq (.region false [
 ao 23 (.mv (.t 8)),
 ao 24 (.mv (.t 1)),
 ao 25 (.mv (.t 2)),
 ao 26 (.call 127 [(.t 23),(.t 24),(.t 25)]),
 ⟨none, .store 2 (.t 6) (.t 26),none,[],[]⟩,
 ao 7 (.mv (.c (i64 0)))] [6,7]) (.ret))))
def a102:AFn:=⟨3,[.cell 6 (some 2), .t 7],b102,false⟩
def n102:Ann:=⟨[[1,2,3,6],[1,2,6,8,9],[1,2,6,8,9,20],[6,7],[6,7]],[],[],[],[],false,[(23,256),(7,256),(22,256),(19,256),(9,256),(8,256),(18,256),(17,256),(10,256)]⟩
def b103:AC:=
 .seq (.region false [
 ao 2 (.box (.t 0)),
 ao 4 (.mv (.c (.bool false)))] [1,2]) (.seq (.region false [
 ao 5 (.mv (.t 1)),
 ao 6 (.faddr 0 (.t 2)),
 ao 7 (.load none (.t 6)),
 ao 8 (.bin .sub (.t 7) (.c (i64 1))),
 ao 9 (.call 47 [(.t 5),(.c (i64 0)),(.t 8)]),
 ao 4 (.mv (.t 9))] [4]) (.ret))
def a103:AFn:=⟨2,[.t 4],b103,false⟩
def n103:Ann:=⟨[[1,2],[4]],[],[],[],[],false,[(4,144)]⟩
def b106:AC:=
 .seq (.region false [
 ao 3 (.box (.t 0)),
 ao 4 (.alloc [(i64 0),(i64 0)]),
 ao 5 (.mv (.c (i64 0)))] [1,2,3,4]) (.seq (.region false [
 ao 6 (.load (some 4) (.t 3)),
 ao 7 (.load none (.t 1)),
 ao 8 (.load none (.t 2)),
 ao 9 (.call 107 [(.t 6),(.t 7),(.t 8)]),
 ao 10 (.ext (.t 9) 0),
 ao 11 (.ext (.t 9) 1),
 ⟨none, .store 2 (.t 4) (.t 10),none,[],[]⟩,
 ao 5 (.mv (.t 11))] [4,5]) (.ret))
def a106:AFn:=⟨3,[.cell 4 (some 2), .t 5],b106,false⟩
def n106:Ann:=⟨[[1,2,3,4],[4,5]],[],[],[],[],false,[(5,144),(11,144),(10,144)]⟩
def b107:AC:=
 .seq (.region false [
 ao 3 (.box (.t 0)),
 ao 6 (.alloc [(i64 0),(i64 0)]),
 ao 7 (.mv (.c (i64 0)))] [1,2,3,6]) (.seq (.region true (spl [
 ao 11 (.load (some 4) (.t 3)),
 ao 12 (.mv (.t 1)),
 ao 13 (.mv (.t 2)),
 ap 14 (.call 139 [(.t 12),(.c (i64 0)),(.t 13)]) [1,2],
 ap 15 (.mv (.t 14)) [3,1,2],
 ag 16 (.mv (.t 2)) 15 true [4,3,1,2],
 ag 17 (.faddr 1 (.t 3)) 15 true [4,3,1,2],
 ag 18 (.load none (.t 17)) 15 true [6,4,3,1,2],
 ag 19 (.bin .lss (.t 16) (.t 18)) 15 true [5,7,6,4,3,1,2],
 ap 20 (.pick (.t 15) (.t 19) (.c (.bool false))) [8,5,7,6,4,3,1,2],
 ap 21 (.call 114 [(.t 11),(.t 20)]) [0,9,8,5,7,6,4,3,1,2],
 ap 10 (.mv (.t 21)) [10,0,9,8,5,7,6,4,3,1,2],
 ap 22 (.ext (.t 10) 0) [11,10,0,9,8,5,7,6,4,3,1,2],
 ap 23 (.ext (.t 10) 1) [11,10,0,9,8,5,7,6,4,3,1,2],
 ap 8 (.mv (.t 22)) [12,11,10,0,9,8,5,7,6,4,3,1,2]] [
 ap 9 (.mv (.t 23)) [13,14,12,11,10,0,9,8,5,7,6,4,3,1,2]]) [1,2,6,8,9]) (.seq (.seq (.region false [
 ao 24 (.mv (.t 9)),
 ao 25 (.bin .neq (.t 24) (.c (i64 0)))] [1,2,6,8,9,25]) (.cond (.t 25) (.seq (.region false [
 ao 26 (.build [(i64 0),(i64 0)] []),
 ao 27 (.mv (.t 9)),
 ⟨none, .store 2 (.t 6) (.t 26),none,[],[]⟩,
 ao 7 (.mv (.t 27))] [6,7]) (.ret)) (.skip))) (.seq (.region true (spl [
 ao 28 (.mv (.t 8)),
 ap 29 (.nilck (.t 28)) [0],
 ap 30 (.faddr 4 (.t 29)) [1,0],
 ao 31 (.mv (.t 8)),
 ao 32 (.mv (.t 1)),
 ap 33 (.call 116 [(.t 31),(.t 32),(.c (i64 0))]) [3,4],
 ao 34 (.mv (.t 8)),
 ao 35 (.mv (.t 2)),
 ap 36 (.call 116 [(.t 34),(.t 35),(.c (i64 0))]) [6,7,5,3,4]] [
 ap 37 (.call 115 [(.t 30),(.t 33),(.t 36)]) [2,8,1,0,6,7,5,3,4],
 ⟨none, .store 2 (.t 6) (.t 37),none,[9,2,8,1,0,6,7,5,3,4],[]⟩,
 ap 7 (.mv (.c (i64 0))) [10,9,2,8,1,0,6,7,5,3,4]]) [6,7]) (.ret))))
def a107:AFn:=⟨3,[.cell 6 (some 2), .t 7],b107,false⟩
def n107:Ann:=⟨[[1,2,3,6],[1,2,6,8,9],[1,2,6,8,9,25],[6,7],[6,7]],[],[],[],[],false,[(34,336),(31,336),(28,336),(7,336),(27,336),(24,336),(9,336),(8,336),(23,336),(22,336),(10,336),(15,224)]⟩
def b109:AC:=
 .seq (.region false [
 ao 2 (.box (.t 0)),
 ao 3 (.box (.t 1)),
 ao 4 (.mv (.c (.bool false)))] [2,3]) (.seq (.region false [
 ao 5 (.faddr 0 (.t 3)),
 ao 6 (.load none (.t 5)),
 ao 7 (.faddr 0 (.t 2)),
 ao 8 (.load none (.t 7)),
 ao 9 (.bin .leq (.t 6) (.t 8)),
 ao 10 (.mv (.t 9)),
 ag 11 (.faddr 0 (.t 2)) 10 true [],
 ag 12 (.load none (.t 11)) 10 true [],
 ag 13 (.faddr 1 (.t 2)) 10 true [],
 ag 14 (.load none (.t 13)) 10 true [],
 ag 15 (.bin .leq (.t 12) (.t 14)) 10 true [],
 ao 16 (.pick (.t 10) (.t 15) (.c (.bool false))),
 ao 17 (.mv (.t 16)),
 ag 18 (.faddr 1 (.t 2)) 17 true [],
 ag 19 (.load none (.t 18)) 17 true [],
 ag 20 (.faddr 1 (.t 3)) 17 true [],
 ag 21 (.load none (.t 20)) 17 true [],
 ag 22 (.bin .leq (.t 19) (.t 21)) 17 true [],
 ao 23 (.pick (.t 17) (.t 22) (.c (.bool false))),
 ao 4 (.mv (.t 23))] [4]) (.ret))
def a109:AFn:=⟨2,[.t 4],b109,false⟩
def n109:Ann:=⟨[[2,3],[4]],[],[],[],[],false,[]⟩
def b111:AC:=
 .seq (.region false [
 ao 2 (.box (.t 0)),
 ao 4 (.mv (.c (.bool false)))] [1,2]) (.seq (.region false [
 ao 5 (.mv (.t 1)),
 ao 6 (.faddr 1 (.t 2)),
 ao 7 (.load none (.t 6)),
 ao 8 (.bin .sub (.t 7) (.c (i64 1))),
 ao 9 (.call 47 [(.t 5),(.c (i64 0)),(.t 8)]),
 ao 4 (.mv (.t 9))] [4]) (.ret))
def a111:AFn:=⟨2,[.t 4],b111,false⟩
def n111:Ann:=⟨[[1,2],[4]],[],[],[],[],false,[(4,144)]⟩
def b114:AC:=
 .seq (.region false [
 ao 2 (.box (.t 0)),
 ao 4 (.mv (.c .nilp)),
 ao 5 (.mv (.c (i64 0)))] [1,2]) (.seq (.seq (.region false [
 ao 8 (.load (some 4) (.t 2)),
 ao 9 (.mv (.t 1)),
 ao 10 (.call 146 [(.t 8),(.t 9)]),
 ao 6 (.mv (.t 10))] [2,6]) (.seq (.region false [
 ao 11 (.mv (.t 6)),
 ao 12 (.bin .neq (.t 11) (.c (i64 0)))] [2,6,12]) (.cond (.t 12) (.seq (.region false [
 ao 13 (.mv (.t 6)),
 ao 4 (.mv (.c .nilp)),
 ao 5 (.mv (.t 13))] [4,5]) (.ret)) (.skip)))) (.seq (.region false [
 ao 14 (.load (some 4) (.t 2)),
 ao 15 (.call 147 [(.t 14),(.c (i64 (-1)))]),
 ao 7 (.mv (.t 15))] [7]) (.seq (.seq (.region false [
 ao 16 (.mv (.t 7)),
 ao 17 (.nilck (.t 16)),
 ao 18 (.faddr 4 (.t 17)),
 ao 19 (.call 148 [(.t 18)])] [7,19]) (.cond (.t 19) (.seq (.region false [
 ao 4 (.mv (.c .nilp)),
 ao 5 (.mv (.c (i64 3)))] [4,5]) (.ret)) (.skip))) (.seq (.region false [
 ao 20 (.mv (.t 7)),
 ao 4 (.mv (.t 20)),
 ao 5 (.mv (.c (i64 0)))] [4,5]) (.ret)))))
def a114:AFn:=⟨2,[.t 4, .t 5],b114,false⟩
def n114:Ann:=⟨[[1,2],[2,6],[2,6,12],[4,5],[7],[7,19],[4,5],[4,5]],[],[],[],[],false,[(4,240),(20,240),(16,240),(7,240),(5,160),(13,160),(11,160),(6,160)]⟩
def b115:AC:=
 .seq (.region false [
 ao 6 (.alloc [(i64 0),(i64 0)])] [0,1,2,6]) (.seq (.region true (spl [
 ao 7 (.mv (.t 0)),
 ao 8 (.mv (.t 2)),
 ao 9 (.mv (.t 1)),
 ap 10 (.nilck (.t 7)) [0],
 ap 11 (.idxa 21 21 (.t 10) (.t 8)) [3,1,0],
 ap 12 (.idxa 21 1 (.t 11) (.t 9)) [4,2,3,1,0],
 ap 13 (.load none (.t 12)) [5,4,2,3,1,0],
 ap 14 (.un .neg (.t 13)) [6,5,4,2,3,1,0],
 ao 15 (.mv (.t 0)),
 ao 16 (.mv (.t 1)),
 ao 17 (.mv (.t 2)),
 ap 18 (.nilck (.t 15)) [8],
 ap 19 (.idxa 21 21 (.t 18) (.t 16)) [11,9,8],
 ap 20 (.idxa 21 1 (.t 19) (.t 17)) [12,10,11,9,8],
 ap 21 (.load none (.t 20)) [13,12,10,11,9,8]] [
 ap 22 (.build [(i64 0),(i64 0)] [(0,1,(.t 14)),(1,1,(.t 21))]) [7,14,6,5,4,2,3,1,0,13,12,10,11,9,8],
 ⟨none, .store 2 (.t 6) (.t 22),none,[15,7,14,6,5,4,2,3,1,0,13,12,10,11,9,8],[]⟩]) [6]) (.ret))
def a115:AFn:=⟨3,[.cell 6 (some 2)],b115,false⟩
def n115:Ann:=⟨[[0,1,2,6],[6]],[],[],[],[],false,[]⟩
def b116:AC:=
 .seq (.region false [
 ao 6 (.mv (.c (i64 0)))] [0,1,2]) (.seq (.seq (.region false [
 ao 7 (.mv (.t 2)),
 ao 8 (.mv (.t 0)),
 ao 9 (.nilck (.t 8)),
 ao 10 (.faddr 0 (.t 9)),
 ao 11 (.faddr 0 (.t 10)),
 ao 12 (.load none (.t 11)),
 ao 13 (.bin .eql (.t 7) (.t 12))] [0,1,2,13]) (.cond (.t 13) (.seq (.region false [
 ao 6 (.mv (.c (i64 0)))] [6]) (.ret)) (.skip))) (.seq (.region false [
 ao 14 (.mv (.t 1)),
 ao 15 (.mv (.t 0)),
 ao 16 (.nilck (.t 15)),
 ao 17 (.faddr 0 (.t 16)),
 ao 18 (.faddr 0 (.t 17)),
 ao 19 (.load none (.t 18)),
 ao 20 (.bin .mul (.t 14) (.t 19)),
 ao 21 (.bin .add (.c (i64 1)) (.t 20)),
 ao 22 (.mv (.t 2)),
 ao 23 (.bin .add (.t 21) (.t 22)),
 ao 6 (.mv (.t 23))] [6]) (.ret)))
def a116:AFn:=⟨3,[.t 6],b116,false⟩
def n116:Ann:=⟨[[0,1,2],[0,1,2,13],[6],[6]],[],[],[],[],false,[]⟩
def b117:AC:=
 .seq (.region false [
 ao 8 (.alloc [(i64 0),(i64 0),(i64 0),(i64 0)])] [0,1,2,3,8]) (.seq (.region false [
 ao 9 (.mv (.t 0)),
 ao 10 (.mv (.t 1)),
 ao 11 (.mv (.t 2)),
 ao 12 (.mv (.t 3)),
 ao 13 (.build [(i64 0),(i64 0),(i64 0),(i64 0)] [(0,1,(.t 9)),(1,1,(.t 10)),(2,1,(.t 11)),(3,1,(.t 12))]),
 ⟨none, .store 4 (.t 8) (.t 13),none,[],[]⟩] [8]) (.ret))
def a117:AFn:=⟨4,[.cell 8 (some 4)],b117,false⟩
def n117:Ann:=⟨[[0,1,2,3,8],[8]],[],[],[],[],false,[]⟩
def b119:AC:=
 .seq (.region false [
 ao 4 (.mv (.c (.bool false)))] [0,1]) (.seq (.region false [
 ao 5 (.mv (.t 0)),
 ao 6 (.mv (.t 1)),
 ao 7 (.bin .shr (.t 5) (.t 6)),
 ao 8 (.bin .and (.t 7) (.c (.int .u64 1))),
 ao 9 (.bin .eql (.t 8) (.c (.int .u64 1))),
 ao 4 (.mv (.t 9))] [4]) (.ret))
def a119:AFn:=⟨2,[.t 4],b119,false⟩
def n119:Ann:=⟨[[0,1],[4]],[],[],[],[],false,[]⟩
@[simp] def d120l0:AC:=
 .seq (.region false [
 ao 22 (.bin .lss (.t 21) (.t 20))] [3,6,11,19,20,21,22]) (.seq (.cond (.t 22) (.skip) (.exit 0)) (.seq (.block 1 (.seq (.region false [
 ao 23 (.idxs 1 (.t 19) (.t 21)),
 ao 24 (.load none (.t 23)),
 ao 13 (.mv (.t 24))] [3,6,11,13,19,20,21]) (.region false [
 ao 25 (.mv (.t 11)),
 ao 26 (.load none (.t 3)),
 ao 27 (.nilck (.t 26)),
 ao 28 (.faddr 0 (.t 27)),
 ao 29 (.faddr 0 (.t 28)),
 ao 30 (.faddr 3 (.t 29)),
 ao 31 (.load none (.t 30)),
 ao 32 (.mv (.t 13)),
 ao 33 (.idxs 4 (.t 31) (.t 32)),
 ao 34 (.faddr 0 (.t 33)),
 ao 35 (.load none (.t 34)),
 ao 36 (.bin .shl (.c (.int .u64 1)) (.t 35)),
 ao 37 (.bin .or (.t 25) (.t 36)),
 ao 11 (.mv (.t 37))] [3,6,11,19,20,21]))) (.region false [
 ao 38 (.bin .add (.t 21) (.c (i64 1))),
 ao 21 (.mv (.t 38))] [3,6,11,19,20,21])))
def b120l0:AC:= .loop [3,6,11,19,20,21] [96,672,736,752,1056,1072,1152] d120l0
@[simp] def d120l1:AC:=
 .seq (.seq (.region false [
 ao 50 (.mv (.t 14)),
 ao 51 (.mv (.t 2)),
 ao 52 (.bin .add (.t 50) (.t 51)),
 ao 53 (.load none (.t 4)),
 ao 54 (.bin .leq (.t 52) (.t 53))] [2,4,5,6,14,54]) (.cond (.t 54) (.skip) (.exit 2))) (.seq (.block 3 (.seq (.region true (spl [
 ao 58 (.load none (.t 5)),
 ao 59 (.load none (.t 6)),
 ao 60 (.load none (.t 6)),
 ap 61 (.len (.t 60)) [2],
 ao 62 (.load none (.t 6)),
 ap 63 (.len (.t 62)) [4],
 ap 64 (.slice 1 (.t 59) none (some (.t 61)) (some (.t 63))) [1,3,5,2,4],
 ao 65 (.mv (.t 14)),
 ap 66 (.lit [(i64 0)] 1 [(0,(.t 65))]) [7],
 ap 67 (.app 1 8 (.t 64) (.t 66)) [6,8,1,3,5,2,4,7],
 ao 68 (.mv (.t 14)),
 ap 69 (.bin .add (.t 68) (.c (i64 1))) [10],
 ao 70 (.mv (.t 2)),
 ap 71 (.bin .sub (.t 70) (.c (i64 1))) [12],
 ap 72 (.callv (.t 58) [(.t 67),(.t 69),(.t 71)]) [0,11,13,9,10,12,6,8,1,3,5,2,4,7],
 ap 57 (.mv (.t 72)) [14,0,11,13,9,10,12,6,8,1,3,5,2,4,7],
 ap 73 (.ext (.t 57) 0) [15,14,0,11,13,9,10,12,6,8,1,3,5,2,4,7],
 ap 74 (.ext (.t 57) 1) [15,14,0,11,13,9,10,12,6,8,1,3,5,2,4,7],
 ap 15 (.mv (.t 73)) [16,15,14,0,11,13,9,10,12,6,8,1,3,5,2,4,7]] [
 ap 16 (.mv (.t 74)) [17,18,16,15,14,0,11,13,9,10,12,6,8,1,3,5,2,4,7]]) [2,4,5,6,14,15,16]) (.seq (.region false [
 ao 75 (.mv (.t 16))] [2,4,5,6,14,15,75]) (.cond (.t 75) (.seq (.region false [
 ao 76 (.mv (.t 15)),
 ao 9 (.mv (.t 76)),
 ao 10 (.mv (.c (.bool true)))] [9,10]) (.ret)) (.skip))))) (.region false [
 ao 55 (.mv (.t 14)),
 ao 56 (.bin .add (.t 55) (.c (i64 1))),
 ao 14 (.mv (.t 56))] [2,4,5,6,14]))
def b120l1:AC:= .loop [2,4,5,6,14] [96,672,736,752] d120l1
def b120:AC:=
 .seq (.region false [
 ao 6 (.box (.t 0)),
 ao 9 (.mv (.c (.sl .full 1 []))),
 ao 10 (.mv (.c (.bool false)))] [1,2,3,4,5,6]) (.seq (.seq (.region false [
 ao 17 (.mv (.t 2)),
 ao 18 (.bin .eql (.t 17) (.c (i64 0)))] [1,2,3,4,5,6,18]) (.cond (.t 18) (.seq (.region false [
 ao 11 (.mv (.c (.int .u64 0)))] [3,6,11]) (.seq (.seq (.region false [
 ao 19 (.load none (.t 6)),
 ao 20 (.len (.t 19)),
 ao 21 (.mv (.c (i64 0)))] [3,6,11,19,20,21]) (.block 0 (b120l0))) (.seq (.region true (spl [
 ao 39 (.load none (.t 6)),
 ao 40 (.load none (.t 3)),
 ao 41 (.mv (.t 11)),
 ap 42 (.call 121 [(.t 40),(.t 41)]) [1,2],
 ap 43 (.mv (.t 42)) [3,1,2],
 ag 44 (.load none (.t 3)) 43 true [4,3,1,2],
 ag 45 (.mkfn 124 [] [(.t 6)]) 43 true [4,3,1,2],
 ag 46 (.call 123 [(.t 44),(.t 45)]) 43 true [5,6,4,3,1,2],
 ag 47 (.call 122 [(.t 46)]) 43 true [7,5,6,4,3,1,2],
 ap 48 (.pick (.t 43) (.t 47) (.c (.bool false))) [8,7,5,6,4,3,1,2],
 ap 9 (.mv (.t 39)) [8,0,7,5,6,4,3,1,2]] [
 ap 10 (.mv (.t 48)) [9,10,8,0,7,5,6,4,3,1,2]]) [9,10]) (.ret)))) (.skip))) (.seq (.seq (.region false [
 ao 49 (.mv (.t 1)),
 ao 14 (.mv (.t 49))] [2,4,5,6,14]) (.block 2 (b120l1))) (.seq (.region false [
 ao 9 (.mv (.c (.sl .full 1 []))),
 ao 10 (.mv (.c (.bool false)))] [9,10]) (.ret))))
def a120:AFn:=⟨6,[.t 9, .t 10],b120,false⟩
def n120:Ann:=⟨[[1,2,3,4,5,6],[1,2,3,4,5,6,18],[3,6,11],[3,6,11,19,20,21],[3,6,11,19,20,21,22],[3,6,11,13,19,20,21],[3,6,11,19,20,21],[3,6,11,19,20,21],[9,10],[2,4,5,6,14],[2,4,5,6,14,54],[2,4,5,6,14,15,16],[2,4,5,6,14,15,75],[9,10],[2,4,5,6,14],[9,10]],[⟨[],[3,6,11,19,20,21],[96,672,736,752,1056,1072,1152]⟩,⟨[],[2,4,5,6,14],[96,672,736,752]⟩],[],[],[],false,[(43,672)]⟩
def b121:AC:=
 .seq (.region false [
 ao 4 (.mv (.c (.bool false)))] [0,1]) (.seq (.region true (spl [
 ao 5 (.mv (.t 1)),
 ap 6 (.call 150 [(.t 5)]) [0],
 ao 7 (.mv (.t 0)),
 ap 8 (.nilck (.t 7)) [2],
 ap 9 (.faddr 0 (.t 8)) [3,2],
 ap 10 (.faddr 4 (.t 9)) [4,3,2],
 ap 11 (.load none (.t 10)) [5,4,3,2],
 ap 12 (.bin .leq (.t 6) (.t 11)) [1,6,0,5,4,3,2],
 ap 13 (.mv (.t 12)) [7,1,6,5,4,3,2,0],
 ag 14 (.mv (.t 1)) 13 true [8,7,1,6,5,4,3,2,0],
 ag 15 (.call 151 [(.t 14)]) 13 true [9,8,7,1,6,5,4,3,2,0],
 ag 16 (.mv (.t 0)) 13 true [8,7,1,6,5,4,3,2,0],
 ag 17 (.nilck (.t 16)) 13 true [11,8,7,1,6,5,4,3,2,0],
 ag 18 (.faddr 0 (.t 17)) 13 true [12,11,8,7,1,6,5,4,3,2,0],
 ag 19 (.faddr 5 (.t 18)) 13 true [13,12,11,8,7,1,6,5,4,3,2,0],
 ag 20 (.load none (.t 19)) 13 true [14,13,12,11,8,7,1,6,5,4,3,2,0],
 ag 21 (.bin .leq (.t 15) (.t 20)) 13 true [10,15,9,14,13,12,11,8,7,1,6,5,4,3,2,0],
 ap 22 (.pick (.t 13) (.t 21) (.c (.bool false))) [16,10,15,9,14,13,12,11,8,7,1,6,5,4,3,2,0],
 ap 23 (.mv (.t 22)) [17,16,10,15,14,13,12,11,9,8,7,1,6,5,4,3,2,0],
 ag 24 (.mv (.t 1)) 23 true [18,17,16,10,15,14,13,12,11,9,8,7,1,6,5,4,3,2,0],
 ag 25 (.mv (.t 0)) 23 true [18,17,16,10,15,14,13,12,11,9,8,7,1,6,5,4,3,2,0],
 ag 26 (.nilck (.t 25)) 23 true [20,18,17,16,10,15,14,13,12,11,9,8,7,1,6,5,4,3,2,0],
 ag 27 (.faddr 0 (.t 26)) 23 true [21,20,18,17,16,10,15,14,13,12,11,9,8,7,1,6,5,4,3,2,0],
 ag 28 (.faddr 6 (.t 27)) 23 true [22,21,20,18,17,16,10,15,14,13,12,11,9,8,7,1,6,5,4,3,2,0],
 ag 29 (.load none (.t 28)) 23 true [23,22,21,20,18,17,16,10,15,14,13,12,11,9,8,7,1,6,5,4,3,2,0],
 ag 30 (.call 93 [(.t 29)]) 23 true [24,23,22,21,20,18,17,16,10,15,14,13,12,11,9,8,7,1,6,5,4,3,2,0]] [
 ag 31 (.bin .and (.t 24) (.t 30)) 23 true [19,25,24,23,22,21,20,18,17,16,10,15,14,13,12,11,9,8,7,1,6,5,4,3,2,0],
 ag 32 (.bin .eql (.t 31) (.c (.int .u64 0))) 23 true [26,19,25,24,23,22,21,20,18,17,16,10,15,14,13,12,11,9,8,7,1,6,5,4,3,2,0],
 ap 33 (.pick (.t 23) (.t 32) (.c (.bool false))) [27,26,19,25,24,23,22,21,20,18,17,16,10,15,14,13,12,11,9,8,7,1,6,5,4,3,2,0],
 ap 4 (.mv (.t 33)) [28,27,26,19,25,24,23,22,21,20,18,17,16,10,15,14,13,12,11,9,8,7,1,6,5,4,3,2,0]]) [4]) (.ret))
def a121:AFn:=⟨2,[.t 4],b121,false⟩
def n121:Ann:=⟨[[0,1],[4]],[],[],[],[],false,[]⟩
def b122:AC:=
 .seq (.region false [
 ao 1 (.box (.t 0)),
 ao 2 (.mv (.c (.bool false)))] [1]) (.seq (.region false [
 ao 6 (.load (some 4) (.t 1)),
 ao 7 (.call 69 [(.t 6)]),
 ao 5 (.mv (.t 7)),
 ao 8 (.ext (.t 5) 0),
 ao 9 (.ext (.t 5) 1),
 ao 3 (.mv (.t 8)),
 ao 4 (.mv (.t 9))] [4]) (.seq (.region false [
 ao 10 (.mv (.t 4)),
 ao 11 (.bin .eql (.t 10) (.c (i64 0))),
 ao 2 (.mv (.t 11))] [2]) (.ret)))
def a122:AFn:=⟨1,[.t 2],b122,false⟩
def n122:Ann:=⟨[[1],[4],[2]],[],[],[],[],false,[(10,112),(4,112),(3,112),(9,112),(8,112),(5,112)]⟩
@[simp] def d123l0:AC:=
 .seq (.region false [
 ao 22 (.bin .lss (.t 21) (.t 20))] [1,4,5,19,20,21,22]) (.seq (.cond (.t 22) (.skip) (.exit 0)) (.seq (.block 1 (.seq (.region false [
 ao 23 (.mv (.t 21)),
 ao 24 (.idxs 4 (.t 19) (.t 21)),
 ao 25 (.load (some 4) (.t 24)),
 ao 7 (.alloc [(i64 0),(i64 0),(i64 0),(i64 0)]),
 ao 6 (.mv (.t 23)),
 ⟨none, .store 4 (.t 7) (.t 25),none,[],[]⟩] [1,4,5,6,7,19,20,21]) (.seq (.region false [
 ao 26 (.mv (.t 1)),
 ao 27 (.mv (.t 6)),
 ao 28 (.callv (.t 26) [(.t 27)]),
 ao 29 (.un .not (.t 28))] [1,4,5,7,19,20,21,29]) (.cond (.t 29) (.region false [
 ao 30 (.faddr 3 (.t 5)),
 ao 31 (.load none (.t 30)),
 ao 32 (.load (some 4) (.t 7)),
 ao 33 (.lit [(i64 0),(i64 0),(i64 0),(i64 0)] 1 [(0,(.t 32))]),
 ao 34 (.app 4 32 (.t 31) (.t 33)),
 ao 35 (.faddr 3 (.t 5)),
 ⟨none, .store 1 (.t 35) (.t 34),none,[],[]⟩] [1,4,5,19,20,21]) (.skip))))) (.region false [
 ao 36 (.bin .add (.t 21) (.c (i64 1))),
 ao 21 (.mv (.t 36))] [1,4,5,19,20,21])))
def b123l0:AC:= .loop [1,4,5,19,20,21] [64,80,85] d123l0
def b123:AC:=
 .seq (.region false [
 ao 4 (.alloc [(i64 0),(i64 0),(.sl .full 1 []),(.sl .full 4 [])])] [0,1,4]) (.seq (.region false [
 ao 8 (.mv (.t 0)),
 ao 9 (.nilck (.t 8)),
 ao 10 (.faddr 0 (.t 9)),
 ao 11 (.faddr 0 (.t 10)),
 ao 12 (.load (some 4) (.t 11)),
 ao 5 (.alloc [(i64 0),(i64 0),(.sl .full 1 []),(.sl .full 4 [])]),
 ⟨none, .store 4 (.t 5) (.t 12),none,[],[]⟩] [0,1,4,5]) (.seq (.region false [
 ao 13 (.faddr 3 (.t 5)),
 ⟨none, .store 1 (.t 13) (.c (.sl .full 4 [])),none,[],[]⟩] [0,1,4,5]) (.seq (.seq (.region false [
 ao 14 (.mv (.t 0)),
 ao 15 (.nilck (.t 14)),
 ao 16 (.faddr 0 (.t 15)),
 ao 17 (.faddr 0 (.t 16)),
 ao 18 (.faddr 3 (.t 17)),
 ao 19 (.load none (.t 18)),
 ao 20 (.len (.t 19)),
 ao 21 (.mv (.c (i64 0)))] [1,4,5,19,20,21]) (.block 0 (.seq (.thawc 5 3 85 4) (b123l0)))) (.seq (.region false [
 ao 37 (.load (some 4) (.t 5)),
 ⟨none, .store 4 (.t 4) (.t 37),none,[],[]⟩] [4]) (.ret)))))
def a123:AFn:=⟨2,[.cell 4 (some 4)],b123,false⟩
def n123:Ann:=⟨[[0,1,4],[0,1,4,5],[0,1,4,5],[1,4,5,19,20,21],[1,4,5,19,20,21,22],[1,4,5,6,7,19,20,21],[1,4,5,7,19,20,21,29],[1,4,5,19,20,21],[1,4,5,19,20,21],[4]],[⟨[.c 5 3 85 4],[1,4,5,19,20,21],[64,80,85]⟩],[],[],[],false,[]⟩
def b124:AC:=
 .seq (.region false [
 ao 3 (.mv (.c (.bool false)))] [0,1]) (.seq (.region false [
 ao 4 (.load none (.t 1)),
 ao 5 (.mv (.t 0)),
 ao 6 (.call 125 [(.t 4),(.t 5)]),
 ao 3 (.mv (.t 6))] [3]) (.ret))
def a124:AFn:=⟨2,[.t 3],b124,false⟩
def n124:Ann:=⟨[[0,1],[3]],[],[],[],[],false,[(3,96)]⟩
def b125:AC:=
 .seq (.region false [
 ao 4 (.mv (.c (.bool false)))] [0,1]) (.seq (.region false [
 ao 5 (.mv (.t 0)),
 ao 6 (.mv (.t 1)),
 ao 7 (.call 152 [(.t 5),(.t 6)]),
 ao 8 (.bin .geq (.t 7) (.c (i64 0))),
 ao 4 (.mv (.t 8))] [4]) (.ret))
def a125:AFn:=⟨2,[.t 4],b125,false⟩
def n125:Ann:=⟨[[0,1],[4]],[],[],[],[],false,[]⟩
def b126:AC:=
 .seq (.region false [
 ao 2 (.box (.t 0)),
 ao 3 (.box (.t 1)),
 ao 4 (.mv (.c (.bool false)))] [2,3]) (.seq (.region false [
 ao 5 (.load (some 4) (.t 2)),
 ao 6 (.faddr 0 (.t 3)),
 ao 7 (.load none (.t 6)),
 ao 8 (.faddr 1 (.t 3)),
 ao 9 (.load none (.t 8)),
 ao 10 (.call 143 [(.t 5),(.t 7),(.t 9)]),
 ao 11 (.mv (.t 10)),
 ag 12 (.faddr 2 (.t 3)) 11 true [],
 ag 13 (.load none (.t 12)) 11 true [],
 ag 14 (.faddr 3 (.t 3)) 11 true [],
 ag 15 (.load none (.t 14)) 11 true [],
 ag 16 (.call 139 [(.t 13),(.c (i64 0)),(.t 15)]) 11 true [],
 ao 17 (.pick (.t 11) (.t 16) (.c (.bool false))),
 ao 18 (.mv (.t 17)),
 ag 19 (.faddr 3 (.t 3)) 18 true [],
 ag 20 (.load none (.t 19)) 18 true [],
 ag 21 (.bin .leq (.t 20) (.c (i64 40))) 18 true [],
 ao 22 (.pick (.t 18) (.t 21) (.c (.bool false))),
 ao 4 (.mv (.t 22))] [4]) (.ret))
def a126:AFn:=⟨2,[.t 4],b126,false⟩
def n126:Ann:=⟨[[2,3],[4]],[],[],[],[],false,[(11,160)]⟩
def b127:AC:=
 .seq (.region false [
 ao 6 (.alloc [(i64 0),(i64 0)])] [0,1,2,6]) (.seq (.region true (spl [
 ao 7 (.mv (.t 0)),
 ap 8 (.nilck (.t 7)) [0],
 ap 9 (.faddr 4 (.t 8)) [1,0],
 ao 10 (.mv (.t 0)),
 ao 11 (.mv (.t 1)),
 ao 12 (.mv (.t 2)),
 ap 13 (.bin .add (.t 12) (.c (i64 1))) [5],
 ap 14 (.call 116 [(.t 10),(.t 11),(.t 13)]) [3,4,6,5],
 ao 15 (.mv (.t 0)),
 ao 16 (.mv (.t 1)),
 ao 17 (.mv (.t 2)),
 ap 18 (.call 116 [(.t 15),(.t 16),(.t 17)]) [8,9,10,7,3,4,6,5]] [
 ap 19 (.call 115 [(.t 9),(.t 14),(.t 18)]) [2,11,1,0,8,9,10,7,3,4,6,5],
 ⟨none, .store 2 (.t 6) (.t 19),none,[12,2,11,1,0,8,9,10,7,3,4,6,5],[]⟩]) [6]) (.ret))
def a127:AFn:=⟨3,[.cell 6 (some 2)],b127,false⟩
def n127:Ann:=⟨[[0,1,2,6],[6]],[],[],[],[],false,[]⟩
def b130:AC:=
 .seq (.region false [
 ao 2 (.box (.t 0)),
 ao 3 (.box (.t 1)),
 ao 4 (.mv (.c (.bool false)))] [2,3]) (.seq (.region false [
 ao 5 (.load (some 4) (.t 2)),
 ao 6 (.faddr 0 (.t 3)),
 ao 7 (.load none (.t 6)),
 ao 8 (.call 111 [(.t 5),(.t 7)]),
 ao 9 (.mv (.t 8)),
 ag 10 (.load (some 4) (.t 2)) 9 true [],
 ag 11 (.faddr 1 (.t 3)) 9 true [],
 ag 12 (.load none (.t 11)) 9 true [],
 ag 13 (.call 103 [(.t 10),(.t 12)]) 9 true [],
 ao 14 (.pick (.t 9) (.t 13) (.c (.bool false))),
 ao 15 (.mv (.t 14)),
 ag 16 (.faddr 3 (.t 3)) 15 true [],
 ag 17 (.load none (.t 16)) 15 true [],
 ag 18 (.call 47 [(.t 17),(.c (i64 0)),(.c (i64 40))]) 15 true [],
 ao 19 (.pick (.t 15) (.t 18) (.c (.bool false))),
 ao 20 (.mv (.t 19)),
 ag 21 (.faddr 2 (.t 3)) 20 true [],
 ag 22 (.load none (.t 21)) 20 true [],
 ag 23 (.faddr 3 (.t 3)) 20 true [],
 ag 24 (.load none (.t 23)) 20 true [],
 ag 25 (.call 47 [(.t 22),(.c (i64 0)),(.t 24)]) 20 true [],
 ao 26 (.pick (.t 20) (.t 25) (.c (.bool false))),
 ao 4 (.mv (.t 26))] [4]) (.ret))
def a130:AFn:=⟨2,[.t 4],b130,false⟩
def n130:Ann:=⟨[[2,3],[4]],[],[],[],[],false,[(9,128)]⟩
@[simp] def d132l0:AC:=
 .seq (.seq (.region false [
 ao 7 (.mv (.t 3)),
 ao 8 (.mv (.t 0)),
 ao 9 (.len (.t 8)),
 ao 10 (.bin .lss (.t 7) (.t 9))] [0,3,10]) (.cond (.t 10) (.skip) (.exit 0))) (.seq (.block 1 (.seq (.region false [
 ao 13 (.mv (.t 0)),
 ao 14 (.mv (.t 3)),
 ao 15 (.idxs 1 (.t 13) (.t 14)),
 ao 16 (.load none (.t 15)),
 ao 17 (.len (.t 16)),
 ao 18 (.bin .gtr (.t 17) (.c (i64 40)))] [0,3,18]) (.cond (.t 18) (.seq (.region false [
 ao 2 (.mv (.c (.bool true)))] [2]) (.ret)) (.skip)))) (.region false [
 ao 11 (.mv (.t 3)),
 ao 12 (.bin .add (.t 11) (.c (i64 1))),
 ao 3 (.mv (.t 12))] [0,3]))
def b132l0:AC:= .loop [0,3] [] d132l0
def b132:AC:=
 .seq (.region false [
 ao 2 (.mv (.c (.bool false)))] [0]) (.seq (.seq (.region false [
 ao 4 (.mv (.t 0)),
 ao 5 (.len (.t 4)),
 ao 6 (.bin .gtr (.t 5) (.c (i64 40)))] [0,6]) (.cond (.t 6) (.seq (.region false [
 ao 2 (.mv (.c (.bool true)))] [2]) (.ret)) (.skip))) (.seq (.seq (.region false [
 ao 3 (.mv (.c (i64 0)))] [0,3]) (.block 0 (b132l0))) (.seq (.region false [
 ao 2 (.mv (.c (.bool false)))] [2]) (.ret))))
def a132:AFn:=⟨1,[.t 2],b132,false⟩
def n132:Ann:=⟨[[0],[0,6],[2],[0,3],[0,3,10],[0,3,18],[2],[0,3],[2]],[⟨[],[0,3],[]⟩],[],[],[],false,[]⟩
def b133:AC:=
 .seq (.region false [
 ao 4 (.mv (.c (.bool false)))] [0,1,2]) (.seq (.region true (spl [
 ao 5 (.load none (.t 1)),
 ao 6 (.faddr 0 (.t 2)),
 ap 7 (.faddr 3 (.t 6)) [1],
 ap 8 (.load none (.t 7)) [2,1],
 ao 9 (.mv (.t 0)),
 ap 10 (.idxs 4 (.t 8) (.t 9)) [3,4,2,1],
 ap 11 (.faddr 0 (.t 10)) [5,3,4,2,1],
 ap 12 (.load none (.t 11)) [6,5,3,4,2,1]] [
 ap 13 (.call 119 [(.t 5),(.t 12)]) [0,7,6,5,3,4,2,1],
 ap 4 (.mv (.t 13)) [8,0,7,6,5,3,4,2,1]]) [4]) (.ret))
def a133:AFn:=⟨3,[.t 4],b133,false⟩
def n133:Ann:=⟨[[0,1,2],[4]],[],[],[],[],false,[(4,208)]⟩
def b134:AC:=
 .seq (.region false [
 ao 5 (.mv (.t 0)),
 ao 6 (.len (.t 5)),
 ao 4 (.mv (.t 6))] [0,1,4]) (.region false [
 ao 7 (.mv (.t 0)),
 ao 8 (.mv (.t 4)),
 ao 9 (.mv (.t 4)),
 ao 10 (.conv .u64 (.t 9)),
 ao 11 (.call 155 [(.t 10)]),
 ao 12 (.mv (.t 1)),
 ao 13 (.call 154 [(.t 7),(.c (i64 0)),(.t 8),(.t 11),(.t 12)])] [])
def a134:AFn:=⟨2,[],b134,false⟩
def n134:Ann:=⟨[[0,1,4],[]],[],[],[],[],false,[]⟩
def b135:AC:=
 .seq (.region false [
 ao 2 (.box (.t 0)),
 ao 3 (.box (.t 1)),
 ao 4 (.mv (.c (i64 0)))] [2,3]) (.seq (.region true (spl [
 ao 7 (.faddr 0 (.t 2)),
 ap 8 (.load none (.t 7)) [0],
 ap 9 (.call 77 [(.t 8)]) [1,0],
 ao 10 (.faddr 0 (.t 3)),
 ap 11 (.load none (.t 10)) [3]] [
 ap 12 (.call 77 [(.t 11)]) [4,2,3,1,0],
 ap 5 (.mv (.t 9)) [5,4,2,3,1,0],
 ap 6 (.mv (.t 12)) [6,5,4,2,3,1,0]]) [5,6]) (.seq (.region false [
 ao 13 (.mv (.t 5)),
 ao 14 (.len (.t 13)),
 ao 15 (.mv (.t 6)),
 ao 16 (.len (.t 15)),
 ao 17 (.bin .sub (.t 14) (.t 16)),
 ao 18 (.mv (.t 5)),
 ao 19 (.mv (.t 6)),
 ao 20 (.call 137 [(.t 18),(.t 19)]),
 ao 21 (.lit [(i64 0)] 2 [(0,(.t 17)),(1,(.t 20))]),
 ao 22 (.call 136 [(.t 21)]),
 ao 4 (.mv (.t 22))] [4]) (.ret)))
def a135:AFn:=⟨2,[.t 4],b135,false⟩
def n135:Ann:=⟨[[2,3],[5,6],[4]],[],[],[],[],false,[(4,352),(19,192),(18,144),(15,192),(13,144),(6,192),(5,144)]⟩
@[simp] def d136l0:AC:=
 .seq (.region false [
 ao 9 (.bin .lss (.t 8) (.t 7))] [3,6,7,8,9]) (.seq (.cond (.t 9) (.skip) (.exit 0)) (.seq (.block 1 (.seq (.region false [
 ao 10 (.idxs 1 (.t 6) (.t 8)),
 ao 11 (.load none (.t 10)),
 ao 5 (.mv (.t 11))] [3,5,6,7,8]) (.seq (.region false [
 ao 12 (.mv (.t 5)),
 ao 13 (.mv (.t 3)),
 ao 14 (.bin .neq (.t 12) (.t 13))] [3,5,6,7,8,14]) (.cond (.t 14) (.seq (.region false [
 ao 15 (.mv (.t 5)),
 ao 2 (.mv (.t 15))] [2]) (.ret)) (.skip))))) (.region false [
 ao 16 (.bin .add (.t 8) (.c (i64 1))),
 ao 8 (.mv (.t 16))] [3,6,7,8])))
def b136l0:AC:= .loop [3,6,7,8] [] d136l0
def b136:AC:=
 .seq (.region false [
 ao 2 (.mv (.c (i64 0)))] [0]) (.seq (.region false [
 ao 3 (.mv (.c (i64 0)))] [0,3]) (.seq (.seq (.region false [
 ao 6 (.mv (.t 0)),
 ao 7 (.len (.t 6)),
 ao 8 (.mv (.c (i64 0)))] [3,6,7,8]) (.block 0 (b136l0))) (.seq (.region false [
 ao 17 (.mv (.t 3)),
 ao 2 (.mv (.t 17))] [2]) (.ret))))
def a136:AFn:=⟨1,[.t 2],b136,false⟩
def n136:Ann:=⟨[[0],[0,3],[3,6,7,8],[3,6,7,8,9],[3,5,6,7,8],[3,5,6,7,8,14],[2],[3,6,7,8],[2]],[⟨[],[3,6,7,8],[]⟩],[],[],[],false,[]⟩
@[simp] def d137l0:AC:=
 .seq (.region false [
 ao 12 (.bin .lss (.t 11) (.t 10))] [0,1,9,10,11,12]) (.seq (.cond (.t 12) (.skip) (.exit 0)) (.seq (.block 1 (.seq (.region false [
 ao 13 (.mv (.t 11)),
 ao 14 (.idxs 1 (.t 9) (.t 11)),
 ao 15 (.load none (.t 14)),
 ao 5 (.mv (.t 13)),
 ao 6 (.mv (.t 15))] [0,1,5,6,9,10,11]) (.seq (.seq (.region false [
 ao 16 (.mv (.t 5)),
 ao 17 (.mv (.t 1)),
 ao 18 (.len (.t 17)),
 ao 19 (.bin .geq (.t 16) (.t 18))] [0,1,5,6,9,10,11,19]) (.cond (.t 19) (.seq (.region false [
 ao 4 (.mv (.c (i64 1)))] [4]) (.ret)) (.skip))) (.seq (.region false [
 ao 20 (.mv (.t 1)),
 ao 21 (.mv (.t 5)),
 ao 22 (.idxs 1 (.t 20) (.t 21)),
 ao 23 (.load none (.t 22)),
 ao 7 (.mv (.t 23))] [0,1,6,7,9,10,11]) (.seq (.region false [
 ao 24 (.mv (.t 6)),
 ao 25 (.mv (.t 7)),
 ao 26 (.call 156 [(.t 24),(.t 25)]),
 ao 8 (.mv (.t 26))] [0,1,8,9,10,11]) (.seq (.region false [
 ao 27 (.mv (.t 8)),
 ao 28 (.bin .neq (.t 27) (.c (i64 0)))] [0,1,8,9,10,11,28]) (.cond (.t 28) (.seq (.region false [
 ao 29 (.mv (.t 8)),
 ao 4 (.mv (.t 29))] [4]) (.ret)) (.skip)))))))) (.region false [
 ao 30 (.bin .add (.t 11) (.c (i64 1))),
 ao 11 (.mv (.t 30))] [0,1,9,10,11])))
def b137l0:AC:= .loop [0,1,9,10,11] [] d137l0
def b137:AC:=
 .seq (.region false [
 ao 4 (.mv (.c (i64 0)))] [0,1]) (.seq (.seq (.region false [
 ao 9 (.mv (.t 0)),
 ao 10 (.len (.t 9)),
 ao 11 (.mv (.c (i64 0)))] [0,1,9,10,11]) (.block 0 (b137l0))) (.seq (.seq (.region false [
 ao 31 (.mv (.t 0)),
 ao 32 (.len (.t 31)),
 ao 33 (.mv (.t 1)),
 ao 34 (.len (.t 33)),
 ao 35 (.bin .lss (.t 32) (.t 34))] [35]) (.cond (.t 35) (.seq (.region false [
 ao 4 (.mv (.c (i64 (-1))))] [4]) (.ret)) (.skip))) (.seq (.region false [
 ao 4 (.mv (.c (i64 0)))] [4]) (.ret))))
def a137:AFn:=⟨2,[.t 4],b137,false⟩
def n137:Ann:=⟨[[0,1],[0,1,9,10,11],[0,1,9,10,11,12],[0,1,5,6,9,10,11],[0,1,5,6,9,10,11,19],[4],[0,1,6,7,9,10,11],[0,1,8,9,10,11],[0,1,8,9,10,11,28],[4],[0,1,9,10,11],[35],[4],[4]],[⟨[],[0,1,9,10,11],[]⟩],[],[],[],false,[(4,416),(29,416),(27,416),(8,416)]⟩
def b139:AC:=
 .seq (.region false [
 ao 6 (.mv (.c (.bool false)))] [0,1,2]) (.seq (.region false [
 ao 7 (.mv (.t 0)),
 ao 8 (.mv (.t 1)),
 ao 9 (.bin .geq (.t 7) (.t 8)),
 ao 10 (.mv (.t 9)),
 ag 11 (.mv (.t 0)) 10 true [],
 ag 12 (.mv (.t 2)) 10 true [],
 ag 13 (.bin .leq (.t 11) (.t 12)) 10 true [],
 ao 14 (.pick (.t 10) (.t 13) (.c (.bool false))),
 ao 6 (.mv (.t 14))] [6]) (.ret))
def a139:AFn:=⟨3,[.t 6],b139,false⟩
def n139:Ann:=⟨[[0,1,2],[6]],[],[],[],[],false,[]⟩
def b140:AC:=
 .seq (.region false [
 ao 4 (.mv (.c (.bool false)))] [0,1]) (.seq (.region false [
 ao 5 (.mv (.t 0)),
 ao 6 (.mv (.t 1)),
 ao 7 (.call 157 [(.t 5),(.t 6)]),
 ao 8 (.bin .geq (.t 7) (.c (i64 0))),
 ao 4 (.mv (.t 8))] [4]) (.ret))
def a140:AFn:=⟨2,[.t 4],b140,false⟩
def n140:Ann:=⟨[[0,1],[4]],[],[],[],[],false,[]⟩
def b141:AC:=
 .seq (.region false [
 ao 2 (.box (.t 0)),
 ao 3 (.mv (.c (.bool false)))] [1,2]) (.seq (.region false [
 ao 4 (.load (some 4) (.t 1)),
 ao 5 (.load (some 4) (.t 2)),
 ao 6 (.call 126 [(.t 4),(.t 5)]),
 ao 7 (.un .not (.t 6)),
 ao 3 (.mv (.t 7))] [3]) (.ret))
def a141:AFn:=⟨2,[.t 3],b141,false⟩
def n141:Ann:=⟨[[1,2],[3]],[],[],[],[],false,[]⟩
def b143:AC:=
 .seq (.region false [
 ao 3 (.box (.t 0)),
 ao 6 (.mv (.c (.bool false)))] [1,2,3]) (.seq (.region false [
 ao 7 (.mv (.t 1)),
 ao 8 (.faddr 1 (.t 3)),
 ao 9 (.load none (.t 8)),
 ao 10 (.bin .sub (.t 9) (.c (i64 1))),
 ao 11 (.call 139 [(.t 7),(.c (i64 0)),(.t 10)]),
 ao 12 (.mv (.t 11)),
 ag 13 (.mv (.t 2)) 12 true [],
 ag 14 (.faddr 0 (.t 3)) 12 true [],
 ag 15 (.load none (.t 14)) 12 true [],
 ag 16 (.bin .sub (.t 15) (.c (i64 1))) 12 true [],
 ag 17 (.call 139 [(.t 13),(.c (i64 0)),(.t 16)]) 12 true [],
 ao 18 (.pick (.t 12) (.t 17) (.c (.bool false))),
 ao 6 (.mv (.t 18))] [6]) (.ret))
def a143:AFn:=⟨3,[.t 6],b143,false⟩
def n143:Ann:=⟨[[1,2,3],[6]],[],[],[],[],false,[(12,176)]⟩
def b146:AC:=
 .seq (.region false [
 ao 2 (.box (.t 0)),
 ao 4 (.mv (.c (i64 0)))] [1,2]) (.seq (.seq (.region false [
 ao 6 (.load (some 4) (.t 2)),
 ao 7 (.call 94 [(.t 6)]),
 ao 5 (.mv (.t 7))] [1,5]) (.seq (.region false [
 ao 8 (.mv (.t 5)),
 ao 9 (.bin .neq (.t 8) (.c (i64 0)))] [1,5,9]) (.cond (.t 9) (.seq (.region false [
 ao 10 (.mv (.t 5)),
 ao 4 (.mv (.t 10))] [4]) (.ret)) (.skip)))) (.seq (.seq (.region false [
 ao 11 (.mv (.t 1)),
 ao 12 (.un .not (.t 11))] [12]) (.cond (.t 12) (.seq (.region false [
 ao 4 (.mv (.c (i64 1)))] [4]) (.ret)) (.skip))) (.seq (.region false [
 ao 4 (.mv (.c (i64 0)))] [4]) (.ret))))
def a146:AFn:=⟨2,[.t 4],b146,false⟩
def n146:Ann:=⟨[[1,2],[1,5],[1,5,9],[4],[12],[4],[4]],[],[],[],[],false,[(4,112),(10,112),(8,112),(5,112)]⟩
@[simp] def d147l1:AC:=
 .seq (.region false [
 ao 21 (.bin .lss (.t 20) (.c (i64 21)))] [1,2,5,6,17,20,21]) (.seq (.cond (.t 21) (.skip) (.exit 2)) (.seq (.block 3 (.seq (.region false [
 ao 22 (.mv (.t 20)),
 ao 7 (.mv (.t 22))] [1,2,5,6,7,17,20]) (.seq (.region false [
 ao 23 (.mv (.t 6)),
 ao 24 (.mv (.t 7)),
 ao 25 (.bin .neq (.t 23) (.t 24))] [1,2,5,6,7,17,20,25]) (.cond (.t 25) (.region false [
 ao 26 (.mv (.t 5)),
 ao 27 (.mv (.t 6)),
 ao 28 (.mv (.t 7)),
 ao 29 (.nilck (.t 26)),
 ao 30 (.faddr 4 (.t 29)),
 ao 31 (.idxa 21 21 (.t 30) (.t 27)),
 ao 32 (.idxa 21 1 (.t 31) (.t 28)),
 ⟨none, .store 1 (.t 32) (.c (i64 1048576)),none,[],[]⟩] [1,2,5,6,17,20]) (.skip))))) (.region false [
 ao 33 (.bin .add (.t 20) (.c (i64 1))),
 ao 20 (.mv (.t 33))] [1,2,5,6,17,20])))
def b147l1:AC:= .loop [1,2,5,6,17,20] [32,208,256,720,736,928,1008,1024,1136,1200,1296,1424,1536,1792] d147l1
@[simp] def d147l0:AC:=
 .seq (.region false [
 ao 18 (.bin .lss (.t 17) (.c (i64 21)))] [1,2,5,17,18]) (.seq (.cond (.t 18) (.skip) (.exit 0)) (.seq (.block 1 (.seq (.region false [
 ao 19 (.mv (.t 17)),
 ao 6 (.mv (.t 19))] [1,2,5,6,17]) (.seq (.region false [
 ao 20 (.mv (.c (i64 0)))] [1,2,5,6,17,20]) (.block 2 (b147l1))))) (.region false [
 ao 34 (.bin .add (.t 17) (.c (i64 1))),
 ao 17 (.mv (.t 34))] [1,2,5,17])))
def b147l0:AC:= .loop [1,2,5,17] [32,208,256,720,736,928,1008,1024,1136,1200,1296,1424,1536,1792] d147l0
@[simp] def d147l3:AC:=
 .seq (.region false [
 ao 50 (.bin .lss (.t 49) (.t 48))] [1,2,5,8,36,37,48,49,50]) (.seq (.cond (.t 50) (.skip) (.exit 6)) (.seq (.block 7 (.seq (.region false [
 ao 51 (.mv (.t 49)),
 ao 9 (.mv (.t 51))] [1,2,5,8,9,36,37,48,49]) (.seq (.region true (spl [
 ao 52 (.mv (.t 5)),
 ap 53 (.nilck (.t 52)) [0],
 ap 54 (.faddr 4 (.t 53)) [1,0],
 ao 55 (.mv (.t 5)),
 ao 56 (.mv (.t 8)),
 ao 57 (.mv (.t 9)),
 ap 58 (.call 116 [(.t 55),(.t 56),(.t 57)]) [3,4,5],
 ao 59 (.mv (.t 5)),
 ao 60 (.mv (.t 8)),
 ao 61 (.mv (.t 9)),
 ap 62 (.bin .add (.t 61) (.c (i64 1))) [9],
 ap 63 (.call 116 [(.t 59),(.t 60),(.t 62)]) [7,8,10,6,9,3,4,5]] [
 ap 64 (.call 159 [(.t 54),(.t 58),(.t 63),(.c (i64 0))]) [2,11,1,0,7,8,10,6,9,3,4,5]]) [1,2,5,8,9,36,37,48,49]) (.seq (.seq (.region false [
 ao 65 (.mv (.t 8)),
 ao 66 (.bin .eql (.t 65) (.c (i64 0)))] [1,2,5,8,9,36,37,48,49,66]) (.cond (.t 66) (.exit 7) (.skip))) (.seq (.region false [
 ao 67 (.mv (.t 5)),
 ao 68 (.mv (.t 8)),
 ao 69 (.bin .sub (.t 68) (.c (i64 1))),
 ao 70 (.mv (.t 9)),
 ao 71 (.call 116 [(.t 67),(.t 69),(.t 70)]),
 ao 72 (.mv (.t 5)),
 ao 73 (.mv (.t 8)),
 ao 74 (.mv (.t 9)),
 ao 75 (.call 116 [(.t 72),(.t 73),(.t 74)]),
 ao 10 (.mv (.t 71)),
 ao 11 (.mv (.t 75))] [1,2,5,8,9,10,11,36,37,48,49]) (.seq (.region false [
 ao 76 (.mv (.t 5)),
 ao 77 (.nilck (.t 76)),
 ao 78 (.faddr 4 (.t 77)),
 ao 79 (.mv (.t 11)),
 ao 80 (.mv (.t 10)),
 ao 81 (.call 159 [(.t 78),(.t 79),(.t 80),(.c (i64 0))])] [1,2,5,8,9,10,11,36,37,48,49]) (.seq (.region false [
 ao 82 (.faddr 2 (.t 2)),
 ao 83 (.load none (.t 82)),
 ao 84 (.mv (.t 8)),
 ao 85 (.bin .sub (.t 84) (.c (i64 1))),
 ao 86 (.idxs 1 (.t 83) (.t 85)),
 ao 87 (.load none (.t 86)),
 ao 88 (.mv (.t 9)),
 ao 89 (.call 125 [(.t 87),(.t 88)]),
 ao 90 (.un .not (.t 89))] [1,2,5,8,10,11,36,37,48,49,90]) (.cond (.t 90) (.region false [
 ao 91 (.mv (.t 5)),
 ao 92 (.nilck (.t 91)),
 ao 93 (.faddr 4 (.t 92)),
 ao 94 (.mv (.t 10)),
 ao 95 (.mv (.t 11)),
 ao 96 (.call 159 [(.t 93),(.t 94),(.t 95),(.c (i64 0))])] [1,2,5,8,36,37,48,49]) (.skip))))))))) (.region false [
 ao 97 (.bin .add (.t 49) (.c (i64 1))),
 ao 49 (.mv (.t 97))] [1,2,5,8,36,37,48,49])))
def b147l3:AC:= .loop [1,2,5,8,36,37,48,49] [32,208,256,720,736,1792] d147l3
@[simp] def d147l2:AC:=
 .seq (.region false [
 ao 38 (.bin .lss (.t 37) (.t 36))] [1,2,5,36,37,38]) (.seq (.cond (.t 38) (.skip) (.exit 4)) (.seq (.block 5 (.seq (.region false [
 ao 39 (.mv (.t 37)),
 ao 8 (.mv (.t 39))] [1,2,5,8,36,37]) (.seq (.region true (spl [
 ao 40 (.mv (.t 5)),
 ap 41 (.nilck (.t 40)) [0],
 ap 42 (.faddr 4 (.t 41)) [1,0],
 ao 43 (.mv (.t 5)),
 ao 44 (.mv (.t 8)),
 ap 45 (.call 116 [(.t 43),(.t 44),(.c (i64 0))]) [3,4]] [
 ap 46 (.call 159 [(.t 42),(.c (i64 0)),(.t 45),(.c (i64 40))]) [2,5,1,0,3,4]]) [1,2,5,8,36,37]) (.seq (.region false [
 ao 47 (.faddr 0 (.t 2)),
 ao 48 (.load none (.t 47)),
 ao 49 (.mv (.c (i64 0)))] [1,2,5,8,36,37,48,49]) (.block 6 (b147l3)))))) (.region false [
 ao 98 (.bin .add (.t 37) (.c (i64 1))),
 ao 37 (.mv (.t 98))] [1,2,5,36,37])))
def b147l2:AC:= .loop [1,2,5,36,37] [32,208,256,1792] d147l2
@[simp] def d147l4:AC:=
 .seq (.region false [
 ao 103 (.bin .lss (.t 102) (.t 101))] [1,5,100,101,102,103]) (.seq (.cond (.t 103) (.skip) (.exit 8)) (.seq (.block 9 (.seq (.region false [
 ao 104 (.mv (.t 102)),
 ao 105 (.idxs 4 (.t 100) (.t 102)),
 ao 106 (.load (some 4) (.t 105)),
 ao 13 (.alloc [(i64 0),(i64 0),(i64 0),(i64 0)]),
 ao 12 (.mv (.t 104)),
 ⟨none, .store 4 (.t 13) (.t 106),none,[],[]⟩] [1,5,12,13,100,101,102]) (.seq (.region false [
 ao 107 (.mv (.t 12)),
 ao 108 (.mv (.t 1)),
 ao 109 (.bin .neq (.t 107) (.t 108))] [1,5,13,100,101,102,109]) (.cond (.t 109) (.region false [
 ao 110 (.mv (.t 5)),
 ao 111 (.load (some 4) (.t 13)),
 ao 112 (.call 160 [(.t 110),(.t 111)])] [1,5,100,101,102]) (.skip))))) (.region false [
 ao 113 (.bin .add (.t 102) (.c (i64 1))),
 ao 102 (.mv (.t 113))] [1,5,100,101,102])))
def b147l4:AC:= .loop [1,5,100,101,102] [32,256,720,736,928,1008,1024,1136,1200,1296,1424,1536] d147l4
def b147:AC:=
 .seq (.region false [
 ao 2 (.box (.t 0)),
 ao 4 (.mv (.c .nilp))] [1,2]) (.seq (.region false [
 ao 14 (.load (some 4) (.t 2)),
 ao 15 (.build ([(i64 0),(i64 0),(.sl .full 1 []),(.sl .full 4 [])] ++zeroV 441) [(0,4,(.t 14))]),
 ao 16 (.box (.t 15)),
 ao 5 (.mv (.t 16))] [1,2,5]) (.seq (.seq (.region false [
 ao 17 (.mv (.c (i64 0)))] [1,2,5,17]) (.block 0 (b147l0))) (.seq (.seq (.region false [
 ao 35 (.faddr 1 (.t 2)),
 ao 36 (.load none (.t 35)),
 ao 37 (.mv (.c (i64 0)))] [1,2,5,36,37]) (.block 4 (b147l2))) (.seq (.seq (.region false [
 ao 99 (.faddr 3 (.t 2)),
 ao 100 (.load none (.t 99)),
 ao 101 (.len (.t 100)),
 ao 102 (.mv (.c (i64 0)))] [1,5,100,101,102]) (.block 8 (b147l4))) (.seq (.region false [
 ao 114 (.mv (.t 5)),
 ao 4 (.mv (.t 114))] [4]) (.ret))))))
def a147:AFn:=⟨2,[.t 4],b147,false⟩
def n147:Ann:=⟨[[1,2],[1,2,5],[1,2,5,17],[1,2,5,17,18],[1,2,5,6,17],[1,2,5,6,17,20],[1,2,5,6,17,20,21],[1,2,5,6,7,17,20],[1,2,5,6,7,17,20,25],[1,2,5,6,17,20],[1,2,5,6,17,20],[1,2,5,17],[1,2,5,36,37],[1,2,5,36,37,38],[1,2,5,8,36,37],[1,2,5,8,36,37],[1,2,5,8,36,37,48,49],[1,2,5,8,36,37,48,49,50],[1,2,5,8,9,36,37,48,49],[1,2,5,8,9,36,37,48,49],[1,2,5,8,9,36,37,48,49,66],[1,2,5,8,9,10,11,36,37,48,49],[1,2,5,8,9,10,11,36,37,48,49],[1,2,5,8,10,11,36,37,48,49,90],[1,2,5,8,36,37,48,49],[1,2,5,8,36,37,48,49],[1,2,5,36,37],[1,5,100,101,102],[1,5,100,101,102,103],[1,5,12,13,100,101,102],[1,5,13,100,101,102,109],[1,5,100,101,102],[1,5,100,101,102],[4]],[⟨[],[1,2,5,17],[32,208,256,720,736,928,1008,1024,1136,1200,1296,1424,1536,1792]⟩,⟨[],[1,2,5,6,17,20],[32,208,256,720,736,928,1008,1024,1136,1200,1296,1424,1536,1792]⟩,⟨[],[1,2,5,36,37],[32,208,256,1792]⟩,⟨[],[1,2,5,8,36,37,48,49],[32,208,256,720,736,1792]⟩,⟨[],[1,5,100,101,102],[32,256,720,736,928,1008,1024,1136,1200,1296,1424,1536]⟩],[],[],[],false,[(4,256),(114,256),(110,256),(95,1200),(94,1136),(91,256),(80,1136),(79,1200),(76,256),(11,1200),(10,1136),(72,256),(67,256),(59,256),(55,256),(52,256),(43,256),(40,256),(26,256),(5,256)]⟩
@[simp] def d148l0:AC:=
 .seq (.region false [
 ao 5 (.bin .lss (.t 4) (.c (i64 21)))] [0,4,5]) (.seq (.cond (.t 5) (.skip) (.exit 0)) (.seq (.block 1 (.seq (.region false [
 ao 6 (.mv (.t 4)),
 ao 3 (.mv (.t 6))] [0,3,4]) (.seq (.region false [
 ao 7 (.mv (.t 0)),
 ao 8 (.mv (.t 3)),
 ao 9 (.mv (.t 3)),
 ao 10 (.nilck (.t 7)),
 ao 11 (.idxa 21 21 (.t 10) (.t 8)),
 ao 12 (.idxa 21 1 (.t 11) (.t 9)),
 ao 13 (.load none (.t 12)),
 ao 14 (.bin .lss (.t 13) (.c (i64 0)))] [0,4,14]) (.cond (.t 14) (.seq (.region false [
 ao 2 (.mv (.c (.bool true)))] [2]) (.ret)) (.skip))))) (.region false [
 ao 15 (.bin .add (.t 4) (.c (i64 1))),
 ao 4 (.mv (.t 15))] [0,4])))
def b148l0:AC:= .loop [0,4] [] d148l0
def b148:AC:=
 .seq (.region false [
 ao 2 (.mv (.c (.bool false)))] [0]) (.seq (.seq (.region false [
 ao 4 (.mv (.c (i64 0)))] [0,4]) (.block 0 (b148l0))) (.seq (.region false [
 ao 2 (.mv (.c (.bool false)))] [2]) (.ret)))
def a148:AFn:=⟨1,[.t 2],b148,false⟩
def n148:Ann:=⟨[[0],[0,4],[0,4,5],[0,3,4],[0,4,14],[2],[0,4],[2]],[⟨[],[0,4],[]⟩],[],[],[],false,[]⟩
def b150:AC:=
 .seq (.region false [
 ao 2 (.mv (.c (i64 0)))] [0]) (.seq (.cond (.c (.bool false)) (.seq (.region false [
 ao 3 (.mv (.t 0)),
 ao 4 (.conv .u32 (.t 3)),
 ao 5 (.call 161 [(.t 4)]),
 ao 2 (.mv (.t 5))] [2]) (.ret)) (.skip)) (.seq (.region false [
 ao 6 (.mv (.t 0)),
 ao 7 (.call 162 [(.t 6)]),
 ao 2 (.mv (.t 7))] [2]) (.ret)))
def a150:AFn:=⟨1,[.t 2],b150,false⟩
def n150:Ann:=⟨[[0],[2],[2]],[],[],[],[],false,[(2,80)]⟩
@[simp] def d151l0:AC:=
 .seq (.seq (.region false [
 ao 4 (.mv (.t 0)),
 ao 5 (.bin .neq (.t 4) (.c (.int .u64 0)))] [0,3,5]) (.cond (.t 5) (.skip) (.exit 0))) (.seq (.block 1 (.region false [
 ao 8 (.mv (.t 0)),
 ao 9 (.mv (.t 0)),
 ao 10 (.bin .shl (.t 9) (.c (.int .u64 1))),
 ao 11 (.bin .and (.t 8) (.t 10)),
 ao 0 (.mv (.t 11))] [0,3])) (.region false [
 ao 6 (.mv (.t 3)),
 ao 7 (.bin .add (.t 6) (.c (i64 1))),
 ao 3 (.mv (.t 7))] [0,3]))
def b151l0:AC:= .loop [0,3] [] d151l0
def b151:AC:=
 .seq (.region false [
 ao 2 (.mv (.c (i64 0)))] [0]) (.seq (.region false [
 ao 3 (.mv (.c (i64 0)))] [0,3]) (.seq (.block 0 (b151l0)) (.seq (.region false [
 ao 12 (.mv (.t 3)),
 ao 2 (.mv (.t 12))] [2]) (.ret))))
def a151:AFn:=⟨1,[.t 2],b151,false⟩
def n151:Ann:=⟨[[0],[0,3],[0,3,5],[0,3],[0,3],[2]],[⟨[],[0,3],[]⟩],[],[],[],false,[]⟩
@[simp] def d152l0:AC:=
 .seq (.region false [
 ao 9 (.bin .lss (.t 8) (.t 7))] [0,1,7,8,9]) (.seq (.cond (.t 9) (.skip) (.exit 0)) (.seq (.block 1 (.seq (.region false [
 ao 10 (.mv (.t 8)),
 ao 5 (.mv (.t 10))] [0,1,5,7,8]) (.seq (.region false [
 ao 11 (.mv (.t 1)),
 ao 12 (.mv (.t 0)),
 ao 13 (.mv (.t 5)),
 ao 14 (.idxs 1 (.t 12) (.t 13)),
 ao 15 (.load none (.t 14)),
 ao 16 (.bin .eql (.t 11) (.t 15))] [0,1,5,7,8,16]) (.cond (.t 16) (.seq (.region false [
 ao 17 (.mv (.t 5)),
 ao 4 (.mv (.t 17))] [4]) (.ret)) (.skip))))) (.region false [
 ao 18 (.bin .add (.t 8) (.c (i64 1))),
 ao 8 (.mv (.t 18))] [0,1,7,8])))
def b152l0:AC:= .loop [0,1,7,8] [] d152l0
def b152:AC:=
 .seq (.region false [
 ao 4 (.mv (.c (i64 0)))] [0,1]) (.seq (.seq (.region false [
 ao 6 (.mv (.t 0)),
 ao 7 (.len (.t 6)),
 ao 8 (.mv (.c (i64 0)))] [0,1,7,8]) (.block 0 (b152l0))) (.seq (.region false [
 ao 4 (.mv (.c (i64 (-1))))] [4]) (.ret)))
def a152:AFn:=⟨2,[.t 4],b152,false⟩
def n152:Ann:=⟨[[0,1],[0,1,7,8],[0,1,7,8,9],[0,1,5,7,8],[0,1,5,7,8,16],[4],[0,1,7,8],[4]],[⟨[],[0,1,7,8],[]⟩],[],[],[],false,[]⟩
@[simp] def d154l0:AC:=
 .block 1 (.seq (.region false [
 ao 21 (.mv (.t 2)),
 ao 22 (.mv (.t 1)),
 ao 23 (.bin .sub (.t 21) (.t 22)),
 ao 12 (.mv (.t 23))] [0,1,2,3,4,10,11,12]) (.seq (.seq (.region false [
 ao 24 (.mv (.t 12)),
 ao 25 (.bin .leq (.t 24) (.c (i64 12)))] [0,1,2,3,4,10,11,12,25]) (.cond (.t 25) (.seq (.region false [
 ao 26 (.mv (.t 0)),
 ao 27 (.mv (.t 1)),
 ao 28 (.mv (.t 2)),
 ao 29 (.mv (.t 4)),
 ao 30 (.call 163 [(.t 26),(.t 27),(.t 28),(.t 29)])] []) (.ret)) (.skip))) (.seq (.seq (.region false [
 ao 31 (.mv (.t 3)),
 ao 32 (.bin .eql (.t 31) (.c (i64 0)))] [0,1,2,3,4,10,11,12,32]) (.cond (.t 32) (.seq (.region false [
 ao 33 (.mv (.t 0)),
 ao 34 (.mv (.t 1)),
 ao 35 (.mv (.t 2)),
 ao 36 (.mv (.t 4)),
 ao 37 (.call 164 [(.t 33),(.t 34),(.t 35),(.t 36)])] []) (.ret)) (.skip))) (.seq (.seq (.region false [
 ao 38 (.mv (.t 10)),
 ao 39 (.un .not (.t 38))] [0,1,2,3,4,10,11,12,39]) (.cond (.t 39) (.seq (.region false [
 ao 40 (.mv (.t 0)),
 ao 41 (.mv (.t 1)),
 ao 42 (.mv (.t 2)),
 ao 43 (.mv (.t 4)),
 ao 44 (.call 165 [(.t 40),(.t 41),(.t 42),(.t 43)])] [0,1,2,3,4,10,11,12]) (.region false [
 ao 45 (.mv (.t 3)),
 ao 46 (.bin .sub (.t 45) (.c (i64 1))),
 ao 3 (.mv (.t 46))] [0,1,2,3,4,10,11,12])) (.skip))) (.seq (.region false [
 ao 48 (.mv (.t 0)),
 ao 49 (.mv (.t 1)),
 ao 50 (.mv (.t 2)),
 ao 51 (.mv (.t 4)),
 ao 52 (.call 166 [(.t 48),(.t 49),(.t 50),(.t 51)]),
 ao 47 (.mv (.t 52)),
 ao 53 (.ext (.t 47) 0),
 ao 54 (.ext (.t 47) 1),
 ao 13 (.mv (.t 53)),
 ao 14 (.mv (.t 54))] [0,1,2,3,4,10,11,12,13,14]) (.seq (.seq (.region false [
 ao 55 (.mv (.t 14)),
 ao 56 (.bin .eql (.t 55) (.c (i64 2)))] [0,1,2,3,4,10,11,12,13,14,56]) (.cond (.t 56) (.seq (.region false [
 ao 57 (.mv (.t 0)),
 ao 58 (.mv (.t 1)),
 ao 59 (.mv (.t 2)),
 ao 60 (.mv (.t 4)),
 ao 61 (.call 167 [(.t 57),(.t 58),(.t 59),(.t 60)])] [0,1,2,3,4,10,11,12,13]) (.seq (.region false [
 ao 62 (.mv (.t 2)),
 ao 63 (.bin .sub (.t 62) (.c (i64 1))),
 ao 64 (.mv (.t 13)),
 ao 65 (.mv (.t 1)),
 ao 66 (.bin .sub (.t 64) (.t 65)),
 ao 67 (.bin .sub (.t 63) (.t 66)),
 ao 13 (.mv (.t 67))] [0,1,2,3,4,10,11,12,13]) (.region false [
 ao 14 (.mv (.c (i64 1)))] [0,1,2,3,4,10,11,12,13,14]))) (.skip))) (.seq (.seq (.region false [
 ao 68 (.mv (.t 10)),
 ao 69 (.mv (.t 68)),
 ag 70 (.mv (.t 11)) 69 true [],
 ao 71 (.pick (.t 69) (.t 70) (.c (.bool false))),
 ao 72 (.mv (.t 71)),
 ag 73 (.mv (.t 14)) 72 true [],
 ag 74 (.bin .eql (.t 73) (.c (i64 1))) 72 true [],
 ao 75 (.pick (.t 72) (.t 74) (.c (.bool false)))] [0,1,2,3,4,10,11,12,13,75]) (.cond (.t 75) (.seq (.region false [
 ao 76 (.mv (.t 0)),
 ao 77 (.mv (.t 1)),
 ao 78 (.mv (.t 2)),
 ao 79 (.mv (.t 4)),
 ao 80 (.call 168 [(.t 76),(.t 77),(.t 78),(.t 79)])] [0,1,2,3,4,10,11,12,13,80]) (.cond (.t 80) (.ret) (.skip))) (.skip))) (.seq (.seq (.region true (spl [
 ao 81 (.mv (.t 1)),
 ap 82 (.bin .gtr (.t 81) (.c (i64 0))) [0],
 ap 83 (.mv (.t 82)) [1,0],
 ag 84 (.mv (.t 4)) 83 true [2,1,0],
 ag 85 (.mv (.t 0)) 83 true [2,1,0],
 ag 86 (.mv (.t 1)) 83 true [2,1,0],
 ag 87 (.bin .sub (.t 86) (.c (i64 1))) 83 true [5,2,1,0],
 ag 88 (.idxs 5 (.t 85) (.t 87)) 83 true [4,6,5,2,1,0],
 ag 89 (.load (some 5) (.t 88)) 83 true [7,4,6,5,2,1,0],
 ag 90 (.mv (.t 0)) 83 true [2,1,0],
 ag 91 (.mv (.t 13)) 83 true [2,1,0],
 ag 92 (.idxs 5 (.t 90) (.t 91)) 83 true [9,10,2,1,0],
 ag 93 (.load (some 5) (.t 92)) 83 true [11,9,10,2,1,0]] [
 ag 94 (.callv (.t 84) [(.t 89),(.t 93)]) 83 true [3,8,12,7,4,6,5,11,9,10,2,1,0],
 ag 95 (.bin .lss (.t 94) (.c (i64 0))) 83 true [13,3,8,12,7,4,6,5,11,9,10,2,1,0],
 ag 96 (.un .not (.t 95)) 83 true [14,13,3,8,12,7,4,6,5,11,9,10,2,1,0],
 ap 97 (.pick (.t 83) (.t 96) (.c (.bool false))) [15,14,13,3,8,12,7,4,6,5,11,9,10,2,1,0]]) [0,1,2,3,4,10,11,12,13,97]) (.cond (.t 97) (.seq (.region false [
 ao 98 (.mv (.t 0)),
 ao 99 (.mv (.t 1)),
 ao 100 (.mv (.t 2)),
 ao 101 (.mv (.t 13)),
 ao 102 (.mv (.t 4)),
 ao 103 (.call 169 [(.t 98),(.t 99),(.t 100),(.t 101),(.t 102)]),
 ao 15 (.mv (.t 103))] [0,2,3,4,10,11,15]) (.seq (.region false [
 ao 104 (.mv (.t 15)),
 ao 1 (.mv (.t 104))] [0,1,2,3,4,10,11]) (.exit 1))) (.skip))) (.seq (.region false [
 ao 106 (.mv (.t 0)),
 ao 107 (.mv (.t 1)),
 ao 108 (.mv (.t 2)),
 ao 109 (.mv (.t 13)),
 ao 110 (.mv (.t 4)),
 ao 111 (.call 170 [(.t 106),(.t 107),(.t 108),(.t 109),(.t 110)]),
 ao 105 (.mv (.t 111)),
 ao 112 (.ext (.t 105) 0),
 ao 113 (.ext (.t 105) 1),
 ao 16 (.mv (.t 112)),
 ao 17 (.mv (.t 113))] [0,1,2,3,4,12,16,17]) (.seq (.region false [
 ao 114 (.mv (.t 17)),
 ao 11 (.mv (.t 114))] [0,1,2,3,4,11,12,16]) (.seq (.region false [
 ao 115 (.mv (.t 16)),
 ao 116 (.mv (.t 1)),
 ao 117 (.bin .sub (.t 115) (.t 116)),
 ao 118 (.mv (.t 2)),
 ao 119 (.mv (.t 16)),
 ao 120 (.bin .sub (.t 118) (.t 119)),
 ao 18 (.mv (.t 117)),
 ao 19 (.mv (.t 120))] [0,1,2,3,4,11,12,16,18,19]) (.seq (.region false [
 ao 121 (.mv (.t 12)),
 ao 122 (.bin .quo (.t 121) (.c (i64 8))),
 ao 20 (.mv (.t 122))] [0,1,2,3,4,11,16,18,19,20]) (.seq (.region false [
 ao 123 (.mv (.t 18)),
 ao 124 (.mv (.t 19)),
 ao 125 (.bin .lss (.t 123) (.t 124))] [0,1,2,3,4,11,16,18,19,20,125]) (.cond (.t 125) (.seq (.region false [
 ao 126 (.mv (.t 18)),
 ao 127 (.mv (.t 20)),
 ao 128 (.bin .geq (.t 126) (.t 127)),
 ao 10 (.mv (.t 128))] [0,1,2,3,4,10,11,16]) (.seq (.region false [
 ao 129 (.mv (.t 0)),
 ao 130 (.mv (.t 1)),
 ao 131 (.mv (.t 16)),
 ao 132 (.mv (.t 3)),
 ao 133 (.mv (.t 4)),
 ao 134 (.call 154 [(.t 129),(.t 130),(.t 131),(.t 132),(.t 133)])] [0,2,3,4,10,11,16]) (.region false [
 ao 135 (.mv (.t 16)),
 ao 136 (.bin .add (.t 135) (.c (i64 1))),
 ao 1 (.mv (.t 136))] [0,1,2,3,4,10,11]))) (.seq (.region false [
 ao 137 (.mv (.t 19)),
 ao 138 (.mv (.t 20)),
 ao 139 (.bin .geq (.t 137) (.t 138)),
 ao 10 (.mv (.t 139))] [0,1,2,3,4,10,11,16]) (.seq (.region false [
 ao 140 (.mv (.t 0)),
 ao 141 (.mv (.t 16)),
 ao 142 (.bin .add (.t 141) (.c (i64 1))),
 ao 143 (.mv (.t 2)),
 ao 144 (.mv (.t 3)),
 ao 145 (.mv (.t 4)),
 ao 146 (.call 154 [(.t 140),(.t 142),(.t 143),(.t 144),(.t 145)])] [0,1,3,4,10,11,16]) (.region false [
 ao 147 (.mv (.t 16)),
 ao 2 (.mv (.t 147))] [0,1,2,3,4,10,11])))))))))))))))))
def b154l0:AC:= .loop [0,1,2,3,4,10,11] [] d154l0
def b154:AC:=
 .seq (.region false [
 ao 10 (.mv (.c (.bool true)))] [0,1,2,3,4,10]) (.seq (.region false [
 ao 11 (.mv (.c (.bool true)))] [0,1,2,3,4,10,11]) (.block 0 (b154l0)))
def a154:AFn:=⟨5,[],b154,false⟩
def n154:Ann:=⟨[[0,1,2,3,4,10],[0,1,2,3,4,10,11],[0,1,2,3,4,10,11,12],[0,1,2,3,4,10,11,12,25],[],[0,1,2,3,4,10,11,12,32],[],[0,1,2,3,4,10,11,12,39],[0,1,2,3,4,10,11,12],[0,1,2,3,4,10,11,12],[0,1,2,3,4,10,11,12,13,14],[0,1,2,3,4,10,11,12,13,14,56],[0,1,2,3,4,10,11,12,13],[0,1,2,3,4,10,11,12,13],[0,1,2,3,4,10,11,12,13,14],[0,1,2,3,4,10,11,12,13,75],[0,1,2,3,4,10,11,12,13,80],[0,1,2,3,4,10,11,12,13,97],[0,2,3,4,10,11,15],[0,1,2,3,4,10,11],[0,1,2,3,4,12,16,17],[0,1,2,3,4,11,12,16],[0,1,2,3,4,11,12,16,18,19],[0,1,2,3,4,11,16,18,19,20],[0,1,2,3,4,11,16,18,19,20,125],[0,1,2,3,4,10,11,16],[0,2,3,4,10,11,16],[0,1,2,3,4,10,11],[0,1,2,3,4,10,11,16],[0,1,3,4,10,11,16],[0,1,2,3,4,10,11]],[⟨[],[0,1,2,3,4,10,11],[]⟩],[],[],[],false,[(143,1776),(118,1776),(108,1776),(100,1776),(99,1648),(86,1648),(81,1648),(78,1776),(77,1648),(70,1776),(65,1648),(62,1776),(59,1776),(58,1648),(50,1776),(49,1648),(42,1776),(41,1648),(35,1776),(34,1648),(28,1776),(27,1648),(22,1648),(21,1776),(2,1776),(147,1776),(141,1776),(135,1776),(131,1776),(130,1648),(119,1776),(116,1648),(115,1776),(11,1776),(114,1776),(17,1776),(16,1776),(113,1776),(112,1776),(105,1776),(109,832),(107,1648),(1,1648),(104,1648),(15,1648),(101,832),(91,832),(73,832),(64,832),(55,832),(14,832),(13,832),(54,832),(53,832),(47,832)]⟩
def b155:AC:=
 .seq (.region false [
 ao 2 (.mv (.c (i64 0)))] [0]) (.seq (.cond (.c (.bool false)) (.seq (.region false [
 ao 3 (.mv (.t 0)),
 ao 4 (.conv .u32 (.t 3)),
 ao 5 (.call 171 [(.t 4)]),
 ao 2 (.mv (.t 5))] [2]) (.ret)) (.skip)) (.seq (.region false [
 ao 6 (.mv (.t 0)),
 ao 7 (.call 172 [(.t 6)]),
 ao 2 (.mv (.t 7))] [2]) (.ret)))
def a155:AFn:=⟨1,[.t 2],b155,false⟩
def n155:Ann:=⟨[[0],[2],[2]],[],[],[],[],false,[(2,80)]⟩
def b156:AC:=
 .seq (.region false [
 ao 4 (.mv (.c (i64 0)))] [0,1]) (.seq (.region false [
 ao 7 (.mv (.t 0)),
 ao 8 (.call 173 [(.t 7)]),
 ao 5 (.mv (.t 8))] [0,1,5]) (.seq (.region false [
 ao 9 (.mv (.t 1)),
 ao 10 (.call 173 [(.t 9)]),
 ao 6 (.mv (.t 10))] [0,1,5,6]) (.seq (.seq (.region false [
 ao 11 (.mv (.t 5))] [0,1,6,11]) (.cond (.t 11) (.seq (.seq (.region false [
 ao 12 (.mv (.t 6))] [12]) (.cond (.t 12) (.seq (.region false [
 ao 4 (.mv (.c (i64 0)))] [4]) (.ret)) (.skip))) (.seq (.region false [
 ao 4 (.mv (.c (i64 (-1))))] [4]) (.ret))) (.skip))) (.seq (.seq (.region false [
 ao 13 (.mv (.t 6))] [0,1,13]) (.cond (.t 13) (.seq (.region false [
 ao 4 (.mv (.c (i64 1)))] [4]) (.ret)) (.skip))) (.seq (.seq (.region false [
 ao 14 (.mv (.t 0)),
 ao 15 (.mv (.t 1)),
 ao 16 (.bin .lss (.t 14) (.t 15))] [0,1,16]) (.cond (.t 16) (.seq (.region false [
 ao 4 (.mv (.c (i64 (-1))))] [4]) (.ret)) (.skip))) (.seq (.seq (.region false [
 ao 17 (.mv (.t 0)),
 ao 18 (.mv (.t 1)),
 ao 19 (.bin .gtr (.t 17) (.t 18))] [19]) (.cond (.t 19) (.seq (.region false [
 ao 4 (.mv (.c (i64 1)))] [4]) (.ret)) (.skip))) (.seq (.region false [
 ao 4 (.mv (.c (i64 0)))] [4]) (.ret))))))))
def a156:AFn:=⟨2,[.t 4],b156,false⟩
def n156:Ann:=⟨[[0,1],[0,1,5],[0,1,5,6],[0,1,6,11],[12],[4],[4],[0,1,13],[4],[0,1,16],[4],[19],[4],[4]],[],[],[],[],false,[(13,160),(12,160),(11,128),(6,160),(5,128)]⟩
@[simp] def d157l0:AC:=
 .seq (.region false [
 ao 9 (.bin .lss (.t 8) (.t 7))] [0,1,7,8,9]) (.seq (.cond (.t 9) (.skip) (.exit 0)) (.seq (.block 1 (.seq (.region false [
 ao 10 (.mv (.t 8)),
 ao 5 (.mv (.t 10))] [0,1,5,7,8]) (.seq (.region false [
 ao 11 (.mv (.t 1)),
 ao 12 (.mv (.t 0)),
 ao 13 (.mv (.t 5)),
 ao 14 (.idxs 4 (.t 12) (.t 13)),
 ao 15 (.load (some 4) (.t 14)),
 ao 16 (.callv (.t 11) [(.t 15)])] [0,1,5,7,8,16]) (.cond (.t 16) (.seq (.region false [
 ao 17 (.mv (.t 5)),
 ao 4 (.mv (.t 17))] [4]) (.ret)) (.skip))))) (.region false [
 ao 18 (.bin .add (.t 8) (.c (i64 1))),
 ao 8 (.mv (.t 18))] [0,1,7,8])))
def b157l0:AC:= .loop [0,1,7,8] [] d157l0
def b157:AC:=
 .seq (.region false [
 ao 4 (.mv (.c (i64 0)))] [0,1]) (.seq (.seq (.region false [
 ao 6 (.mv (.t 0)),
 ao 7 (.len (.t 6)),
 ao 8 (.mv (.c (i64 0)))] [0,1,7,8]) (.block 0 (b157l0))) (.seq (.region false [
 ao 4 (.mv (.c (i64 (-1))))] [4]) (.ret)))
def a157:AFn:=⟨2,[.t 4],b157,false⟩
def n157:Ann:=⟨[[0,1],[0,1,7,8],[0,1,7,8,9],[0,1,5,7,8],[0,1,5,7,8,16],[4],[0,1,7,8],[4]],[⟨[],[0,1,7,8],[]⟩],[],[],[],false,[]⟩
@[simp] def d159l1:AC:=
 .seq (.region false [
 ao 23 (.bin .lss (.t 22) (.c (i64 21)))] [0,1,2,3,8,19,22,23]) (.seq (.cond (.t 23) (.skip) (.exit 2)) (.seq (.block 3 (.seq (.region false [
 ao 24 (.mv (.t 22)),
 ao 9 (.mv (.t 24))] [0,1,2,3,8,9,19,22]) (.region true (spl [
 ao 25 (.mv (.t 0)),
 ao 26 (.mv (.t 8)),
 ao 27 (.mv (.t 9)),
 ao 28 (.mv (.t 0)),
 ao 29 (.mv (.t 8)),
 ao 30 (.mv (.t 9)),
 ap 31 (.nilck (.t 28)) [3],
 ap 32 (.idxa 21 21 (.t 31) (.t 29)) [6,4,3],
 ap 33 (.idxa 21 1 (.t 32) (.t 30)) [7,5,6,4,3],
 ap 34 (.load none (.t 33)) [8,7,5,6,4,3],
 ao 35 (.mv (.t 0)),
 ao 36 (.mv (.t 8)),
 ao 37 (.mv (.t 1)),
 ap 38 (.nilck (.t 35)) [10],
 ap 39 (.idxa 21 21 (.t 38) (.t 36)) [13,11,10],
 ap 40 (.idxa 21 1 (.t 39) (.t 37)) [14,12,13,11,10],
 ap 41 (.load none (.t 40)) [15,14,12,13,11,10],
 ao 42 (.mv (.t 3)),
 ap 43 (.bin .add (.t 41) (.t 42)) [16,17,15,14,12,13,11,10],
 ao 44 (.mv (.t 0)),
 ao 45 (.mv (.t 2)),
 ao 46 (.mv (.t 9)),
 ap 47 (.nilck (.t 44)) [19],
 ap 48 (.idxa 21 21 (.t 47) (.t 45)) [22,20,19],
 ap 49 (.idxa 21 1 (.t 48) (.t 46)) [23,21,22,20,19],
 ap 50 (.load none (.t 49)) [24,23,21,22,20,19],
 ap 51 (.bin .add (.t 43) (.t 50)) [18,25,16,17,15,14,12,13,11,10,24,23,21,22,20,19],
 ap 52 (.mm false (.t 34) (.t 51)) [9,26,8,7,5,6,4,3,18,25,16,17,15,14,12,13,11,10,24,23,21,22,20,19],
 ap 53 (.nilck (.t 25)) [0],
 ap 54 (.idxa 21 21 (.t 53) (.t 26)) [28,1,0]] [
 ap 55 (.idxa 21 1 (.t 54) (.t 27)) [29,2,27,28,1,0,9,26,8,7,5,6,4,3,18,25,16,17,15,14,12,13,11,10,24,23,21,22,20,19],
 ⟨none, .store 1 (.t 55) (.t 52),none,[30,29,2,27,28,1,0,9,26,8,7,5,6,4,3,18,25,16,17,15,14,12,13,11,10,24,23,21,22,20,19],[]⟩]) [0,1,2,3,8,19,22]))) (.region false [
 ao 56 (.bin .add (.t 22) (.c (i64 1))),
 ao 22 (.mv (.t 56))] [0,1,2,3,8,19,22])))
def b159l1:AC:= .loop [0,1,2,3,8,19,22] [] d159l1
@[simp] def d159l0:AC:=
 .seq (.region false [
 ao 20 (.bin .lss (.t 19) (.c (i64 21)))] [0,1,2,3,19,20]) (.seq (.cond (.t 20) (.skip) (.exit 0)) (.seq (.block 1 (.seq (.region false [
 ao 21 (.mv (.t 19)),
 ao 8 (.mv (.t 21))] [0,1,2,3,8,19]) (.seq (.region false [
 ao 22 (.mv (.c (i64 0)))] [0,1,2,3,8,19,22]) (.block 2 (b159l1))))) (.region false [
 ao 57 (.bin .add (.t 19) (.c (i64 1))),
 ao 19 (.mv (.t 57))] [0,1,2,3,19])))
def b159l0:AC:= .loop [0,1,2,3,19] [] d159l0
def b159:AC:=
 .seq (.seq (.region false [
 ao 10 (.mv (.t 3)),
 ao 11 (.mv (.t 0)),
 ao 12 (.mv (.t 1)),
 ao 13 (.mv (.t 2)),
 ao 14 (.nilck (.t 11)),
 ao 15 (.idxa 21 21 (.t 14) (.t 12)),
 ao 16 (.idxa 21 1 (.t 15) (.t 13)),
 ao 17 (.load none (.t 16)),
 ao 18 (.bin .geq (.t 10) (.t 17))] [0,1,2,3,18]) (.cond (.t 18) (.ret) (.skip))) (.seq (.region false [
 ao 19 (.mv (.c (i64 0)))] [0,1,2,3,19]) (.block 0 (b159l0)))
def a159:AFn:=⟨4,[],b159,false⟩
def n159:Ann:=⟨[[0,1,2,3,18],[0,1,2,3,19],[0,1,2,3,19,20],[0,1,2,3,8,19],[0,1,2,3,8,19,22],[0,1,2,3,8,19,22,23],[0,1,2,3,8,9,19,22],[0,1,2,3,8,19,22],[0,1,2,3,8,19,22],[0,1,2,3,19]],[⟨[],[0,1,2,3,19],[]⟩,⟨[],[0,1,2,3,8,19,22],[]⟩],[],[],[],false,[]⟩
def b160:AC:=
 .seq (.region false [
 ao 3 (.box (.t 1))] [0,3]) (.region true (spl [
 ao 4 (.mv (.t 0)),
 ap 5 (.nilck (.t 4)) [0],
 ap 6 (.faddr 4 (.t 5)) [1,0],
 ao 7 (.mv (.t 0)),
 ao 8 (.faddr 0 (.t 3)),
 ap 9 (.load none (.t 8)) [4],
 ao 10 (.faddr 1 (.t 3)),
 ap 11 (.load none (.t 10)) [6],
 ap 12 (.bin .add (.t 11) (.c (i64 1))) [7,6],
 ap 13 (.call 116 [(.t 7),(.t 9),(.t 12)]) [3,5,8,4,7,6],
 ao 14 (.mv (.t 0)),
 ao 15 (.faddr 0 (.t 3)),
 ap 16 (.load none (.t 15)) [11],
 ao 17 (.faddr 1 (.t 3)),
 ap 18 (.load none (.t 17)) [13],
 ap 19 (.call 116 [(.t 14),(.t 16),(.t 18)]) [10,12,14,9,11,13,3,5,8,4,7,6],
 ao 20 (.faddr 2 (.t 3)),
 ap 21 (.load none (.t 20)) [16],
 ao 22 (.faddr 3 (.t 3)),
 ap 23 (.load none (.t 22)) [18],
 ap 24 (.build [(i64 0),(i64 0)] [(0,1,(.t 21)),(1,1,(.t 23))]) [17,19,16,18]] [
 ap 25 (.call 174 [(.t 6),(.t 13),(.t 19),(.t 24)]) [2,20,15,1,0,17,19,16,18,10,12,14,9,11,13,3,5,8,4,7,6]]) [])
def a160:AFn:=⟨2,[],b160,false⟩
def n160:Ann:=⟨[[0,3],[]],[],[],[],[],false,[]⟩
def b161:AC:=
 .seq (.region false [
 ao 2 (.mv (.c (i64 0)))] [0]) (.seq (.region true (spl [
 ao 3 (.mv (.t 0)),
 ap 4 (.bin .shr (.t 3) (.c (.int .u64 24))) [0],
 ap 5 (.strix [0,1,1,2,1,2,2,3,1,2,2,3,2,3,3,4,1,2,2,3,2,3,3,4,2,3,3,4,3,4,4,5,1,2,2,3,2,3,3,4,2,3,3,4,3,4,4,5,2,3,3,4,3,4,4,5,3,4,4,5,4,5,5,6,1,2,2,3,2,3,3,4,2,3,3,4,3,4,4,5,2,3,3,4,3,4,4,5,3,4,4,5,4,5,5,6,2,3,3,4,3,4,4,5,3,4,4,5,4,5,5,6,3,4,4,5,4,5,5,6,4,5,5,6,5,6,6,7,1,2,2,3,2,3,3,4,2,3,3,4,3,4,4,5,2,3,3,4,3,4,4,5,3,4,4,5,4,5,5,6,2,3,3,4,3,4,4,5,3,4,4,5,4,5,5,6,3,4,4,5,4,5,5,6,4,5,5,6,5,6,6,7,2,3,3,4,3,4,4,5,3,4,4,5,4,5,5,6,3,4,4,5,4,5,5,6,4,5,5,6,5,6,6,7,3,4,4,5,4,5,5,6,4,5,5,6,5,6,6,7,4,5,5,6,5,6,6,7,5,6,6,7,6,7,7,8] (.t 4)) [1,0],
 ao 6 (.mv (.t 0)),
 ap 7 (.bin .shr (.t 6) (.c (.int .u64 16))) [3],
 ap 8 (.bin .and (.t 7) (.c (.int .u32 255))) [4,3],
 ap 9 (.strix [0,1,1,2,1,2,2,3,1,2,2,3,2,3,3,4,1,2,2,3,2,3,3,4,2,3,3,4,3,4,4,5,1,2,2,3,2,3,3,4,2,3,3,4,3,4,4,5,2,3,3,4,3,4,4,5,3,4,4,5,4,5,5,6,1,2,2,3,2,3,3,4,2,3,3,4,3,4,4,5,2,3,3,4,3,4,4,5,3,4,4,5,4,5,5,6,2,3,3,4,3,4,4,5,3,4,4,5,4,5,5,6,3,4,4,5,4,5,5,6,4,5,5,6,5,6,6,7,1,2,2,3,2,3,3,4,2,3,3,4,3,4,4,5,2,3,3,4,3,4,4,5,3,4,4,5,4,5,5,6,2,3,3,4,3,4,4,5,3,4,4,5,4,5,5,6,3,4,4,5,4,5,5,6,4,5,5,6,5,6,6,7,2,3,3,4,3,4,4,5,3,4,4,5,4,5,5,6,3,4,4,5,4,5,5,6,4,5,5,6,5,6,6,7,3,4,4,5,4,5,5,6,4,5,5,6,5,6,6,7,4,5,5,6,5,6,6,7,5,6,6,7,6,7,7,8] (.t 8)) [5,4,3],
 ap 10 (.bin .add (.t 5) (.t 9)) [2,6,1,0,5,4,3],
 ao 11 (.mv (.t 0)),
 ap 12 (.bin .shr (.t 11) (.c (.int .u64 8))) [8],
 ap 13 (.bin .and (.t 12) (.c (.int .u32 255))) [9,8],
 ap 14 (.strix [0,1,1,2,1,2,2,3,1,2,2,3,2,3,3,4,1,2,2,3,2,3,3,4,2,3,3,4,3,4,4,5,1,2,2,3,2,3,3,4,2,3,3,4,3,4,4,5,2,3,3,4,3,4,4,5,3,4,4,5,4,5,5,6,1,2,2,3,2,3,3,4,2,3,3,4,3,4,4,5,2,3,3,4,3,4,4,5,3,4,4,5,4,5,5,6,2,3,3,4,3,4,4,5,3,4,4,5,4,5,5,6,3,4,4,5,4,5,5,6,4,5,5,6,5,6,6,7,1,2,2,3,2,3,3,4,2,3,3,4,3,4,4,5,2,3,3,4,3,4,4,5,3,4,4,5,4,5,5,6,2,3,3,4,3,4,4,5,3,4,4,5,4,5,5,6,3,4,4,5,4,5,5,6,4,5,5,6,5,6,6,7,2,3,3,4,3,4,4,5,3,4,4,5,4,5,5,6,3,4,4,5,4,5,5,6,4,5,5,6,5,6,6,7,3,4,4,5,4,5,5,6,4,5,5,6,5,6,6,7,4,5,5,6,5,6,6,7,5,6,6,7,6,7,7,8] (.t 13)) [10,9,8],
 ap 15 (.bin .add (.t 10) (.t 14)) [7,11,2,6,1,0,5,4,3,10,9,8],
 ao 16 (.mv (.t 0)),
 ap 17 (.bin .and (.t 16) (.c (.int .u32 255))) [13],
 ap 18 (.strix [0,1,1,2,1,2,2,3,1,2,2,3,2,3,3,4,1,2,2,3,2,3,3,4,2,3,3,4,3,4,4,5,1,2,2,3,2,3,3,4,2,3,3,4,3,4,4,5,2,3,3,4,3,4,4,5,3,4,4,5,4,5,5,6,1,2,2,3,2,3,3,4,2,3,3,4,3,4,4,5,2,3,3,4,3,4,4,5,3,4,4,5,4,5,5,6,2,3,3,4,3,4,4,5,3,4,4,5,4,5,5,6,3,4,4,5,4,5,5,6,4,5,5,6,5,6,6,7,1,2,2,3,2,3,3,4,2,3,3,4,3,4,4,5,2,3,3,4,3,4,4,5,3,4,4,5,4,5,5,6,2,3,3,4,3,4,4,5,3,4,4,5,4,5,5,6,3,4,4,5,4,5,5,6,4,5,5,6,5,6,6,7,2,3,3,4,3,4,4,5,3,4,4,5,4,5,5,6,3,4,4,5,4,5,5,6,4,5,5,6,5,6,6,7,3,4,4,5,4,5,5,6,4,5,5,6,5,6,6,7,4,5,5,6,5,6,6,7,5,6,6,7,6,7,7,8] (.t 17)) [14,13]] [
 ap 19 (.bin .add (.t 15) (.t 18)) [12,15,7,11,2,6,1,0,5,4,3,10,9,8,14,13],
 ap 20 (.conv .i64 (.t 19)) [16,12,15,7,11,2,6,1,0,5,4,3,10,9,8,14,13],
 ap 2 (.mv (.t 20)) [17,16,12,15,7,11,2,6,1,0,5,4,3,10,9,8,14,13]]) [2]) (.ret))
def a161:AFn:=⟨1,[.t 2],b161,false⟩
def n161:Ann:=⟨[[0],[2]],[],[],[],[],false,[]⟩
def b162:AC:=
 .seq (.region false [
 ao 2 (.mv (.c (i64 0)))] [0]) (.seq (.region false [
 ao 3 (.mv (.t 0)),
 ao 4 (.bin .shr (.t 3) (.c (.int .u64 1))),
 ao 5 (.bin .and (.t 4) (.c (.int .u64 6148914691236517205))),
 ao 6 (.mv (.t 0)),
 ao 7 (.bin .and (.t 6) (.c (.int .u64 6148914691236517205))),
 ao 8 (.bin .add (.t 5) (.t 7)),
 ao 0 (.mv (.t 8))] [0]) (.seq (.region false [
 ao 9 (.mv (.t 0)),
 ao 10 (.bin .shr (.t 9) (.c (.int .u64 2))),
 ao 11 (.bin .and (.t 10) (.c (.int .u64 3689348814741910323))),
 ao 12 (.mv (.t 0)),
 ao 13 (.bin .and (.t 12) (.c (.int .u64 3689348814741910323))),
 ao 14 (.bin .add (.t 11) (.t 13)),
 ao 0 (.mv (.t 14))] [0]) (.seq (.region false [
 ao 15 (.mv (.t 0)),
 ao 16 (.bin .shr (.t 15) (.c (.int .u64 4))),
 ao 17 (.mv (.t 0)),
 ao 18 (.bin .add (.t 16) (.t 17)),
 ao 19 (.bin .and (.t 18) (.c (.int .u64 1085102592571150095))),
 ao 0 (.mv (.t 19))] [0]) (.seq (.region false [
 ao 20 (.mv (.t 0)),
 ao 21 (.mv (.t 0)),
 ao 22 (.bin .shr (.t 21) (.c (.int .u64 8))),
 ao 23 (.bin .add (.t 20) (.t 22)),
 ao 0 (.mv (.t 23))] [0]) (.seq (.region false [
 ao 24 (.mv (.t 0)),
 ao 25 (.mv (.t 0)),
 ao 26 (.bin .shr (.t 25) (.c (.int .u64 16))),
 ao 27 (.bin .add (.t 24) (.t 26)),
 ao 0 (.mv (.t 27))] [0]) (.seq (.region false [
 ao 28 (.mv (.t 0)),
 ao 29 (.mv (.t 0)),
 ao 30 (.bin .shr (.t 29) (.c (.int .u64 32))),
 ao 31 (.bin .add (.t 28) (.t 30)),
 ao 0 (.mv (.t 31))] [0]) (.seq (.region false [
 ao 32 (.mv (.t 0)),
 ao 33 (.conv .i64 (.t 32)),
 ao 34 (.bin .and (.t 33) (.c (i64 127))),
 ao 2 (.mv (.t 34))] [2]) (.ret))))))))
def a162:AFn:=⟨1,[.t 2],b162,false⟩
def n162:Ann:=⟨[[0],[0],[0],[0],[0],[0],[0],[2]],[],[],[],[],false,[]⟩
@[simp] def d163l1:AC:=
 .seq (.seq (.region true (spl [
 ao 18 (.mv (.t 9)),
 ao 19 (.mv (.t 1)),
 ap 20 (.bin .gtr (.t 18) (.t 19)) [0,1],
 ap 21 (.mv (.t 20)) [2,0,1],
 ag 22 (.mv (.t 3)) 21 true [3,2,0,1],
 ag 23 (.mv (.t 0)) 21 true [3,2,0,1],
 ag 24 (.mv (.t 9)) 21 true [3,2,0,1],
 ag 25 (.idxs 5 (.t 23) (.t 24)) 21 true [5,6,3,2,0,1],
 ag 26 (.load (some 5) (.t 25)) 21 true [7,5,6,3,2,0,1],
 ag 27 (.mv (.t 0)) 21 true [3,2,0,1],
 ag 28 (.mv (.t 9)) 21 true [3,2,0,1],
 ag 29 (.bin .sub (.t 28) (.c (i64 1))) 21 true [10,3,2,0,1],
 ag 30 (.idxs 5 (.t 27) (.t 29)) 21 true [9,11,10,3,2,0,1],
 ag 31 (.load (some 5) (.t 30)) 21 true [12,9,11,10,3,2,0,1]] [
 ag 32 (.callv (.t 22) [(.t 26),(.t 31)]) 21 true [4,8,13,7,5,6,12,9,11,10,3,2,0,1],
 ag 33 (.bin .lss (.t 32) (.c (i64 0))) 21 true [14,4,8,13,7,5,6,12,9,11,10,3,2,0,1],
 ap 34 (.pick (.t 21) (.t 33) (.c (.bool false))) [15,14,4,8,13,7,5,6,12,9,11,10,3,2,0,1]]) [0,1,2,3,8,9,34]) (.cond (.t 34) (.skip) (.exit 2))) (.seq (.block 3 (.region true (spl [
 ao 37 (.mv (.t 0)),
 ao 38 (.mv (.t 9)),
 ⟨(some 39), .mv (.t 0),none,[],[816]⟩,
 ⟨(some 40), .mv (.t 9),none,[],[816]⟩,
 ⟨(some 41), .bin .sub (.t 40) (.c (i64 1)),none,[3],[816]⟩,
 ao 42 (.mv (.t 0)),
 ao 43 (.mv (.t 9)),
 ap 44 (.bin .sub (.t 43) (.c (i64 1))) [6],
 ap 45 (.idxs 5 (.t 42) (.t 44)) [5,7,6],
 ap 46 (.load (some 5) (.t 45)) [8,5,7,6],
 ao 47 (.mv (.t 0)),
 ao 48 (.mv (.t 9)),
 ap 49 (.idxs 5 (.t 47) (.t 48)) [10,11],
 ap 50 (.load (some 5) (.t 49)) [12,10,11],
 ap 51 (.idxs 5 (.t 37) (.t 38)) [0,1,9,13,8,5,7,6,12,10,11],
 ⟨none, .store 5 (.t 51) (.t 46),none,[14,0,1,9,13,8,5,7,6,12,10,11],[]⟩] [
 ap 52 (.idxs 5 (.t 39) (.t 41)) [2,4,15,3,14,0,1,9,13,8,5,7,6,12,10,11],
 ⟨none, .store 5 (.t 52) (.t 50),none,[16,2,4,15,3,14,0,1,9,13,8,5,7,6,12,10,11],[]⟩]) [0,1,2,3,8,9])) (.region false [
 ao 35 (.mv (.t 9)),
 ao 36 (.bin .sub (.t 35) (.c (i64 1))),
 ao 9 (.mv (.t 36))] [0,1,2,3,8,9]))
def b163l1:AC:= .loop [0,1,2,3,8,9] [] d163l1
@[simp] def d163l0:AC:=
 .seq (.seq (.region false [
 ao 12 (.mv (.t 8)),
 ao 13 (.mv (.t 2)),
 ao 14 (.bin .lss (.t 12) (.t 13))] [0,1,2,3,8,14]) (.cond (.t 14) (.skip) (.exit 0))) (.seq (.block 1 (.seq (.region false [
 ao 17 (.mv (.t 8)),
 ao 9 (.mv (.t 17))] [0,1,2,3,8,9]) (.block 2 (b163l1)))) (.region false [
 ao 15 (.mv (.t 8)),
 ao 16 (.bin .add (.t 15) (.c (i64 1))),
 ao 8 (.mv (.t 16))] [0,1,2,3,8]))
def b163l0:AC:= .loop [0,1,2,3,8] [] d163l0
def b163:AC:=
 .seq (.region false [
 ao 10 (.mv (.t 1)),
 ao 11 (.bin .add (.t 10) (.c (i64 1))),
 ao 8 (.mv (.t 11))] [0,1,2,3,8]) (.block 0 (b163l0))
def a163:AFn:=⟨4,[],b163,false⟩
def n163:Ann:=⟨[[0,1,2,3,8],[0,1,2,3,8,14],[0,1,2,3,8,9],[0,1,2,3,8,9,34],[0,1,2,3,8,9],[0,1,2,3,8,9],[0,1,2,3,8]],[⟨[],[0,1,2,3,8],[]⟩,⟨[],[0,1,2,3,8,9],[]⟩],[],[],[],false,[]⟩
def b172:AC:=
 .seq (.region false [
 ao 2 (.mv (.c (i64 0)))] [0,2]) (.seq (.seq (.region false [
 ao 3 (.mv (.t 0)),
 ao 4 (.bin .geq (.t 3) (.c (.int .u64 4294967296)))] [0,2,4]) (.cond (.t 4) (.seq (.region false [
 ao 5 (.mv (.t 0)),
 ao 6 (.bin .shr (.t 5) (.c (.int .u64 32))),
 ao 0 (.mv (.t 6))] [0]) (.region false [
 ao 2 (.mv (.c (i64 32)))] [0,2])) (.skip))) (.seq (.seq (.region false [
 ao 7 (.mv (.t 0)),
 ao 8 (.bin .geq (.t 7) (.c (.int .u64 65536)))] [0,2,8]) (.cond (.t 8) (.seq (.region false [
 ao 9 (.mv (.t 0)),
 ao 10 (.bin .shr (.t 9) (.c (.int .u64 16))),
 ao 0 (.mv (.t 10))] [0,2]) (.region false [
 ao 11 (.mv (.t 2)),
 ao 12 (.bin .add (.t 11) (.c (i64 16))),
 ao 2 (.mv (.t 12))] [0,2])) (.skip))) (.seq (.seq (.region false [
 ao 13 (.mv (.t 0)),
 ao 14 (.bin .geq (.t 13) (.c (.int .u64 256)))] [0,2,14]) (.cond (.t 14) (.seq (.region false [
 ao 15 (.mv (.t 0)),
 ao 16 (.bin .shr (.t 15) (.c (.int .u64 8))),
 ao 0 (.mv (.t 16))] [0,2]) (.region false [
 ao 17 (.mv (.t 2)),
 ao 18 (.bin .add (.t 17) (.c (i64 8))),
 ao 2 (.mv (.t 18))] [0,2])) (.skip))) (.seq (.region false [
 ao 19 (.mv (.t 2)),
 ao 20 (.mv (.t 0)),
 ao 21 (.conv .u8 (.t 20)),
 ao 22 (.strix [0,1,2,2,3,3,3,3,4,4,4,4,4,4,4,4,5,5,5,5,5,5,5,5,5,5,5,5,5,5,5,5,6,6,6,6,6,6,6,6,6,6,6,6,6,6,6,6,6,6,6,6,6,6,6,6,6,6,6,6,6,6,6,6,7,7,7,7,7,7,7,7,7,7,7,7,7,7,7,7,7,7,7,7,7,7,7,7,7,7,7,7,7,7,7,7,7,7,7,7,7,7,7,7,7,7,7,7,7,7,7,7,7,7,7,7,7,7,7,7,7,7,7,7,7,7,7,7,8,8,8,8,8,8,8,8,8,8,8,8,8,8,8,8,8,8,8,8,8,8,8,8,8,8,8,8,8,8,8,8,8,8,8,8,8,8,8,8,8,8,8,8,8,8,8,8,8,8,8,8,8,8,8,8,8,8,8,8,8,8,8,8,8,8,8,8,8,8,8,8,8,8,8,8,8,8,8,8,8,8,8,8,8,8,8,8,8,8,8,8,8,8,8,8,8,8,8,8,8,8,8,8,8,8,8,8,8,8,8,8,8,8,8,8,8,8,8,8,8,8,8,8,8,8,8,8] (.t 21)),
 ao 23 (.conv .i64 (.t 22)),
 ao 24 (.bin .add (.t 19) (.t 23)),
 ao 2 (.mv (.t 24))] [2]) (.ret)))))
def a172:AFn:=⟨1,[.t 2],b172,false⟩
def n172:Ann:=⟨[[0,2],[0,2,4],[0],[0,2],[0,2,8],[0,2],[0,2],[0,2,14],[0,2],[0,2],[2]],[],[],[],[],false,[]⟩
def b173:AC:=
 .seq (.region false [
 ao 2 (.mv (.c (.bool false)))] [0]) (.seq (.region false [
 ao 3 (.mv (.t 0)),
 ao 4 (.mv (.t 0)),
 ao 5 (.bin .neq (.t 3) (.t 4)),
 ao 2 (.mv (.t 5))] [2]) (.ret))
def a173:AFn:=⟨1,[.t 2],b173,false⟩
def n173:Ann:=⟨[[0],[2]],[],[],[],[],false,[]⟩
def b174:AC:=
 .seq (.region false [
 ao 7 (.box (.t 3))] [0,1,2,7]) (.seq (.region false [
 ao 8 (.mv (.t 0)),
 ao 9 (.mv (.t 1)),
 ao 10 (.mv (.t 2)),
 ao 11 (.faddr 1 (.t 7)),
 ao 12 (.load none (.t 11)),
 ao 13 (.call 159 [(.t 8),(.t 9),(.t 10),(.t 12)])] [0,1,2,7]) (.region false [
 ao 14 (.mv (.t 0)),
 ao 15 (.mv (.t 2)),
 ao 16 (.mv (.t 1)),
 ao 17 (.faddr 0 (.t 7)),
 ao 18 (.load none (.t 17)),
 ao 19 (.un .neg (.t 18)),
 ao 20 (.call 159 [(.t 14),(.t 15),(.t 16),(.t 19)])] []))
def a174:AFn:=⟨4,[],b174,false⟩
def n174:Ann:=⟨[[0,1,2,7],[0,1,2,7],[]],[],[],[],[],false,[]⟩
end Go.Proofs.YthghcainodgnkaaGreat
