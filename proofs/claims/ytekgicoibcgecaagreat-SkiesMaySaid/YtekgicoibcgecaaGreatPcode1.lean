/-
  MADE BY PROGRAM (mkt.py, out of what Gen.lean prints): the functions' code for the evaluator.
-/
import Derived.Test.YtekgicoibcgecaaGreatAb6
set_option linter.unusedSimpArgs false
set_option linter.unusedVariables false
namespace Go.Proofs.YtekgicoibcgecaaGreat
open Go.Ab
/-- almadraba/almadrabalaw13.SkiesMay -/
def b3 : AC :=
 .seq (.region false [
 ao 3 (.box (.t 0)),
 ao 6 (.mv (.c (.bool false)))] [1, 2, 3]) (.seq (.seq (.region false [
 ao 20 (.load (some 15) (.t 3)),
 ao 21 (.call 8 [(.t 20)])] [1, 2, 3, 21]) (.cond (.t 21) (.seq (.region false [
 ao 22 (.call 9 []),
 ao 6 (.mv (.t 22))] [6]) (.ret)) (.skip))) (.seq (.region false [
 ao 23 (.load (some 15) (.t 3)),
 ao 24 (.call 10 [(.t 23)]),
 ao 7 (.alloc [(i64 0), (i64 0), (i64 0), (i64 0), (.sl .full 2 []), (.sl .full 2 []), (.sl .full 5 []), (i64 0), (i64 0), (.sl .full 2 []), (.sl .full 2 []), (.sl .full 4 []), (.sl .full 1 []), (.sl .full 1 []), (.sl .full 2 [])]),
 ⟨none, .store 15 (.t 7) (.t 24), none, [], []⟩] [1, 2, 3, 7]) (.seq (.seq (.seq (.freeze [384, 1384, 2384, 3384, 4384, 5384, 6384, 7384, 8384]) (.region true (spl [
 ao 25 (.load (some 15) (.t 7)),
 ap 26 (.call 11 [(.t 25)]) [0],
 ao 27 (.load (some 15) (.t 3))] [
 ap 28 (.call 12 [(.t 27)]) [2, 1, 0],
 ap 29 (.bin .neq (.t 26) (.t 28)) [3, 2, 1, 0]]) [1, 2, 3, 7, 29])) (.cond (.t 29) (.seq (.region false [
 ao 6 (.mv (.c (.bool false)))] [6]) (.ret)) (.skip))) (.seq (.region false [
 ao 31 (.load (some 15) (.t 7)),
 ao 32 (.mv (.t 2)),
 ao 33 (.call 13 [(.t 31), (.t 32)]),
 ao 30 (.mv (.t 33)),
 ao 34 (.ext (.t 30) 0),
 ao 35 (.ext (.t 30) 1),
 ao 8 (.mv (.t 34)),
 ao 9 (.mv (.t 35))] [1, 2, 3, 7, 8, 9]) (.seq (.region false [
 ao 37 (.load (some 15) (.t 3)),
 ao 38 (.mv (.t 2)),
 ao 39 (.call 14 [(.t 37), (.t 38)]),
 ao 36 (.mv (.t 39)),
 ao 40 (.ext (.t 36) 0),
 ao 41 (.ext (.t 36) 1),
 ao 10 (.mv (.t 40)),
 ao 11 (.mv (.t 41))] [1, 2, 3, 7, 8, 9, 10, 11]) (.seq (.region false [
 ao 43 (.load (some 15) (.t 7)),
 ao 44 (.mv (.t 1)),
 ao 45 (.call 15 [(.t 43), (.t 44)]),
 ao 42 (.mv (.t 45)),
 ao 46 (.ext (.t 42) 0),
 ao 47 (.ext (.t 42) 1),
 ao 12 (.mv (.t 46)),
 ao 13 (.mv (.t 47))] [1, 2, 3, 7, 8, 9, 10, 11, 12, 13]) (.seq (.region false [
 ao 49 (.load (some 15) (.t 3)),
 ao 50 (.mv (.t 1)),
 ao 51 (.call 16 [(.t 49), (.t 50)]),
 ao 48 (.mv (.t 51)),
 ao 52 (.ext (.t 48) 0),
 ao 53 (.ext (.t 48) 1),
 ao 14 (.mv (.t 52)),
 ao 15 (.mv (.t 53))] [1, 2, 3, 7, 8, 9, 10, 11, 12, 13, 14, 15]) (.seq (.region false [
 ao 55 (.load (some 15) (.t 7)),
 ao 56 (.mv (.t 1)),
 ao 57 (.mv (.t 2)),
 ao 58 (.call 17 [(.t 55), (.t 56), (.t 57)]),
 ao 54 (.mv (.t 58)),
 ao 59 (.ext (.t 54) 0),
 ao 60 (.ext (.t 54) 1),
 ao 16 (.mv (.t 59)),
 ao 17 (.mv (.t 60))] [1, 2, 3, 7, 8, 9, 10, 11, 12, 13, 14, 15, 16, 17]) (.seq (.region false [
 ao 62 (.load (some 15) (.t 3)),
 ao 63 (.mv (.t 1)),
 ao 64 (.mv (.t 2)),
 ao 65 (.call 18 [(.t 62), (.t 63), (.t 64)]),
 ao 61 (.mv (.t 65)),
 ao 66 (.ext (.t 61) 0),
 ao 67 (.ext (.t 61) 1),
 ao 18 (.mv (.t 66)),
 ao 19 (.mv (.t 67))] [3, 7, 8, 9, 10, 11, 12, 13, 14, 15, 16, 17, 18, 19]) (.seq (.region false [
 ao 68 (.mv (.t 8)),
 ao 69 (.mv (.t 10)),
 ao 70 (.bin .eql (.t 68) (.t 69)),
 ao 71 (.mv (.t 70)),
 ag 72 (.mv (.t 9)) 71 true [],
 ag 73 (.mv (.t 11)) 71 true [],
 ag 74 (.bin .eql (.t 72) (.t 73)) 71 true [],
 ao 75 (.pick (.t 71) (.t 74) (.c (.bool false))),
 ao 76 (.mv (.t 75)),
 ag 77 (.mv (.t 12)) 76 true [],
 ag 78 (.mv (.t 14)) 76 true [],
 ag 79 (.eqb false (.t 77) (.t 78)) 76 true [],
 ao 80 (.pick (.t 76) (.t 79) (.c (.bool false))),
 ao 81 (.mv (.t 80)),
 ag 82 (.mv (.t 13)) 81 true [],
 ag 83 (.mv (.t 15)) 81 true [],
 ag 84 (.bin .eql (.t 82) (.t 83)) 81 true [],
 ao 85 (.pick (.t 81) (.t 84) (.c (.bool false))),
 ao 86 (.mv (.t 85)),
 ag 87 (.mv (.t 16)) 86 true [],
 ag 88 (.mv (.t 18)) 86 true [],
 ag 89 (.eqb false (.t 87) (.t 88)) 86 true [],
 ao 90 (.pick (.t 86) (.t 89) (.c (.bool false))),
 ao 91 (.mv (.t 90)),
 ag 92 (.mv (.t 17)) 91 true [],
 ag 93 (.mv (.t 19)) 91 true [],
 ag 94 (.bin .eql (.t 92) (.t 93)) 91 true [],
 ao 95 (.pick (.t 91) (.t 94) (.c (.bool false))),
 ao 96 (.mv (.t 95)),
 ag 97 (.load (some 15) (.t 7)) 96 true [],
 ag 98 (.load (some 15) (.t 3)) 96 true [],
 ag 99 (.call 19 [(.t 97), (.t 98)]) 96 true [],
 ao 100 (.pick (.t 96) (.t 99) (.c (.bool false))),
 ao 101 (.mv (.t 100)),
 ag 102 (.call 9 []) 101 true [],
 ao 103 (.pick (.t 101) (.t 102) (.c (.bool false))),
 ao 6 (.mv (.t 103))] [6]) (.ret)))))))))))
def a3 : AFn := ⟨3, [.t 6], b3, false⟩
def n3 : Ann := ⟨[[1, 2, 3], [1, 2, 3, 21], [6], [1, 2, 3, 7], [1, 2, 3, 7, 29], [6], [1, 2, 3, 7, 8, 9], [1, 2, 3, 7, 8, 9, 10, 11], [1, 2, 3, 7, 8, 9, 10, 11, 12, 13], [1, 2, 3, 7, 8, 9, 10, 11, 12, 13, 14, 15], [1, 2, 3, 7, 8, 9, 10, 11, 12, 13, 14, 15, 16, 17], [3, 7, 8, 9, 10, 11, 12, 13, 14, 15, 16, 17, 18, 19], [6]], [], [], [[], [], [], [], [384, 1384, 2384, 3384, 4384, 5384, 6384, 7384, 8384], [], [], [], [], [], [], [], []], [], false, [(93, 1040), (92, 928), (88, 1040), (87, 928), (83, 816), (82, 720), (78, 816), (77, 720), (73, 624), (72, 528), (69, 624), (68, 528), (19, 1040), (18, 1040), (67, 1040), (66, 1040), (61, 1040), (17, 928), (16, 928), (60, 928), (59, 928), (54, 928), (15, 816), (14, 816), (53, 816), (52, 816), (48, 816), (13, 720), (12, 720), (47, 720), (46, 720), (42, 720), (11, 624), (10, 624), (41, 624), (40, 624), (36, 624), (9, 528), (8, 528), (35, 528), (34, 528), (30, 528), (6, 352)]⟩
/-- almadraba/almadrabalaw13.Far -/
@[simp] def d8l0 : AC :=
 .seq (.seq (.region false [
 ao 20 (.mv (.t 4)),
 ao 21 (.faddr 11 (.t 1)),
 ao 22 (.load none (.t 21)),
 ao 23 (.len (.t 22)),
 ao 24 (.bin .lss (.t 20) (.t 23))] [1, 3, 4, 24]) (.cond (.t 24) (.skip) (.exit 0))) (.seq (.block 1 (.region false [
 ao 27 (.mv (.t 3)),
 ao 28 (.mv (.t 27)),
 ag 29 (.load (some 15) (.t 1)) 28 false [],
 ag 30 (.mv (.t 4)) 28 false [],
 ag 31 (.call 47 [(.t 29), (.t 30)]) 28 false [],
 ag 32 (.call 46 [(.t 31)]) 28 false [],
 ao 33 (.pick (.t 28) (.c (.bool true)) (.t 32)),
 ao 3 (.mv (.t 33))] [1, 3, 4])) (.region false [
 ao 25 (.mv (.t 4)),
 ao 26 (.bin .add (.t 25) (.c (i64 1))),
 ao 4 (.mv (.t 26))] [1, 3, 4]))
def b8l0 : AC := .loop [1, 3, 4] [16, 96, 128] d8l0
/-- almadraba/almadrabalaw13.Far -/
def b8 : AC :=
 .seq (.region false [
 ao 1 (.box (.t 0)),
 ao 2 (.mv (.c (.bool false)))] [1]) (.seq (.seq (.region false [
 ao 5 (.load (some 15) (.t 1)),
 ao 6 (.call 45 [(.t 5)])] [1, 6]) (.cond (.t 6) (.seq (.region false [
 ao 2 (.mv (.c (.bool true)))] [2]) (.ret)) (.skip))) (.seq (.seq (.region false [
 ao 7 (.load (some 15) (.t 1)),
 ao 8 (.call 12 [(.t 7)]),
 ao 9 (.bin .neq (.t 8) (.c (i64 0)))] [1, 9]) (.cond (.t 9) (.seq (.region false [
 ao 2 (.mv (.c (.bool false)))] [2]) (.ret)) (.skip))) (.seq (.region false [
 ao 10 (.faddr 11 (.t 1)),
 ao 11 (.load none (.t 10)),
 ao 12 (.len (.t 11)),
 ao 13 (.bin .gtr (.t 12) (.c (i64 3))),
 ao 14 (.mv (.t 13)),
 ag 15 (.faddr 14 (.t 1)) 14 false [],
 ag 16 (.load none (.t 15)) 14 false [],
 ag 17 (.len (.t 16)) 14 false [],
 ag 18 (.bin .gtr (.t 17) (.c (i64 4))) 14 false [],
 ao 19 (.pick (.t 14) (.c (.bool true)) (.t 18)),
 ao 3 (.mv (.t 19))] [1, 3]) (.seq (.seq (.region false [
 ao 4 (.mv (.c (i64 0)))] [1, 3, 4]) (.block 0 (b8l0))) (.seq (.region false [
 ao 34 (.mv (.t 3)),
 ao 2 (.mv (.t 34))] [2]) (.ret))))))
def a8 : AFn := ⟨1, [.t 2], b8, false⟩
def n8 : Ann := ⟨[[1], [1, 6], [2], [1, 9], [2], [1, 3], [1, 3, 4], [1, 3, 4, 24], [1, 3, 4], [1, 3, 4], [2]], [⟨[], [1, 3, 4], [16, 96, 128]⟩], [], [], [], false, []⟩
/-- almadraba/almadrabalaw13.works -/
def b9 : AC :=
 .seq (.region false [
 ao 0 (.mv (.c (.bool false)))] []) (.seq (.region false [
 ao 14 (.call 48 []),
 ao 1 (.alloc [(i64 0), (i64 0), (i64 0), (i64 0), (.sl .full 2 []), (.sl .full 2 []), (.sl .full 5 []), (i64 0), (i64 0), (.sl .full 2 []), (.sl .full 2 []), (.sl .full 4 []), (.sl .full 1 []), (.sl .full 1 []), (.sl .full 2 [])]),
 ⟨none, .store 15 (.t 1) (.t 14), none, [], []⟩] [1]) (.seq (.region false [
 ao 16 (.load (some 15) (.t 1)),
 ao 17 (.call 13 [(.t 16), (.c (i64 1))]),
 ao 15 (.mv (.t 17)),
 ao 18 (.ext (.t 15) 0),
 ao 19 (.ext (.t 15) 1),
 ao 2 (.mv (.t 18)),
 ao 3 (.mv (.t 19))] [1, 2, 3]) (.seq (.region false [
 ao 21 (.load (some 15) (.t 1)),
 ao 22 (.call 15 [(.t 21), (.c (i64 1))]),
 ao 20 (.mv (.t 22)),
 ao 23 (.ext (.t 20) 0),
 ao 24 (.ext (.t 20) 1),
 ao 4 (.mv (.t 23)),
 ao 5 (.mv (.t 24))] [1, 2, 3, 4, 5]) (.seq (.region false [
 ao 26 (.load (some 15) (.t 1)),
 ao 27 (.call 33 [(.t 26), (.c (i64 0)), (.c (i64 1))]),
 ao 25 (.mv (.t 27)),
 ao 28 (.ext (.t 25) 0),
 ao 29 (.ext (.t 25) 1),
 ao 6 (.mv (.t 28)),
 ao 7 (.mv (.t 29))] [1, 2, 3, 4, 5, 6, 7]) (.seq (.region false [
 ao 31 (.load (some 15) (.t 1)),
 ao 32 (.call 35 [(.t 31)]),
 ao 30 (.mv (.t 32)),
 ao 33 (.ext (.t 30) 0),
 ao 34 (.ext (.t 30) 1),
 ao 8 (.mv (.t 33)),
 ao 9 (.mv (.t 34))] [1, 2, 3, 4, 5, 6, 7, 8, 9]) (.seq (.region false [
 ao 36 (.load (some 15) (.t 1)),
 ao 37 (.call 25 [(.t 36)]),
 ao 35 (.mv (.t 37)),
 ao 38 (.ext (.t 35) 0),
 ao 39 (.ext (.t 35) 1),
 ao 10 (.alloc [(i64 0), (i64 0)]),
 ⟨none, .store 2 (.t 10) (.t 38), none, [], []⟩,
 ao 11 (.mv (.t 39))] [1, 2, 3, 4, 5, 6, 7, 8, 9, 10, 11]) (.seq (.region false [
 ao 41 (.load (some 15) (.t 1)),
 ao 42 (.call 27 [(.t 41)]),
 ao 40 (.mv (.t 42)),
 ao 43 (.ext (.t 40) 0),
 ao 44 (.ext (.t 40) 1),
 ao 12 (.mv (.t 43)),
 ao 13 (.mv (.t 44))] [2, 3, 4, 5, 6, 7, 8, 9, 10, 11, 12, 13]) (.seq (.region true (spl [
 ao 45 (.mv (.t 3)),
 ap 46 (.bin .eql (.t 45) (.c (i64 0))) [0],
 ap 47 (.mv (.t 46)) [1, 0],
 ag 48 (.mv (.t 5)) 47 true [2, 1, 0],
 ag 49 (.bin .eql (.t 48) (.c (i64 0))) 47 true [3, 2, 1, 0],
 ap 50 (.pick (.t 47) (.t 49) (.c (.bool false))) [4, 3, 2, 1, 0],
 ap 51 (.mv (.t 50)) [5, 4, 3, 2, 1, 0],
 ag 52 (.mv (.t 7)) 51 true [6, 5, 4, 3, 2, 1, 0],
 ag 53 (.bin .eql (.t 52) (.c (i64 0))) 51 true [7, 6, 5, 4, 3, 2, 1, 0],
 ap 54 (.pick (.t 51) (.t 53) (.c (.bool false))) [8, 7, 6, 5, 4, 3, 2, 1, 0],
 ap 55 (.mv (.t 54)) [9, 8, 7, 6, 5, 4, 3, 2, 1, 0],
 ag 56 (.mv (.t 9)) 55 true [10, 9, 8, 7, 6, 5, 4, 3, 2, 1, 0],
 ag 57 (.bin .eql (.t 56) (.c (i64 0))) 55 true [11, 10, 9, 8, 7, 6, 5, 4, 3, 2, 1, 0],
 ap 58 (.pick (.t 55) (.t 57) (.c (.bool false))) [12, 11, 10, 9, 8, 7, 6, 5, 4, 3, 2, 1, 0],
 ap 59 (.mv (.t 58)) [13, 12, 11, 10, 9, 8, 7, 6, 5, 4, 3, 2, 1, 0],
 ag 60 (.mv (.t 11)) 59 true [14, 13, 12, 11, 10, 9, 8, 7, 6, 5, 4, 3, 2, 1, 0],
 ag 61 (.bin .eql (.t 60) (.c (i64 0))) 59 true [15, 14, 13, 12, 11, 10, 9, 8, 7, 6, 5, 4, 3, 2, 1, 0],
 ap 62 (.pick (.t 59) (.t 61) (.c (.bool false))) [16, 15, 14, 13, 12, 11, 10, 9, 8, 7, 6, 5, 4, 3, 2, 1, 0],
 ap 63 (.mv (.t 62)) [17, 16, 15, 14, 13, 12, 11, 10, 9, 8, 7, 6, 5, 4, 3, 2, 1, 0],
 ag 64 (.mv (.t 13)) 63 true [18, 17, 16, 15, 14, 13, 12, 11, 10, 9, 8, 7, 6, 5, 4, 3, 2, 1, 0],
 ag 65 (.bin .eql (.t 64) (.c (i64 0))) 63 true [19, 18, 17, 16, 15, 14, 13, 12, 11, 10, 9, 8, 7, 6, 5, 4, 3, 2, 1, 0],
 ap 66 (.pick (.t 63) (.t 65) (.c (.bool false))) [20, 19, 18, 17, 16, 15, 14, 13, 12, 11, 10, 9, 8, 7, 6, 5, 4, 3, 2, 1, 0],
 ap 67 (.mv (.t 66)) [21, 20, 19, 18, 17, 16, 15, 14, 13, 12, 11, 10, 9, 8, 7, 6, 5, 4, 3, 2, 1, 0],
 ag 68 (.mv (.t 2)) 67 true [22, 21, 20, 19, 18, 17, 16, 15, 14, 13, 12, 11, 10, 9, 8, 7, 6, 5, 4, 3, 2, 1, 0],
 ag 69 (.bin .eql (.t 68) (.c (i64 3))) 67 true [23, 22, 21, 20, 19, 18, 17, 16, 15, 14, 13, 12, 11, 10, 9, 8, 7, 6, 5, 4, 3, 2, 1, 0],
 ap 70 (.pick (.t 67) (.t 69) (.c (.bool false))) [24, 23, 22, 21, 20, 19, 18, 17, 16, 15, 14, 13, 12, 11, 10, 9, 8, 7, 6, 5, 4, 3, 2, 1, 0],
 ap 71 (.mv (.t 70)) [25, 24, 23, 22, 21, 20, 19, 18, 17, 16, 15, 14, 13, 12, 11, 10, 9, 8, 7, 6, 5, 4, 3, 2, 1, 0],
 ag 72 (.mv (.t 4)) 71 true [26, 25, 24, 23, 22, 21, 20, 19, 18, 17, 16, 15, 14, 13, 12, 11, 10, 9, 8, 7, 6, 5, 4, 3, 2, 1, 0],
 ap 73 (.pick (.t 71) (.t 72) (.c (.bool false))) [27, 26, 25, 24, 23, 22, 21, 20, 19, 18, 17, 16, 15, 14, 13, 12, 11, 10, 9, 8, 7, 6, 5, 4, 3, 2, 1, 0],
 ap 74 (.mv (.t 73)) [28, 27, 26, 25, 24, 23, 22, 21, 20, 19, 18, 17, 16, 15, 14, 13, 12, 11, 10, 9, 8, 7, 6, 5, 4, 3, 2, 1, 0],
 ag 75 (.mv (.t 6)) 74 true [29, 28, 27, 26, 25, 24, 23, 22, 21, 20, 19, 18, 17, 16, 15, 14, 13, 12, 11, 10, 9, 8, 7, 6, 5, 4, 3, 2, 1, 0],
 ag 76 (.bin .eql (.t 75) (.c (i64 90))) 74 true [30, 29, 28, 27, 26, 25, 24, 23, 22, 21, 20, 19, 18, 17, 16, 15, 14, 13, 12, 11, 10, 9, 8, 7, 6, 5, 4, 3, 2, 1, 0],
 ap 77 (.pick (.t 74) (.t 76) (.c (.bool false))) [31, 30, 29, 28, 27, 26, 25, 24, 23, 22, 21, 20, 19, 18, 17, 16, 15, 14, 13, 12, 11, 10, 9, 8, 7, 6, 5, 4, 3, 2, 1, 0],
 ap 78 (.mv (.t 77)) [32, 31, 30, 29, 28, 27, 26, 25, 24, 23, 22, 21, 20, 19, 18, 17, 16, 15, 14, 13, 12, 11, 10, 9, 8, 7, 6, 5, 4, 3, 2, 1, 0],
 ag 79 (.mv (.t 8)) 78 true [33, 32, 31, 30, 29, 28, 27, 26, 25, 24, 23, 22, 21, 20, 19, 18, 17, 16, 15, 14, 13, 12, 11, 10, 9, 8, 7, 6, 5, 4, 3, 2, 1, 0],
 ag 80 (.bin .eql (.t 79) (.c (i64 60))) 78 true [34, 33, 32, 31, 30, 29, 28, 27, 26, 25, 24, 23, 22, 21, 20, 19, 18, 17, 16, 15, 14, 13, 12, 11, 10, 9, 8, 7, 6, 5, 4, 3, 2, 1, 0],
 ap 81 (.pick (.t 78) (.t 80) (.c (.bool false))) [35, 34, 33, 32, 31, 30, 29, 28, 27, 26, 25, 24, 23, 22, 21, 20, 19, 18, 17, 16, 15, 14, 13, 12, 11, 10, 9, 8, 7, 6, 5, 4, 3, 2, 1, 0],
 ap 82 (.mv (.t 81)) [36, 35, 34, 33, 32, 31, 30, 29, 28, 27, 26, 25, 24, 23, 22, 21, 20, 19, 18, 17, 16, 15, 14, 13, 12, 11, 10, 9, 8, 7, 6, 5, 4, 3, 2, 1, 0],
 ag 83 (.load (some 2) (.t 10)) 82 true [37, 36, 35, 34, 33, 32, 31, 30, 29, 28, 27, 26, 25, 24, 23, 22, 21, 20, 19, 18, 17, 16, 15, 14, 13, 12, 11, 10, 9, 8, 7, 6, 5, 4, 3, 2, 1, 0],
 ag 84 (.call 49 [(.c (i64 0)), (.c (i64 1))]) 82 true [37, 36, 35, 34, 33, 32, 31, 30, 29, 28, 27, 26, 25, 24, 23, 22, 21, 20, 19, 18, 17, 16, 15, 14, 13, 12, 11, 10, 9, 8, 7, 6, 5, 4, 3, 2, 1, 0]] [
 ag 85 (.eqa [true, true] false (.t 83) (.t 84)) 82 true [38, 39, 37, 36, 35, 34, 33, 32, 31, 30, 29, 28, 27, 26, 25, 24, 23, 22, 21, 20, 19, 18, 17, 16, 15, 14, 13, 12, 11, 10, 9, 8, 7, 6, 5, 4, 3, 2, 1, 0],
 ap 86 (.pick (.t 82) (.t 85) (.c (.bool false))) [40, 38, 39, 37, 36, 35, 34, 33, 32, 31, 30, 29, 28, 27, 26, 25, 24, 23, 22, 21, 20, 19, 18, 17, 16, 15, 14, 13, 12, 11, 10, 9, 8, 7, 6, 5, 4, 3, 2, 1, 0],
 ap 87 (.mv (.t 86)) [41, 40, 38, 39, 37, 36, 35, 34, 33, 32, 31, 30, 29, 28, 27, 26, 25, 24, 23, 22, 21, 20, 19, 18, 17, 16, 15, 14, 13, 12, 11, 10, 9, 8, 7, 6, 5, 4, 3, 2, 1, 0],
 ag 88 (.mv (.t 12)) 87 true [42, 41, 40, 38, 39, 37, 36, 35, 34, 33, 32, 31, 30, 29, 28, 27, 26, 25, 24, 23, 22, 21, 20, 19, 18, 17, 16, 15, 14, 13, 12, 11, 10, 9, 8, 7, 6, 5, 4, 3, 2, 1, 0],
 ag 89 (.bin .eql (.t 88) (.c (i64 30))) 87 true [43, 42, 41, 40, 38, 39, 37, 36, 35, 34, 33, 32, 31, 30, 29, 28, 27, 26, 25, 24, 23, 22, 21, 20, 19, 18, 17, 16, 15, 14, 13, 12, 11, 10, 9, 8, 7, 6, 5, 4, 3, 2, 1, 0],
 ap 90 (.pick (.t 87) (.t 89) (.c (.bool false))) [44, 43, 42, 41, 40, 38, 39, 37, 36, 35, 34, 33, 32, 31, 30, 29, 28, 27, 26, 25, 24, 23, 22, 21, 20, 19, 18, 17, 16, 15, 14, 13, 12, 11, 10, 9, 8, 7, 6, 5, 4, 3, 2, 1, 0],
 ap 0 (.mv (.t 90)) [45, 44, 43, 42, 41, 40, 38, 39, 37, 36, 35, 34, 33, 32, 31, 30, 29, 28, 27, 26, 25, 24, 23, 22, 21, 20, 19, 18, 17, 16, 15, 14, 13, 12, 11, 10, 9, 8, 7, 6, 5, 4, 3, 2, 1, 0]]) [0]) (.ret)))))))))
def a9 : AFn := ⟨0, [.t 0], b9, false⟩
def n9 : Ann := ⟨[[], [1], [1, 2, 3], [1, 2, 3, 4, 5], [1, 2, 3, 4, 5, 6, 7], [1, 2, 3, 4, 5, 6, 7, 8, 9], [1, 2, 3, 4, 5, 6, 7, 8, 9, 10, 11], [2, 3, 4, 5, 6, 7, 8, 9, 10, 11, 12, 13], [0]], [], [], [], [], false, [(88, 672), (79, 512), (75, 432), (72, 352), (68, 272), (64, 672), (60, 592), (56, 512), (52, 432), (48, 352), (45, 272), (13, 672), (12, 672), (44, 672), (43, 672), (40, 672), (11, 592), (39, 592), (38, 592), (35, 592), (9, 512), (8, 512), (34, 512), (33, 512), (30, 512), (7, 432), (6, 432), (29, 432), (28, 432), (25, 432), (5, 352), (4, 352), (24, 352), (23, 352), (20, 352), (3, 272), (2, 272), (19, 272), (18, 272), (15, 272)]⟩
/-- almadraba/almadrabaref13.Copy -/
@[simp] def d10l0 : AC :=
 .seq (.seq (.region false [
 ao 24 (.mv (.t 4)),
 ao 25 (.faddr 12 (.t 1)),
 ao 26 (.load none (.t 25)),
 ao 27 (.len (.t 26)),
 ao 28 (.bin .lss (.t 24) (.t 27))] [1, 2, 3, 4, 28]) (.cond (.t 28) (.skip) (.exit 0))) (.seq (.block 1 (.region true (spl [
 ao 31 (.faddr 12 (.t 3)),
 ap 32 (.load none (.t 31)) [0],
 ao 33 (.lit [(i64 0)] 0 []),
 ao 34 (.faddr 12 (.t 1)),
 ap 35 (.load none (.t 34)) [3],
 ao 36 (.mv (.t 4)),
 ap 37 (.idxs 1 (.t 35) (.t 36)) [4, 5, 3],
 ap 38 (.load none (.t 37)) [6, 4, 5, 3],
 ap 39 (.app 1 8 (.t 33) (.t 38)) [2, 7, 6, 4, 5, 3],
 ap 40 (.lit [(.sl .full 1 [])] 1 [(0, (.t 39))]) [8, 2, 7, 6, 4, 5, 3]] [
 ap 41 (.app 1 24 (.t 32) (.t 40)) [1, 9, 0, 8, 2, 7, 6, 4, 5, 3],
 ap 42 (.faddr 12 (.t 3)) [10, 1, 9, 0, 8, 2, 7, 6, 4, 5, 3],
 ⟨none, .store 1 (.t 42) (.t 41), none, [11, 10, 1, 9, 0, 8, 2, 7, 6, 4, 5, 3], []⟩]) [1, 2, 3, 4])) (.region false [
 ao 29 (.mv (.t 4)),
 ao 30 (.bin .add (.t 29) (.c (i64 1))),
 ao 4 (.mv (.t 30))] [1, 2, 3, 4]))
def b10l0 : AC := .loop [1, 2, 3, 4] [16, 32, 48, 62, 112, 160, 224, 288, 352, 1112, 1160, 2112, 2160, 3112, 3160, 4112, 4160, 5112, 5160, 6112, 6160, 7112, 7160, 8112, 8160] d10l0
/-- almadraba/almadrabaref13.Copy -/
def b10 : AC :=
 .seq (.region false [
 ao 1 (.box (.t 0)),
 ao 2 (.alloc [(i64 0), (i64 0), (i64 0), (i64 0), (.sl .full 2 []), (.sl .full 2 []), (.sl .full 5 []), (i64 0), (i64 0), (.sl .full 2 []), (.sl .full 2 []), (.sl .full 4 []), (.sl .full 1 []), (.sl .full 1 []), (.sl .full 2 [])])] [1, 2]) (.seq (.region true (spl [
 ao 5 (.faddr 0 (.t 1)),
 ap 6 (.load (some 7) (.t 5)) [0],
 ap 7 (.call 50 [(.t 6)]) [1, 0],
 ao 8 (.faddr 7 (.t 1)),
 ap 9 (.load (some 4) (.t 8)) [3],
 ap 10 (.call 51 [(.t 9)]) [4, 2, 3, 1, 0],
 ao 11 (.lit [(i64 0), (i64 0), (i64 0), (i64 0)] 0 []),
 ao 12 (.faddr 11 (.t 1)),
 ap 13 (.load none (.t 12)) [7],
 ap 14 (.appm 4 32 (.t 11) (.t 13)) [6, 8, 5, 7, 4, 2, 3, 1, 0],
 ao 15 (.lit [(i64 0)] 0 []),
 ao 16 (.faddr 13 (.t 1)),
 ap 17 (.load none (.t 16)) [11],
 ap 18 (.appm 1 8 (.t 15) (.t 17)) [10, 12, 9, 11, 6, 8, 5, 7, 4, 2, 3, 1, 0],
 ao 19 (.lit [(i64 0), (i64 0)] 0 []),
 ao 20 (.faddr 14 (.t 1)),
 ap 21 (.load none (.t 20)) [15],
 ap 22 (.appm 2 16 (.t 19) (.t 21)) [14, 16, 13, 15, 10, 12, 9, 11, 6, 8, 5, 7, 4, 2, 3, 1, 0],
 ap 23 (.build [(i64 0), (i64 0), (i64 0), (i64 0), (.sl .full 2 []), (.sl .full 2 []), (.sl .full 5 []), (i64 0), (i64 0), (.sl .full 2 []), (.sl .full 2 []), (.sl .full 4 []), (.sl .full 1 []), (.sl .full 1 []), (.sl .full 2 [])] [(0, 7, (.t 7)), (7, 4, (.t 10)), (11, 1, (.t 14)), (13, 1, (.t 18)), (14, 1, (.t 22))]) [17, 14, 16, 13, 15, 10, 12, 9, 11, 6, 8, 5, 7, 4, 2, 3, 1, 0],
 ao 3 (.alloc [(i64 0), (i64 0), (i64 0), (i64 0), (.sl .full 2 []), (.sl .full 2 []), (.sl .full 5 []), (i64 0), (i64 0), (.sl .full 2 []), (.sl .full 2 []), (.sl .full 4 []), (.sl .full 1 []), (.sl .full 1 []), (.sl .full 2 [])])] [
 ⟨none, .store 15 (.t 3) (.t 23), none, [18, 19, 17, 14, 16, 13, 15, 10, 12, 9, 11, 6, 8, 5, 7, 4, 2, 3, 1, 0], []⟩]) [1, 2, 3]) (.seq (.seq (.region false [
 ao 4 (.mv (.c (i64 0)))] [1, 2, 3, 4]) (.block 0 (.seq (.thawc 3 12 62 101) (b10l0)))) (.seq (.region false [
 ao 43 (.load (some 15) (.t 3)),
 ⟨none, .store 15 (.t 2) (.t 43), none, [], []⟩] [2]) (.ret))))
def a10 : AFn := ⟨1, [.cell 2 (some 15)], b10, true⟩
def n10 : Ann := ⟨[[1, 2], [1, 2, 3], [1, 2, 3, 4], [1, 2, 3, 4, 28], [1, 2, 3, 4], [1, 2, 3, 4], [2]], [⟨[.c 3 12 62 101], [1, 2, 3, 4], [16, 32, 48, 62, 112, 160, 224, 288, 352, 1112, 1160, 2112, 2160, 3112, 3160, 4112, 4160, 5112, 5160, 6112, 6160, 7112, 7160, 8112, 8160]⟩], [], [], [14, 18, 22], true, []⟩
/-- almadraba/skies.Check -/
@[simp] def d11l0 : AC :=
 .seq (.region false [
 ao 52 (.bin .lss (.t 51) (.t 50))] [1, 3, 49, 50, 51, 52]) (.seq (.cond (.t 52) (.skip) (.exit 0)) (.seq (.block 1 (.seq (.region false [
 ao 53 (.mv (.t 51)),
 ao 54 (.idxs 4 (.t 49) (.t 51)),
 ao 55 (.load (some 4) (.t 54)),
 ao 5 (.alloc [(i64 0), (i64 0), (i64 0), (i64 0)]),
 ao 4 (.mv (.t 53)),
 ⟨none, .store 4 (.t 5) (.t 55), none, [], []⟩] [1, 3, 4, 5, 49, 50, 51]) (.seq (.region false [
 ao 56 (.faddr 0 (.t 5)),
 ao 57 (.load (some 2) (.t 56)),
 ao 58 (.call 56 [(.t 57), (.c (i64 20))]),
 ao 59 (.un .not (.t 58)),
 ao 60 (.mv (.t 59)),
 ag 61 (.faddr 2 (.t 5)) 60 false [],
 ag 62 (.load (some 2) (.t 61)) 60 false [],
 ag 63 (.call 56 [(.t 62), (.c (i64 20))]) 60 false [],
 ag 64 (.un .not (.t 63)) 60 false [],
 ao 65 (.pick (.t 60) (.c (.bool true)) (.t 64)),
 ao 66 (.mv (.t 65)),
 ag 67 (.mv (.t 3)) 66 false [],
 ag 68 (.faddr 12 (.t 1)) 66 false [],
 ag 69 (.load none (.t 68)) 66 false [],
 ag 70 (.mv (.t 4)) 66 false [],
 ag 71 (.idxs 1 (.t 69) (.t 70)) 66 false [],
 ag 72 (.load none (.t 71)) 66 false [],
 ag 73 (.callv (.t 67) [(.t 72)]) 66 false [],
 ag 74 (.un .not (.t 73)) 66 false [],
 ao 75 (.pick (.t 66) (.c (.bool true)) (.t 74))] [1, 3, 49, 50, 51, 75]) (.cond (.t 75) (.seq (.region false [
 ao 2 (.mv (.c (i64 130)))] [2]) (.ret)) (.skip))))) (.region false [
 ao 76 (.bin .add (.t 51) (.c (i64 1))),
 ao 51 (.mv (.t 76))] [1, 3, 49, 50, 51])))
def b11l0 : AC := .loop [1, 3, 49, 50, 51] [16, 112, 176, 256, 368, 720, 1360] d11l0
/-- almadraba/skies.Check -/
@[simp] def d11l1 : AC :=
 .seq (.region false [
 ao 81 (.bin .lss (.t 80) (.t 79))] [78, 79, 80, 81]) (.seq (.cond (.t 81) (.skip) (.exit 2)) (.seq (.block 3 (.seq (.region false [
 ao 82 (.idxs 2 (.t 78) (.t 80)),
 ao 83 (.load (some 2) (.t 82)),
 ao 7 (.alloc [(i64 0), (i64 0)]),
 ⟨none, .store 2 (.t 7) (.t 83), none, [], []⟩] [7, 78, 79, 80]) (.seq (.region false [
 ao 84 (.load (some 2) (.t 7)),
 ao 85 (.call 56 [(.t 84), (.c (i64 2000))]),
 ao 86 (.un .not (.t 85))] [78, 79, 80, 86]) (.cond (.t 86) (.seq (.region false [
 ao 2 (.mv (.c (i64 130)))] [2]) (.ret)) (.skip))))) (.region false [
 ao 87 (.bin .add (.t 80) (.c (i64 1))),
 ao 80 (.mv (.t 87))] [78, 79, 80])))
def b11l1 : AC := .loop [78, 79, 80] [16, 80, 176, 256, 368, 720, 928, 1008, 1168] d11l1
/-- almadraba/skies.Check -/
def b11 : AC :=
 .seq (.region false [
 ao 1 (.box (.t 0)),
 ao 2 (.mv (.c (i64 0)))] [1]) (.seq (.region false [
 ao 8 (.mkfn 52 [] [(.t 1)]),
 ao 3 (.mv (.t 8))] [1, 3]) (.seq (.seq (.region false [
 ao 9 (.faddr 0 (.t 1)),
 ao 10 (.load (some 7) (.t 9)),
 ao 11 (.call 54 [(.t 10)]),
 ao 12 (.bin .neq (.t 11) (.c (i64 0))),
 ao 13 (.mv (.t 12)),
 ag 14 (.faddr 7 (.t 1)) 13 false [],
 ag 15 (.load (some 4) (.t 14)) 13 false [],
 ag 16 (.call 55 [(.t 15)]) 13 false [],
 ag 17 (.bin .neq (.t 16) (.c (i64 0))) 13 false [],
 ao 18 (.pick (.t 13) (.c (.bool true)) (.t 17)),
 ao 19 (.mv (.t 18)),
 ag 20 (.faddr 11 (.t 1)) 19 false [],
 ag 21 (.load none (.t 20)) 19 false [],
 ag 22 (.len (.t 21)) 19 false [],
 ag 23 (.call 53 [(.t 22), (.c (i64 1)), (.c (i64 4))]) 19 false [],
 ag 24 (.un .not (.t 23)) 19 false [],
 ao 25 (.pick (.t 19) (.c (.bool true)) (.t 24)),
 ao 26 (.mv (.t 25)),
 ag 27 (.faddr 12 (.t 1)) 26 false [],
 ag 28 (.load none (.t 27)) 26 false [],
 ag 29 (.len (.t 28)) 26 false [],
 ag 30 (.faddr 11 (.t 1)) 26 false [],
 ag 31 (.load none (.t 30)) 26 false [],
 ag 32 (.len (.t 31)) 26 false [],
 ag 33 (.bin .neq (.t 29) (.t 32)) 26 false [],
 ao 34 (.pick (.t 26) (.c (.bool true)) (.t 33)),
 ao 35 (.mv (.t 34)),
 ag 36 (.faddr 14 (.t 1)) 35 false [],
 ag 37 (.load none (.t 36)) 35 false [],
 ag 38 (.len (.t 37)) 35 false [],
 ag 39 (.bin .gtr (.t 38) (.c (i64 5))) 35 false [],
 ao 40 (.pick (.t 35) (.c (.bool true)) (.t 39)),
 ao 41 (.mv (.t 40)),
 ag 42 (.mv (.t 3)) 41 false [],
 ag 43 (.faddr 13 (.t 1)) 41 false [],
 ag 44 (.load none (.t 43)) 41 false [],
 ag 45 (.callv (.t 42) [(.t 44)]) 41 false [],
 ag 46 (.un .not (.t 45)) 41 false [],
 ao 47 (.pick (.t 41) (.c (.bool true)) (.t 46))] [1, 3, 47]) (.cond (.t 47) (.seq (.region false [
 ao 2 (.mv (.c (i64 130)))] [2]) (.ret)) (.skip))) (.seq (.seq (.region false [
 ao 48 (.faddr 11 (.t 1)),
 ao 49 (.load none (.t 48)),
 ao 50 (.len (.t 49)),
 ao 51 (.mv (.c (i64 0)))] [1, 3, 49, 50, 51]) (.block 0 (b11l0))) (.seq (.seq (.region false [
 ao 77 (.faddr 14 (.t 1)),
 ao 78 (.load none (.t 77)),
 ao 79 (.len (.t 78)),
 ao 80 (.mv (.c (i64 0)))] [78, 79, 80]) (.block 2 (b11l1))) (.seq (.region false [
 ao 2 (.mv (.c (i64 0)))] [2]) (.ret))))))
def a11 : AFn := ⟨1, [.t 2], b11, false⟩
def n11 : Ann := ⟨[[1], [1, 3], [1, 3, 47], [2], [1, 3, 49, 50, 51], [1, 3, 49, 50, 51, 52], [1, 3, 4, 5, 49, 50, 51], [1, 3, 49, 50, 51, 75], [2], [1, 3, 49, 50, 51], [78, 79, 80], [78, 79, 80, 81], [7, 78, 79, 80], [78, 79, 80, 86], [2], [78, 79, 80], [2]], [⟨[], [1, 3, 49, 50, 51], [16, 112, 176, 256, 368, 720, 1360]⟩, ⟨[], [78, 79, 80], [16, 80, 176, 256, 368, 720, 928, 1008, 1168]⟩], [], [], [], false, []⟩
/-- almadraba/almadrabaref13.Check -/
@[simp] def d12l0 : AC :=
 .seq (.seq (.region false [
 ao 44 (.mv (.t 3)),
 ao 45 (.faddr 11 (.t 1)),
 ao 46 (.load none (.t 45)),
 ao 47 (.len (.t 46)),
 ao 48 (.bin .lss (.t 44) (.t 47))] [1, 3, 48]) (.cond (.t 48) (.skip) (.exit 0))) (.seq (.block 1 (.seq (.region true (spl [
 ao 51 (.faddr 11 (.t 1)),
 ap 52 (.load none (.t 51)) [0],
 ao 53 (.mv (.t 3)),
 ap 54 (.idxs 4 (.t 52) (.t 53)) [1, 2, 0],
 ap 55 (.faddr 0 (.t 54)) [3, 1, 2, 0],
 ap 56 (.load (some 2) (.t 55)) [4, 3, 1, 2, 0],
 ap 57 (.call 61 [(.t 56), (.c (i64 20))]) [5, 4, 3, 1, 2, 0],
 ap 58 (.un .not (.t 57)) [6, 5, 4, 3, 1, 2, 0],
 ap 59 (.mv (.t 58)) [7, 6, 5, 4, 3, 1, 2, 0],
 ag 60 (.faddr 11 (.t 1)) 59 false [8, 7, 6, 5, 4, 3, 1, 2, 0],
 ag 61 (.load none (.t 60)) 59 false [9, 8, 7, 6, 5, 4, 3, 1, 2, 0],
 ag 62 (.mv (.t 3)) 59 false [8, 7, 6, 5, 4, 3, 1, 2, 0],
 ag 63 (.idxs 4 (.t 61) (.t 62)) 59 false [10, 11, 9, 8, 7, 6, 5, 4, 3, 1, 2, 0],
 ag 64 (.faddr 2 (.t 63)) 59 false [12, 10, 11, 9, 8, 7, 6, 5, 4, 3, 1, 2, 0],
 ag 65 (.load (some 2) (.t 64)) 59 false [13, 12, 10, 11, 9, 8, 7, 6, 5, 4, 3, 1, 2, 0],
 ag 66 (.call 61 [(.t 65), (.c (i64 20))]) 59 false [14, 13, 12, 10, 11, 9, 8, 7, 6, 5, 4, 3, 1, 2, 0],
 ag 67 (.un .not (.t 66)) 59 false [15, 14, 13, 12, 10, 11, 9, 8, 7, 6, 5, 4, 3, 1, 2, 0],
 ap 68 (.pick (.t 59) (.c (.bool true)) (.t 67)) [16, 15, 14, 13, 12, 10, 11, 9, 8, 7, 6, 5, 4, 3, 1, 2, 0],
 ap 69 (.mv (.t 68)) [17, 16, 15, 14, 13, 12, 10, 11, 9, 8, 7, 6, 5, 4, 3, 1, 2, 0],
 ag 70 (.load (some 15) (.t 1)) 69 false [18, 17, 16, 15, 14, 13, 12, 10, 11, 9, 8, 7, 6, 5, 4, 3, 1, 2, 0],
 ag 71 (.faddr 12 (.t 1)) 69 false [18, 17, 16, 15, 14, 13, 12, 10, 11, 9, 8, 7, 6, 5, 4, 3, 1, 2, 0],
 ag 72 (.load none (.t 71)) 69 false [20, 18, 17, 16, 15, 14, 13, 12, 10, 11, 9, 8, 7, 6, 5, 4, 3, 1, 2, 0],
 ag 73 (.mv (.t 3)) 69 false [18, 17, 16, 15, 14, 13, 12, 10, 11, 9, 8, 7, 6, 5, 4, 3, 1, 2, 0],
 ag 74 (.idxs 1 (.t 72) (.t 73)) 69 false [21, 22, 20, 18, 17, 16, 15, 14, 13, 12, 10, 11, 9, 8, 7, 6, 5, 4, 3, 1, 2, 0],
 ag 75 (.load none (.t 74)) 69 false [23, 21, 22, 20, 18, 17, 16, 15, 14, 13, 12, 10, 11, 9, 8, 7, 6, 5, 4, 3, 1, 2, 0]] [
 ag 76 (.call 60 [(.t 70), (.t 75)]) 69 false [19, 24, 23, 21, 22, 20, 18, 17, 16, 15, 14, 13, 12, 10, 11, 9, 8, 7, 6, 5, 4, 3, 1, 2, 0],
 ag 77 (.un .not (.t 76)) 69 false [25, 19, 24, 23, 21, 22, 20, 18, 17, 16, 15, 14, 13, 12, 10, 11, 9, 8, 7, 6, 5, 4, 3, 1, 2, 0],
 ap 78 (.pick (.t 69) (.c (.bool true)) (.t 77)) [26, 25, 19, 24, 23, 21, 22, 20, 18, 17, 16, 15, 14, 13, 12, 10, 11, 9, 8, 7, 6, 5, 4, 3, 1, 2, 0]]) [1, 3, 78]) (.cond (.t 78) (.seq (.region false [
 ao 2 (.mv (.c (i64 130)))] [2]) (.ret)) (.skip)))) (.region false [
 ao 49 (.mv (.t 3)),
 ao 50 (.bin .add (.t 49) (.c (i64 1))),
 ao 3 (.mv (.t 50))] [1, 3]))
def b12l0 : AC := .loop [1, 3] [16, 112, 192, 304, 560, 1456] d12l0
/-- almadraba/almadrabaref13.Check -/
@[simp] def d12l1 : AC :=
 .seq (.seq (.region false [
 ao 79 (.mv (.t 4)),
 ao 80 (.faddr 14 (.t 1)),
 ao 81 (.load none (.t 80)),
 ao 82 (.len (.t 81)),
 ao 83 (.bin .lss (.t 79) (.t 82))] [1, 4, 83]) (.cond (.t 83) (.skip) (.exit 2))) (.seq (.block 3 (.seq (.region false [
 ao 86 (.faddr 14 (.t 1)),
 ao 87 (.load none (.t 86)),
 ao 88 (.mv (.t 4)),
 ao 89 (.idxs 2 (.t 87) (.t 88)),
 ao 90 (.load (some 2) (.t 89)),
 ao 91 (.call 61 [(.t 90), (.c (i64 2000))]),
 ao 92 (.un .not (.t 91))] [1, 4, 92]) (.cond (.t 92) (.seq (.region false [
 ao 2 (.mv (.c (i64 130)))] [2]) (.ret)) (.skip)))) (.region false [
 ao 84 (.mv (.t 4)),
 ao 85 (.bin .add (.t 84) (.c (i64 1))),
 ao 4 (.mv (.t 85))] [1, 4]))
def b12l1 : AC := .loop [1, 4] [16, 112, 192, 304, 560, 912, 1056, 1216] d12l1
/-- almadraba/almadrabaref13.Check -/
def b12 : AC :=
 .seq (.region false [
 ao 1 (.box (.t 0)),
 ao 2 (.mv (.c (i64 0)))] [1]) (.seq (.seq (.region false [
 ao 5 (.faddr 0 (.t 1)),
 ao 6 (.load (some 7) (.t 5)),
 ao 7 (.call 57 [(.t 6)]),
 ao 8 (.bin .neq (.t 7) (.c (i64 0))),
 ao 9 (.mv (.t 8)),
 ag 10 (.faddr 7 (.t 1)) 9 false [],
 ag 11 (.load (some 4) (.t 10)) 9 false [],
 ag 12 (.call 58 [(.t 11)]) 9 false [],
 ag 13 (.bin .neq (.t 12) (.c (i64 0))) 9 false [],
 ao 14 (.pick (.t 9) (.c (.bool true)) (.t 13)),
 ao 15 (.mv (.t 14)),
 ag 16 (.faddr 11 (.t 1)) 15 false [],
 ag 17 (.load none (.t 16)) 15 false [],
 ag 18 (.len (.t 17)) 15 false [],
 ag 19 (.call 59 [(.t 18), (.c (i64 1)), (.c (i64 4))]) 15 false [],
 ag 20 (.un .not (.t 19)) 15 false [],
 ao 21 (.pick (.t 15) (.c (.bool true)) (.t 20)),
 ao 22 (.mv (.t 21)),
 ag 23 (.faddr 12 (.t 1)) 22 false [],
 ag 24 (.load none (.t 23)) 22 false [],
 ag 25 (.len (.t 24)) 22 false [],
 ag 26 (.faddr 11 (.t 1)) 22 false [],
 ag 27 (.load none (.t 26)) 22 false [],
 ag 28 (.len (.t 27)) 22 false [],
 ag 29 (.bin .neq (.t 25) (.t 28)) 22 false [],
 ao 30 (.pick (.t 22) (.c (.bool true)) (.t 29)),
 ao 31 (.mv (.t 30)),
 ag 32 (.load (some 15) (.t 1)) 31 false [],
 ag 33 (.faddr 13 (.t 1)) 31 false [],
 ag 34 (.load none (.t 33)) 31 false [],
 ag 35 (.call 60 [(.t 32), (.t 34)]) 31 false [],
 ag 36 (.un .not (.t 35)) 31 false [],
 ao 37 (.pick (.t 31) (.c (.bool true)) (.t 36)),
 ao 38 (.mv (.t 37)),
 ag 39 (.faddr 14 (.t 1)) 38 false [],
 ag 40 (.load none (.t 39)) 38 false [],
 ag 41 (.len (.t 40)) 38 false [],
 ag 42 (.bin .gtr (.t 41) (.c (i64 5))) 38 false [],
 ao 43 (.pick (.t 38) (.c (.bool true)) (.t 42))] [1, 43]) (.cond (.t 43) (.seq (.region false [
 ao 2 (.mv (.c (i64 130)))] [2]) (.ret)) (.skip))) (.seq (.seq (.region false [
 ao 3 (.mv (.c (i64 0)))] [1, 3]) (.block 0 (b12l0))) (.seq (.seq (.region false [
 ao 4 (.mv (.c (i64 0)))] [1, 4]) (.block 2 (b12l1))) (.seq (.region false [
 ao 2 (.mv (.c (i64 0)))] [2]) (.ret)))))
def a12 : AFn := ⟨1, [.t 2], b12, false⟩
def n12 : Ann := ⟨[[1], [1, 43], [2], [1, 3], [1, 3, 48], [1, 3, 78], [2], [1, 3], [1, 4], [1, 4, 83], [1, 4, 92], [2], [1, 4], [2]], [⟨[], [1, 3], [16, 112, 192, 304, 560, 1456]⟩, ⟨[], [1, 4], [16, 112, 192, 304, 560, 912, 1056, 1216]⟩], [], [], [], false, []⟩
/-- almadraba/skies.Calm -/
def b13 : AC :=
 .seq (.region false [
 ao 2 (.box (.t 0)),
 ao 4 (.mv (.c (i64 0))),
 ao 5 (.mv (.c (i64 0)))] [1, 2]) (.seq (.region true (spl [
 ao 9 (.load (some 15) (.t 2)),
 ao 10 (.load (some 15) (.t 2)),
 ao 11 (.mv (.t 1)),
 ap 12 (.call 63 [(.t 10), (.t 11)]) [1, 2],
 ap 13 (.call 62 [(.t 9), (.t 12)]) [0, 3, 1, 2],
 ap 8 (.mv (.t 13)) [4, 0, 3, 1, 2],
 ap 14 (.ext (.t 8) 0) [5, 4, 0, 3, 1, 2],
 ap 15 (.ext (.t 8) 1) [5, 4, 0, 3, 1, 2],
 ap 6 (.mv (.t 14)) [6, 5, 4, 0, 3, 1, 2]] [
 ap 7 (.mv (.t 15)) [7, 8, 6, 5, 4, 0, 3, 1, 2]]) [1, 6, 7]) (.seq (.seq (.region false [
 ao 16 (.mv (.t 7)),
 ao 17 (.bin .neq (.t 16) (.c (i64 0)))] [1, 6, 7, 17]) (.cond (.t 17) (.seq (.region false [
 ao 18 (.mv (.t 7)),
 ao 4 (.mv (.c (i64 0))),
 ao 5 (.mv (.t 18))] [4, 5]) (.ret)) (.skip))) (.seq (.region false [
 ao 19 (.mv (.t 6)),
 ao 20 (.mv (.t 1)),
 ao 21 (.nilck (.t 19)),
 ao 22 (.faddr 15 (.t 21)),
 ao 23 (.idxa 4 1 (.t 22) (.t 20)),
 ao 24 (.load none (.t 23)),
 ao 4 (.mv (.t 24)),
 ao 5 (.mv (.c (i64 0)))] [4, 5]) (.ret))))
def a13 : AFn := ⟨2, [.t 4, .t 5], b13, false⟩
def n13 : Ann := ⟨[[1, 2], [1, 6, 7], [1, 6, 7, 17], [4, 5], [4, 5]], [], [], [], [], false, [(19, 208), (5, 208), (18, 208), (16, 208), (7, 208), (6, 208), (15, 208), (14, 208), (8, 208)]⟩
/-- almadraba/almadrabaref13.Calm -/
def b14 : AC :=
 .seq (.region false [
 ao 2 (.box (.t 0)),
 ao 4 (.mv (.c (i64 0))),
 ao 5 (.mv (.c (i64 0)))] [1, 2]) (.seq (.seq (.region true (spl [
 ao 7 (.load (some 15) (.t 2)),
 ao 8 (.load (some 15) (.t 2)),
 ao 9 (.mv (.t 1)),
 ap 10 (.call 65 [(.t 8), (.t 9)]) [1, 2]] [
 ap 11 (.call 64 [(.t 7), (.t 10)]) [0, 3, 1, 2],
 ap 6 (.mv (.t 11)) [4, 0, 3, 1, 2]]) [1, 2, 6]) (.seq (.region false [
 ao 12 (.mv (.t 6)),
 ao 13 (.bin .neq (.t 12) (.c (i64 0)))] [1, 2, 6, 13]) (.cond (.t 13) (.seq (.region false [
 ao 14 (.mv (.t 6)),
 ao 4 (.mv (.c (i64 0))),
 ao 5 (.mv (.t 14))] [4, 5]) (.ret)) (.skip)))) (.seq (.region false [
 ao 15 (.load (some 15) (.t 2)),
 ao 16 (.mv (.t 1)),
 ao 17 (.call 47 [(.t 15), (.t 16)]),
 ao 18 (.call 66 [(.t 17)]),
 ao 19 (.ext (.t 18) 0),
 ao 20 (.ext (.t 18) 1),
 ao 4 (.mv (.t 19)),
 ao 5 (.mv (.t 20))] [4, 5]) (.ret)))
def a14 : AFn := ⟨2, [.t 4, .t 5], b14, false⟩
def n14 : Ann := ⟨[[1, 2], [1, 2, 6], [1, 2, 6, 13], [4, 5], [4, 5]], [], [], [], [], false, [(4, 288), (20, 288), (19, 288), (5, 176), (14, 176), (12, 176), (6, 176)]⟩
/-- almadraba/skies.Holds -/
def b15 : AC :=
 .seq (.region false [
 ao 2 (.box (.t 0)),
 ao 4 (.mv (.c (.bool false))),
 ao 5 (.mv (.c (i64 0)))] [1, 2]) (.seq (.region true (spl [
 ao 9 (.load (some 15) (.t 2)),
 ao 10 (.load (some 15) (.t 2)),
 ao 11 (.mv (.t 1)),
 ap 12 (.call 67 [(.t 10), (.t 11)]) [1, 2],
 ap 13 (.call 62 [(.t 9), (.t 12)]) [0, 3, 1, 2],
 ap 8 (.mv (.t 13)) [4, 0, 3, 1, 2],
 ap 14 (.ext (.t 8) 0) [5, 4, 0, 3, 1, 2],
 ap 15 (.ext (.t 8) 1) [5, 4, 0, 3, 1, 2],
 ap 6 (.mv (.t 14)) [6, 5, 4, 0, 3, 1, 2]] [
 ap 7 (.mv (.t 15)) [7, 8, 6, 5, 4, 0, 3, 1, 2]]) [1, 6, 7]) (.seq (.seq (.region false [
 ao 16 (.mv (.t 7)),
 ao 17 (.bin .neq (.t 16) (.c (i64 0)))] [1, 6, 7, 17]) (.cond (.t 17) (.seq (.region false [
 ao 18 (.mv (.t 7)),
 ao 4 (.mv (.c (.bool false))),
 ao 5 (.mv (.t 18))] [4, 5]) (.ret)) (.skip))) (.seq (.region false [
 ao 19 (.mv (.t 6)),
 ao 20 (.mv (.t 1)),
 ao 21 (.nilck (.t 19)),
 ao 22 (.faddr 19 (.t 21)),
 ao 23 (.idxa 5 1 (.t 22) (.t 20)),
 ao 24 (.load none (.t 23)),
 ao 25 (.bin .eql (.t 24) (.c (i64 1))),
 ao 4 (.mv (.t 25)),
 ao 5 (.mv (.c (i64 0)))] [4, 5]) (.ret))))
def a15 : AFn := ⟨2, [.t 4, .t 5], b15, false⟩
def n15 : Ann := ⟨[[1, 2], [1, 6, 7], [1, 6, 7, 17], [4, 5], [4, 5]], [], [], [], [], false, [(19, 208), (5, 208), (18, 208), (16, 208), (7, 208), (6, 208), (15, 208), (14, 208), (8, 208)]⟩
/-- almadraba/almadrabaref13.Holds -/
def b16 : AC :=
 .seq (.region false [
 ao 2 (.box (.t 0)),
 ao 4 (.mv (.c (.bool false))),
 ao 5 (.mv (.c (i64 0)))] [1, 2]) (.seq (.seq (.region true (spl [
 ao 7 (.load (some 15) (.t 2)),
 ao 8 (.load (some 15) (.t 2)),
 ao 9 (.mv (.t 1)),
 ap 10 (.call 68 [(.t 8), (.t 9)]) [1, 2]] [
 ap 11 (.call 64 [(.t 7), (.t 10)]) [0, 3, 1, 2],
 ap 6 (.mv (.t 11)) [4, 0, 3, 1, 2]]) [1, 2, 6]) (.seq (.region false [
 ao 12 (.mv (.t 6)),
 ao 13 (.bin .neq (.t 12) (.c (i64 0)))] [1, 2, 6, 13]) (.cond (.t 13) (.seq (.region false [
 ao 14 (.mv (.t 6)),
 ao 4 (.mv (.c (.bool false))),
 ao 5 (.mv (.t 14))] [4, 5]) (.ret)) (.skip)))) (.seq (.region false [
 ao 15 (.load (some 15) (.t 2)),
 ao 16 (.mv (.t 1)),
 ao 17 (.call 69 [(.t 15), (.t 16)]),
 ao 4 (.mv (.t 17)),
 ao 5 (.mv (.c (i64 0)))] [4, 5]) (.ret)))
def a16 : AFn := ⟨2, [.t 4, .t 5], b16, false⟩
def n16 : Ann := ⟨[[1, 2], [1, 2, 6], [1, 2, 6, 13], [4, 5], [4, 5]], [], [], [], [], false, [(4, 272), (5, 176), (14, 176), (12, 176), (6, 176)]⟩
/-- almadraba/skies.May -/
def b17 : AC :=
 .seq (.region false [
 ao 3 (.box (.t 0)),
 ao 6 (.mv (.c (.bool false))),
 ao 7 (.mv (.c (i64 0)))] [1, 2, 3]) (.seq (.region true (spl [
 ao 11 (.load (some 15) (.t 3)),
 ao 12 (.load (some 15) (.t 3)),
 ao 13 (.mv (.t 1)),
 ap 14 (.call 67 [(.t 12), (.t 13)]) [1, 2],
 ap 15 (.mv (.t 14)) [3, 1, 2],
 ag 16 (.load (some 15) (.t 3)) 15 true [4, 3, 1, 2],
 ag 17 (.mv (.t 2)) 15 true [4, 3, 1, 2],
 ag 18 (.call 63 [(.t 16), (.t 17)]) 15 true [5, 6, 4, 3, 1, 2],
 ap 19 (.pick (.t 15) (.t 18) (.c (.bool false))) [7, 5, 6, 4, 3, 1, 2],
 ap 20 (.call 62 [(.t 11), (.t 19)]) [0, 8, 7, 5, 6, 4, 3, 1, 2],
 ap 10 (.mv (.t 20)) [9, 0, 8, 7, 5, 6, 4, 3, 1, 2],
 ap 21 (.ext (.t 10) 0) [10, 9, 0, 8, 7, 5, 6, 4, 3, 1, 2],
 ap 22 (.ext (.t 10) 1) [10, 9, 0, 8, 7, 5, 6, 4, 3, 1, 2],
 ap 8 (.mv (.t 21)) [11, 10, 9, 0, 8, 7, 5, 6, 4, 3, 1, 2]] [
 ap 9 (.mv (.t 22)) [12, 13, 11, 10, 9, 0, 8, 7, 5, 6, 4, 3, 1, 2]]) [1, 2, 8, 9]) (.seq (.seq (.region false [
 ao 23 (.mv (.t 9)),
 ao 24 (.bin .neq (.t 23) (.c (i64 0)))] [1, 2, 8, 9, 24]) (.cond (.t 24) (.seq (.region false [
 ao 25 (.mv (.t 9)),
 ao 6 (.mv (.c (.bool false))),
 ao 7 (.mv (.t 25))] [6, 7]) (.ret)) (.skip))) (.seq (.region false [
 ao 26 (.mv (.t 8)),
 ao 27 (.mv (.t 1)),
 ao 28 (.mv (.t 2)),
 ao 29 (.call 70 [(.t 26), (.t 27), (.t 28)]),
 ao 6 (.mv (.t 29)),
 ao 7 (.mv (.c (i64 0)))] [6, 7]) (.ret))))
def a17 : AFn := ⟨3, [.t 6, .t 7], b17, false⟩
def n17 : Ann := ⟨[[1, 2, 3], [1, 2, 8, 9], [1, 2, 8, 9, 24], [6, 7], [6, 7]], [], [], [], [], false, [(6, 464), (26, 320), (7, 320), (25, 320), (23, 320), (9, 320), (8, 320), (22, 320), (21, 320), (10, 320), (15, 224)]⟩
/-- almadraba/almadrabaref13.May -/
def b18 : AC :=
 .seq (.region false [
 ao 3 (.box (.t 0)),
 ao 6 (.mv (.c (.bool false))),
 ao 7 (.mv (.c (i64 0)))] [1, 2, 3]) (.seq (.seq (.region true (spl [
 ao 9 (.load (some 15) (.t 3)),
 ao 10 (.load (some 15) (.t 3)),
 ao 11 (.mv (.t 1)),
 ap 12 (.call 68 [(.t 10), (.t 11)]) [1, 2],
 ap 13 (.mv (.t 12)) [3, 1, 2],
 ag 14 (.load (some 15) (.t 3)) 13 true [4, 3, 1, 2],
 ag 15 (.mv (.t 2)) 13 true [4, 3, 1, 2],
 ag 16 (.call 65 [(.t 14), (.t 15)]) 13 true [5, 6, 4, 3, 1, 2],
 ap 17 (.pick (.t 13) (.t 16) (.c (.bool false))) [7, 5, 6, 4, 3, 1, 2]] [
 ap 18 (.call 64 [(.t 9), (.t 17)]) [0, 8, 7, 5, 6, 4, 3, 1, 2],
 ap 8 (.mv (.t 18)) [9, 0, 8, 7, 5, 6, 4, 3, 1, 2]]) [1, 2, 3, 8]) (.seq (.region false [
 ao 19 (.mv (.t 8)),
 ao 20 (.bin .neq (.t 19) (.c (i64 0)))] [1, 2, 3, 8, 20]) (.cond (.t 20) (.seq (.region false [
 ao 21 (.mv (.t 8)),
 ao 6 (.mv (.c (.bool false))),
 ao 7 (.mv (.t 21))] [6, 7]) (.ret)) (.skip)))) (.seq (.region false [
 ao 22 (.load (some 15) (.t 3)),
 ao 23 (.call 71 [(.t 22)]),
 ao 24 (.mv (.t 1)),
 ao 25 (.idxs 1 (.t 23) (.t 24)),
 ao 26 (.load none (.t 25)),
 ao 27 (.mv (.t 2)),
 ao 28 (.idxs 1 (.t 26) (.t 27)),
 ao 29 (.load none (.t 28)),
 ao 6 (.mv (.t 29)),
 ao 7 (.mv (.c (i64 0)))] [6, 7]) (.ret)))
def a18 : AFn := ⟨3, [.t 6, .t 7], b18, false⟩
def n18 : Ann := ⟨[[1, 2, 3], [1, 2, 3, 8], [1, 2, 3, 8, 20], [6, 7], [6, 7]], [], [], [], [], false, [(7, 288), (21, 288), (19, 288), (8, 288), (13, 192)]⟩
/-- almadraba/almadrabalaw13.Same -/
@[simp] def d19l0 : AC :=
 .seq (.seq (.region false [
 ao 57 (.mv (.t 5)),
 ao 58 (.faddr 11 (.t 2)),
 ao 59 (.load none (.t 58)),
 ao 60 (.len (.t 59)),
 ao 61 (.bin .lss (.t 57) (.t 60))] [2, 3, 5, 61]) (.cond (.t 61) (.skip) (.exit 0))) (.seq (.block 1 (.seq (.region true (spl [
 ao 64 (.faddr 11 (.t 2)),
 ap 65 (.load none (.t 64)) [0],
 ao 66 (.mv (.t 5)),
 ap 67 (.idxs 4 (.t 65) (.t 66)) [1, 2, 0],
 ap 68 (.load (some 4) (.t 67)) [3, 1, 2, 0],
 ao 69 (.faddr 11 (.t 3)),
 ap 70 (.load none (.t 69)) [5],
 ao 71 (.mv (.t 5)),
 ap 72 (.idxs 4 (.t 70) (.t 71)) [6, 7, 5],
 ap 73 (.load (some 4) (.t 72)) [8, 6, 7, 5]] [
 ap 74 (.eqa [true, true, true, true] true (.t 68) (.t 73)) [4, 9, 3, 1, 2, 0, 8, 6, 7, 5]]) [2, 3, 5, 74]) (.cond (.t 74) (.seq (.region false [
 ao 4 (.mv (.c (.bool false)))] [4]) (.ret)) (.skip)))) (.region false [
 ao 62 (.mv (.t 5)),
 ao 63 (.bin .add (.t 62) (.c (i64 1))),
 ao 5 (.mv (.t 63))] [2, 3, 5]))
def b19l0 : AC := .loop [2, 3, 5] [32, 48, 192, 304, 720, 1472] d19l0
/-- almadraba/almadrabalaw13.Same -/
@[simp] def d19l1 : AC :=
 .seq (.seq (.region false [
 ao 75 (.mv (.t 6)),
 ao 76 (.faddr 12 (.t 2)),
 ao 77 (.load none (.t 76)),
 ao 78 (.len (.t 77)),
 ao 79 (.bin .lss (.t 75) (.t 78))] [2, 3, 6, 79]) (.cond (.t 79) (.skip) (.exit 2))) (.seq (.block 3 (.seq (.region true (spl [
 ao 82 (.faddr 12 (.t 2)),
 ap 83 (.load none (.t 82)) [0],
 ao 84 (.mv (.t 6)),
 ap 85 (.idxs 1 (.t 83) (.t 84)) [1, 2, 0],
 ap 86 (.load none (.t 85)) [3, 1, 2, 0],
 ao 87 (.faddr 12 (.t 3)),
 ap 88 (.load none (.t 87)) [5],
 ao 89 (.mv (.t 6)),
 ap 90 (.idxs 1 (.t 88) (.t 89)) [6, 7, 5],
 ap 91 (.load none (.t 90)) [8, 6, 7, 5]] [
 ap 92 (.call 24 [(.t 86), (.t 91)]) [4, 9, 3, 1, 2, 0, 8, 6, 7, 5],
 ap 93 (.un .not (.t 92)) [10, 4, 9, 3, 1, 2, 0, 8, 6, 7, 5]]) [2, 3, 6, 93]) (.cond (.t 93) (.seq (.region false [
 ao 4 (.mv (.c (.bool false)))] [4]) (.ret)) (.skip)))) (.region false [
 ao 80 (.mv (.t 6)),
 ao 81 (.bin .add (.t 80) (.c (i64 1))),
 ao 6 (.mv (.t 81))] [2, 3, 6]))
def b19l1 : AC := .loop [2, 3, 6] [32, 48, 192, 304, 720] d19l1
/-- almadraba/almadrabalaw13.Same -/
@[simp] def d19l2 : AC :=
 .seq (.seq (.region false [
 ao 94 (.mv (.t 7)),
 ao 95 (.faddr 14 (.t 2)),
 ao 96 (.load none (.t 95)),
 ao 97 (.len (.t 96)),
 ao 98 (.bin .lss (.t 94) (.t 97))] [2, 3, 7, 98]) (.cond (.t 98) (.skip) (.exit 4))) (.seq (.block 5 (.seq (.region true (spl [
 ao 101 (.faddr 14 (.t 2)),
 ap 102 (.load none (.t 101)) [0],
 ao 103 (.mv (.t 7)),
 ap 104 (.idxs 2 (.t 102) (.t 103)) [1, 2, 0],
 ap 105 (.load (some 2) (.t 104)) [3, 1, 2, 0],
 ao 106 (.faddr 14 (.t 3)),
 ap 107 (.load none (.t 106)) [5],
 ao 108 (.mv (.t 7)),
 ap 109 (.idxs 2 (.t 107) (.t 108)) [6, 7, 5],
 ap 110 (.load (some 2) (.t 109)) [8, 6, 7, 5]] [
 ap 111 (.eqa [true, true] true (.t 105) (.t 110)) [4, 9, 3, 1, 2, 0, 8, 6, 7, 5]]) [2, 3, 7, 111]) (.cond (.t 111) (.seq (.region false [
 ao 4 (.mv (.c (.bool false)))] [4]) (.ret)) (.skip)))) (.region false [
 ao 99 (.mv (.t 7)),
 ao 100 (.bin .add (.t 99) (.c (i64 1))),
 ao 7 (.mv (.t 100))] [2, 3, 7]))
def b19l2 : AC := .loop [2, 3, 7] [32, 48, 192, 304, 720, 1472] d19l2
/-- almadraba/almadrabalaw13.Same -/
def b19 : AC :=
 .seq (.region false [
 ao 2 (.box (.t 0)),
 ao 3 (.box (.t 1)),
 ao 4 (.mv (.c (.bool false)))] [2, 3]) (.seq (.seq (.region false [
 ao 8 (.faddr 0 (.t 2)),
 ao 9 (.load (some 7) (.t 8)),
 ao 10 (.faddr 0 (.t 3)),
 ao 11 (.load (some 7) (.t 10)),
 ao 12 (.call 72 [(.t 9), (.t 11)]),
 ao 13 (.un .not (.t 12)),
 ao 14 (.mv (.t 13)),
 ag 15 (.faddr 7 (.t 2)) 14 false [],
 ag 16 (.load (some 4) (.t 15)) 14 false [],
 ag 17 (.faddr 7 (.t 3)) 14 false [],
 ag 18 (.load (some 4) (.t 17)) 14 false [],
 ag 19 (.call 73 [(.t 16), (.t 18)]) 14 false [],
 ag 20 (.un .not (.t 19)) 14 false [],
 ao 21 (.pick (.t 14) (.c (.bool true)) (.t 20)),
 ao 22 (.mv (.t 21)),
 ag 23 (.faddr 11 (.t 2)) 22 false [],
 ag 24 (.load none (.t 23)) 22 false [],
 ag 25 (.len (.t 24)) 22 false [],
 ag 26 (.faddr 11 (.t 3)) 22 false [],
 ag 27 (.load none (.t 26)) 22 false [],
 ag 28 (.len (.t 27)) 22 false [],
 ag 29 (.bin .neq (.t 25) (.t 28)) 22 false [],
 ao 30 (.pick (.t 22) (.c (.bool true)) (.t 29)),
 ao 31 (.mv (.t 30)),
 ag 32 (.faddr 12 (.t 2)) 31 false [],
 ag 33 (.load none (.t 32)) 31 false [],
 ag 34 (.len (.t 33)) 31 false [],
 ag 35 (.faddr 12 (.t 3)) 31 false [],
 ag 36 (.load none (.t 35)) 31 false [],
 ag 37 (.len (.t 36)) 31 false [],
 ag 38 (.bin .neq (.t 34) (.t 37)) 31 false [],
 ao 39 (.pick (.t 31) (.c (.bool true)) (.t 38)),
 ao 40 (.mv (.t 39)),
 ag 41 (.faddr 13 (.t 2)) 40 false [],
 ag 42 (.load none (.t 41)) 40 false [],
 ag 43 (.faddr 13 (.t 3)) 40 false [],
 ag 44 (.load none (.t 43)) 40 false [],
 ag 45 (.call 24 [(.t 42), (.t 44)]) 40 false [],
 ag 46 (.un .not (.t 45)) 40 false [],
 ao 47 (.pick (.t 40) (.c (.bool true)) (.t 46)),
 ao 48 (.mv (.t 47)),
 ag 49 (.faddr 14 (.t 2)) 48 false [],
 ag 50 (.load none (.t 49)) 48 false [],
 ag 51 (.len (.t 50)) 48 false [],
 ag 52 (.faddr 14 (.t 3)) 48 false [],
 ag 53 (.load none (.t 52)) 48 false [],
 ag 54 (.len (.t 53)) 48 false [],
 ag 55 (.bin .neq (.t 51) (.t 54)) 48 false [],
 ao 56 (.pick (.t 48) (.c (.bool true)) (.t 55))] [2, 3, 56]) (.cond (.t 56) (.seq (.region false [
 ao 4 (.mv (.c (.bool false)))] [4]) (.ret)) (.skip))) (.seq (.seq (.region false [
 ao 5 (.mv (.c (i64 0)))] [2, 3, 5]) (.block 0 (b19l0))) (.seq (.seq (.region false [
 ao 6 (.mv (.c (i64 0)))] [2, 3, 6]) (.block 2 (b19l1))) (.seq (.seq (.region false [
 ao 7 (.mv (.c (i64 0)))] [2, 3, 7]) (.block 4 (b19l2))) (.seq (.region false [
 ao 4 (.mv (.c (.bool true)))] [4]) (.ret))))))
def a19 : AFn := ⟨2, [.t 4], b19, false⟩
def n19 : Ann := ⟨[[2, 3], [2, 3, 56], [4], [2, 3, 5], [2, 3, 5, 61], [2, 3, 5, 74], [4], [2, 3, 5], [2, 3, 6], [2, 3, 6, 79], [2, 3, 6, 93], [4], [2, 3, 6], [2, 3, 7], [2, 3, 7, 98], [2, 3, 7, 111], [4], [2, 3, 7], [4]], [⟨[], [2, 3, 5], [32, 48, 192, 304, 720, 1472]⟩, ⟨[], [2, 3, 6], [32, 48, 192, 304, 720]⟩, ⟨[], [2, 3, 7], [32, 48, 192, 304, 720, 1472]⟩], [], [], [], false, []⟩
/-- almadraba/almadrabaref01.SameInts -/
@[simp] def d24l0 : AC :=
 .seq (.seq (.region false [
 ao 11 (.mv (.t 5)),
 ao 12 (.mv (.t 0)),
 ao 13 (.len (.t 12)),
 ao 14 (.bin .lss (.t 11) (.t 13))] [0, 1, 5, 14]) (.cond (.t 14) (.skip) (.exit 0))) (.seq (.block 1 (.seq (.region true (spl [
 ao 17 (.mv (.t 0)),
 ao 18 (.mv (.t 5)),
 ap 19 (.idxs 1 (.t 17) (.t 18)) [0, 1],
 ap 20 (.load none (.t 19)) [2, 0, 1],
 ao 21 (.mv (.t 1)),
 ao 22 (.mv (.t 5)),
 ap 23 (.idxs 1 (.t 21) (.t 22)) [4, 5],
 ap 24 (.load none (.t 23)) [6, 4, 5]] [
 ap 25 (.bin .neq (.t 20) (.t 24)) [3, 7, 2, 0, 1, 6, 4, 5]]) [0, 1, 5, 25]) (.cond (.t 25) (.seq (.region false [
 ao 4 (.mv (.c (.bool false)))] [4]) (.ret)) (.skip)))) (.region false [
 ao 15 (.mv (.t 5)),
 ao 16 (.bin .add (.t 15) (.c (i64 1))),
 ao 5 (.mv (.t 16))] [0, 1, 5]))
def b24l0 : AC := .loop [0, 1, 5] [] d24l0
/-- almadraba/almadrabaref01.SameInts -/
def b24 : AC :=
 .seq (.region false [
 ao 4 (.mv (.c (.bool false)))] [0, 1]) (.seq (.seq (.region false [
 ao 6 (.mv (.t 0)),
 ao 7 (.len (.t 6)),
 ao 8 (.mv (.t 1)),
 ao 9 (.len (.t 8)),
 ao 10 (.bin .neq (.t 7) (.t 9))] [0, 1, 10]) (.cond (.t 10) (.seq (.region false [
 ao 4 (.mv (.c (.bool false)))] [4]) (.ret)) (.skip))) (.seq (.seq (.region false [
 ao 5 (.mv (.c (i64 0)))] [0, 1, 5]) (.block 0 (b24l0))) (.seq (.region false [
 ao 4 (.mv (.c (.bool true)))] [4]) (.ret))))
def a24 : AFn := ⟨2, [.t 4], b24, false⟩
def n24 : Ann := ⟨[[0, 1], [0, 1, 10], [4], [0, 1, 5], [0, 1, 5, 14], [0, 1, 5, 25], [4], [0, 1, 5], [4]], [⟨[], [0, 1, 5], []⟩], [], [], [], false, []⟩
/-- almadraba/skies.Off -/
@[simp] def d25l0 : AC :=
 .seq (.region false [
 ao 29 (.bin .lss (.t 28) (.t 27))] [2, 3, 4, 6, 26, 27, 28, 29]) (.seq (.cond (.t 29) (.skip) (.exit 2)) (.seq (.block 3 (.seq (.region false [
 ao 30 (.mv (.t 28)),
 ao 31 (.idxs 1 (.t 26) (.t 28)),
 ao 32 (.load none (.t 31)),
 ao 8 (.mv (.t 30)),
 ao 9 (.mv (.t 32))] [2, 3, 4, 6, 8, 9, 26, 27, 28]) (.seq (.region false [
 ao 33 (.load none (.t 4)),
 ao 34 (.mv (.t 8)),
 ao 35 (.mv (.t 9)),
 ao 36 (.call 70 [(.t 33), (.t 34), (.t 35)])] [2, 3, 4, 6, 8, 26, 27, 28, 36]) (.cond (.t 36) (.seq (.region false [
 ao 37 (.faddr 0 (.t 6)),
 ao 38 (.load none (.t 37)),
 ao 39 (.mv (.t 8)),
 ao 40 (.mm false (.t 38) (.t 39)),
 ao 41 (.faddr 1 (.t 6)),
 ao 42 (.load none (.t 41)),
 ao 43 (.mv (.t 8)),
 ao 44 (.mm true (.t 42) (.t 43)),
 ao 45 (.build [(i64 0), (i64 0)] [(0, 1, (.t 40)), (1, 1, (.t 44))]),
 ⟨none, .store 2 (.t 6) (.t 45), none, [], []⟩] [2, 3, 6]) (.exit 1)) (.skip))))) (.region false [
 ao 46 (.bin .add (.t 28) (.c (i64 1))),
 ao 28 (.mv (.t 46))] [2, 3, 4, 6, 26, 27, 28])))
def b25l0 : AC := .loop [2, 3, 4, 6, 26, 27, 28] [16, 32, 48, 64, 96, 192] d25l0
/-- almadraba/skies.Off -/
def b25l1 : AC :=
 .region false [
 ao 7 (.mv (.t 25))] [2, 3, 4, 6, 7]
/-- almadraba/skies.Off -/
def b25l2 : AC :=
 .block 1 (.seq (.seq (.region false [
 ao 26 (.mv (.t 7)),
 ao 27 (.len (.t 26)),
 ao 28 (.mv (.c (i64 0)))] [2, 3, 4, 6, 26, 27, 28]) (.block 2 (b25l0))) (.seq (.region false [
 ao 47 (.build [(i64 0), (i64 0)] []),
 ⟨none, .store 2 (.t 2) (.t 47), none, [], []⟩,
 ⟨none, .store 1 (.t 3) (.c (i64 3)), none, [], []⟩] [2, 3]) (.ret)))
/-- almadraba/skies.Off -/
def b25 : AC :=
 .seq (.region false [
 ao 1 (.box (.t 0)),
 ao 2 (.alloc [(i64 0), (i64 0)]),
 ao 3 (.alloc [(i64 0)])] [1, 2, 3]) (.scope (.seq (.region false [
 ao 11 (.load (some 15) (.t 1)),
 ao 12 (.call 62 [(.t 11), (.c (.bool true))]),
 ao 10 (.mv (.t 12)),
 ao 13 (.ext (.t 10) 0),
 ao 14 (.ext (.t 10) 1),
 ao 4 (.alloc [.nilp]),
 ⟨none, .store 1 (.t 4) (.t 13), none, [], []⟩,
 ao 5 (.mv (.t 14))] [1, 2, 3, 4, 5]) (.seq (.seq (.region false [
 ao 15 (.mv (.t 5)),
 ao 16 (.bin .neq (.t 15) (.c (i64 0)))] [1, 2, 3, 4, 5, 16]) (.cond (.t 16) (.seq (.region false [
 ao 17 (.build [(i64 0), (i64 0)] []),
 ao 18 (.mv (.t 5)),
 ⟨none, .store 2 (.t 2) (.t 17), none, [], []⟩,
 ⟨none, .store 1 (.t 3) (.t 18), none, [], []⟩] [2, 3]) (.ret)) (.skip))) (.seq (.region false [
 ao 19 (.faddr 14 (.t 1)),
 ao 20 (.load none (.t 19)),
 ao 21 (.len (.t 20)),
 ao 22 (.build [(i64 0), (i64 0)] [(0, 1, (.t 21)), (1, 1, (.c (i64 (-1))))]),
 ao 6 (.alloc [(i64 0), (i64 0)]),
 ⟨none, .store 2 (.t 6) (.t 22), none, [], []⟩] [2, 3, 4, 6]) (.seq (.label) (.seq (.seq (.region false [
 ao 23 (.load none (.t 4)),
 ao 24 (.mkfn 77 [(.t 23)] [])] [2, 3, 4, 6, 24]) (.block 0 (.rng 400 [25] b25l1 b25l2 (.t 24)))) (.seq (.region false [
 ao 48 (.load (some 2) (.t 6)),
 ⟨none, .store 2 (.t 2) (.t 48), none, [], []⟩,
 ⟨none, .store 1 (.t 3) (.c (i64 0)), none, [], []⟩] [2, 3]) (.ret))))))))
def a25 : AFn := ⟨1, [.cell 2 (some 2), .cell 3 none], b25, false⟩
def n25 : Ann := ⟨[[1, 2, 3], [1, 2, 3, 4, 5], [1, 2, 3, 4, 5, 16], [2, 3], [2, 3, 4, 6], [2, 3, 4, 6, 24], [2, 3, 4, 6, 7], [2, 3, 4, 6, 26, 27, 28], [2, 3, 4, 6, 26, 27, 28, 29], [2, 3, 4, 6, 8, 9, 26, 27, 28], [2, 3, 4, 6, 8, 26, 27, 28, 36], [2, 3, 6], [2, 3, 4, 6, 26, 27, 28], [2, 3], [2, 3]], [⟨[], [2, 3, 4, 6, 26, 27, 28], [16, 32, 48, 64, 96, 192]⟩], [400], [], [], false, [(18, 192), (15, 192), (5, 192), (14, 192), (13, 192), (10, 192)]⟩
/-- almadraba/skies.Regret -/
@[simp] def d27l0 : AC :=
 .seq (.region false [
 ao 28 (.bin .lss (.t 27) (.t 26))] [1, 4, 6, 8, 25, 26, 27, 28]) (.seq (.cond (.t 28) (.skip) (.exit 2)) (.seq (.block 3 (.seq (.region false [
 ao 29 (.mv (.t 27)),
 ao 30 (.idxs 1 (.t 25) (.t 27)),
 ao 31 (.load none (.t 30)),
 ao 9 (.mv (.t 29)),
 ao 10 (.mv (.t 31))] [1, 4, 6, 8, 9, 10, 25, 26, 27]) (.seq (.region false [
 ao 32 (.load none (.t 4)),
 ao 33 (.mv (.t 9)),
 ao 34 (.mv (.t 10)),
 ao 35 (.call 70 [(.t 32), (.t 33), (.t 34)])] [1, 4, 6, 8, 9, 25, 26, 27, 35]) (.cond (.t 35) (.region true (spl [
 ao 36 (.load none (.t 6)),
 ao 37 (.faddr 14 (.t 1)),
 ap 38 (.load none (.t 37)) [1],
 ao 39 (.mv (.t 9)),
 ap 40 (.idxs 2 (.t 38) (.t 39)) [2, 3, 1],
 ap 41 (.faddr 0 (.t 40)) [4, 2, 3, 1],
 ap 42 (.load none (.t 41)) [5, 4, 2, 3, 1],
 ao 43 (.mv (.t 8)),
 ap 44 (.bin .sub (.t 42) (.t 43)) [6, 7, 5, 4, 2, 3, 1]] [
 ap 45 (.mm true (.t 36) (.t 44)) [0, 8, 6, 7, 5, 4, 2, 3, 1],
 ⟨none, .store 1 (.t 6) (.t 45), none, [9, 0, 8, 6, 7, 5, 4, 2, 3, 1], []⟩]) [1, 4, 6, 8, 25, 26, 27]) (.skip))))) (.region false [
 ao 46 (.bin .add (.t 27) (.c (i64 1))),
 ao 27 (.mv (.t 46))] [1, 4, 6, 8, 25, 26, 27])))
def b27l0 : AC := .loop [1, 4, 6, 8, 25, 26, 27] [16, 64, 96, 208, 384] d27l0
/-- almadraba/skies.Regret -/
def b27l1 : AC :=
 .region false [
 ao 7 (.mv (.t 21))] [1, 4, 6, 7]
/-- almadraba/skies.Regret -/
def b27l2 : AC :=
 .block 1 (.seq (.region false [
 ao 22 (.load none (.t 4)),
 ao 23 (.mv (.t 7)),
 ao 24 (.call 75 [(.t 22), (.t 23)]),
 ao 8 (.mv (.t 24))] [1, 4, 6, 7, 8]) (.seq (.region false [
 ao 25 (.mv (.t 7)),
 ao 26 (.len (.t 25)),
 ao 27 (.mv (.c (i64 0)))] [1, 4, 6, 8, 25, 26, 27]) (.block 2 (b27l0))))
/-- almadraba/skies.Regret -/
def b27 : AC :=
 .seq (.region false [
 ao 1 (.box (.t 0)),
 ao 2 (.mv (.c (i64 0))),
 ao 3 (.mv (.c (i64 0)))] [1]) (.seq (.region false [
 ao 12 (.load (some 15) (.t 1)),
 ao 13 (.call 62 [(.t 12), (.c (.bool true))]),
 ao 11 (.mv (.t 13)),
 ao 14 (.ext (.t 11) 0),
 ao 15 (.ext (.t 11) 1),
 ao 4 (.alloc [.nilp]),
 ⟨none, .store 1 (.t 4) (.t 14), none, [], []⟩,
 ao 5 (.mv (.t 15))] [1, 4, 5]) (.seq (.seq (.region false [
 ao 16 (.mv (.t 5)),
 ao 17 (.bin .neq (.t 16) (.c (i64 0)))] [1, 4, 5, 17]) (.cond (.t 17) (.seq (.region false [
 ao 18 (.mv (.t 5)),
 ao 2 (.mv (.c (i64 0))),
 ao 3 (.mv (.t 18))] [2, 3]) (.ret)) (.skip))) (.seq (.region false [
 ao 6 (.alloc [(i64 0)]),
 ⟨none, .store 1 (.t 6) (.c (i64 0)), none, [], []⟩] [1, 4, 6]) (.seq (.seq (.region false [
 ao 19 (.load none (.t 4)),
 ao 20 (.mkfn 77 [(.t 19)] [])] [1, 4, 6, 20]) (.block 0 (.rng 432 [21] b27l1 b27l2 (.t 20)))) (.seq (.region false [
 ao 47 (.load none (.t 6)),
 ao 2 (.mv (.t 47)),
 ao 3 (.mv (.c (i64 0)))] [2, 3]) (.ret))))))
def a27 : AFn := ⟨1, [.t 2, .t 3], b27, false⟩
def n27 : Ann := ⟨[[1], [1, 4, 5], [1, 4, 5, 17], [2, 3], [1, 4, 6], [1, 4, 6, 20], [1, 4, 6, 7], [1, 4, 6, 7, 8], [1, 4, 6, 8, 25, 26, 27], [1, 4, 6, 8, 25, 26, 27, 28], [1, 4, 6, 8, 9, 10, 25, 26, 27], [1, 4, 6, 8, 9, 25, 26, 27, 35], [1, 4, 6, 8, 25, 26, 27], [1, 4, 6, 8, 25, 26, 27], [2, 3]], [⟨[], [1, 4, 6, 8, 25, 26, 27], [16, 64, 96, 208, 384]⟩], [432], [], [], false, [(43, 384), (8, 384), (3, 208), (18, 208), (16, 208), (5, 208), (15, 208), (14, 208), (11, 208)]⟩
/-- almadraba/skies.Worth -/
def b33 : AC :=
 .seq (.region false [
 ao 3 (.box (.t 0)),
 ao 6 (.mv (.c (i64 0))),
 ao 7 (.mv (.c (i64 0)))] [1, 2, 3]) (.seq (.region true (spl [
 ao 11 (.load (some 15) (.t 3)),
 ao 12 (.load (some 15) (.t 3)),
 ao 13 (.mv (.t 1)),
 ap 14 (.call 67 [(.t 12), (.t 13)]) [1, 2],
 ap 15 (.mv (.t 14)) [3, 1, 2],
 ag 16 (.load (some 15) (.t 3)) 15 true [4, 3, 1, 2],
 ag 17 (.mv (.t 2)) 15 true [4, 3, 1, 2],
 ag 18 (.call 63 [(.t 16), (.t 17)]) 15 true [5, 6, 4, 3, 1, 2],
 ap 19 (.pick (.t 15) (.t 18) (.c (.bool false))) [7, 5, 6, 4, 3, 1, 2],
 ap 20 (.call 62 [(.t 11), (.t 19)]) [0, 8, 7, 5, 6, 4, 3, 1, 2],
 ap 10 (.mv (.t 20)) [9, 0, 8, 7, 5, 6, 4, 3, 1, 2],
 ap 21 (.ext (.t 10) 0) [10, 9, 0, 8, 7, 5, 6, 4, 3, 1, 2],
 ap 22 (.ext (.t 10) 1) [10, 9, 0, 8, 7, 5, 6, 4, 3, 1, 2],
 ap 8 (.mv (.t 21)) [11, 10, 9, 0, 8, 7, 5, 6, 4, 3, 1, 2]] [
 ap 9 (.mv (.t 22)) [12, 13, 11, 10, 9, 0, 8, 7, 5, 6, 4, 3, 1, 2]]) [1, 2, 8, 9]) (.seq (.seq (.region false [
 ao 23 (.mv (.t 9)),
 ao 24 (.bin .neq (.t 23) (.c (i64 0)))] [1, 2, 8, 9, 24]) (.cond (.t 24) (.seq (.region false [
 ao 25 (.mv (.t 9)),
 ao 6 (.mv (.c (i64 0))),
 ao 7 (.mv (.t 25))] [6, 7]) (.ret)) (.skip))) (.seq (.region false [
 ao 26 (.mv (.t 8)),
 ao 27 (.mv (.t 1)),
 ao 28 (.mv (.t 2)),
 ao 29 (.call 86 [(.t 26), (.t 27), (.t 28)]),
 ao 6 (.mv (.t 29)),
 ao 7 (.mv (.c (i64 0)))] [6, 7]) (.ret))))
def a33 : AFn := ⟨3, [.t 6, .t 7], b33, false⟩
def n33 : Ann := ⟨[[1, 2, 3], [1, 2, 8, 9], [1, 2, 8, 9, 24], [6, 7], [6, 7]], [], [], [], [], false, [(6, 464), (26, 320), (7, 320), (25, 320), (23, 320), (9, 320), (8, 320), (22, 320), (21, 320), (10, 320), (15, 224)]⟩
/-- almadraba/skies.Best -/
def b35 : AC :=
 .seq (.region false [
 ao 1 (.box (.t 0)),
 ao 2 (.mv (.c (i64 0))),
 ao 3 (.mv (.c (i64 0)))] [1]) (.seq (.region false [
 ao 7 (.load (some 15) (.t 1)),
 ao 8 (.call 62 [(.t 7), (.c (.bool true))]),
 ao 6 (.mv (.t 8)),
 ao 9 (.ext (.t 6) 0),
 ao 10 (.ext (.t 6) 1),
 ao 4 (.mv (.t 9)),
 ao 5 (.mv (.t 10))] [1, 4, 5]) (.seq (.seq (.region false [
 ao 11 (.mv (.t 5)),
 ao 12 (.bin .neq (.t 11) (.c (i64 0)))] [1, 4, 5, 12]) (.cond (.t 12) (.seq (.region false [
 ao 13 (.mv (.t 5)),
 ao 2 (.mv (.c (i64 0))),
 ao 3 (.mv (.t 13))] [2, 3]) (.ret)) (.skip))) (.seq (.region false [
 ao 14 (.mv (.t 4)),
 ao 15 (.faddr 13 (.t 1)),
 ao 16 (.load none (.t 15)),
 ao 17 (.call 88 [(.t 14), (.c (i64 0)), (.t 16)]),
 ao 2 (.mv (.t 17)),
 ao 3 (.mv (.c (i64 0)))] [2, 3]) (.ret))))
def a35 : AFn := ⟨1, [.t 2, .t 3], b35, false⟩
def n35 : Ann := ⟨[[1], [1, 4, 5], [1, 4, 5, 12], [2, 3], [2, 3]], [], [], [], [], false, [(2, 272), (14, 128), (3, 128), (13, 128), (11, 128), (5, 128), (4, 128), (10, 128), (9, 128), (6, 128)]⟩
/-- almadraba/almadrabaref01.In -/
@[simp] def d44l0 : AC :=
 .seq (.seq (.region false [
 ao 6 (.mv (.t 5)),
 ao 7 (.mv (.t 0)),
 ao 8 (.len (.t 7)),
 ao 9 (.bin .lss (.t 6) (.t 8))] [0, 1, 5, 9]) (.cond (.t 9) (.skip) (.exit 0))) (.seq (.block 1 (.seq (.region false [
 ao 12 (.mv (.t 0)),
 ao 13 (.mv (.t 5)),
 ao 14 (.idxs 1 (.t 12) (.t 13)),
 ao 15 (.load none (.t 14)),
 ao 16 (.mv (.t 1)),
 ao 17 (.bin .eql (.t 15) (.t 16))] [0, 1, 5, 17]) (.cond (.t 17) (.seq (.region false [
 ao 4 (.mv (.c (.bool true)))] [4]) (.ret)) (.skip)))) (.region false [
 ao 10 (.mv (.t 5)),
 ao 11 (.bin .add (.t 10) (.c (i64 1))),
 ao 5 (.mv (.t 11))] [0, 1, 5]))
def b44l0 : AC := .loop [0, 1, 5] [] d44l0
/-- almadraba/almadrabaref01.In -/
def b44 : AC :=
 .seq (.region false [
 ao 4 (.mv (.c (.bool false)))] [0, 1]) (.seq (.seq (.region false [
 ao 5 (.mv (.c (i64 0)))] [0, 1, 5]) (.block 0 (b44l0))) (.seq (.region false [
 ao 4 (.mv (.c (.bool false)))] [4]) (.ret)))
def a44 : AFn := ⟨2, [.t 4], b44, false⟩
def n44 : Ann := ⟨[[0, 1], [0, 1, 5], [0, 1, 5, 9], [0, 1, 5, 17], [4], [0, 1, 5], [4]], [⟨[], [0, 1, 5], []⟩], [], [], [], false, []⟩
/-- almadraba/almadrabalaw13.Huge -/
@[simp] def d45l0 : AC :=
 .seq (.seq (.region false [
 ao 37 (.mv (.t 3)),
 ao 38 (.faddr 12 (.t 1)),
 ao 39 (.load none (.t 38)),
 ao 40 (.len (.t 39)),
 ao 41 (.bin .lss (.t 37) (.t 40))] [1, 3, 41]) (.cond (.t 41) (.skip) (.exit 0))) (.seq (.block 1 (.seq (.region false [
 ao 44 (.faddr 12 (.t 1)),
 ao 45 (.load none (.t 44)),
 ao 46 (.mv (.t 3)),
 ao 47 (.idxs 1 (.t 45) (.t 46)),
 ao 48 (.load none (.t 47)),
 ao 49 (.len (.t 48)),
 ao 50 (.bin .gtr (.t 49) (.c (i64 40)))] [1, 3, 50]) (.cond (.t 50) (.seq (.region false [
 ao 2 (.mv (.c (.bool true)))] [2]) (.ret)) (.skip)))) (.region false [
 ao 42 (.mv (.t 3)),
 ao 43 (.bin .add (.t 42) (.c (i64 1))),
 ao 3 (.mv (.t 43))] [1, 3]))
def b45l0 : AC := .loop [1, 3] [16, 112, 176] d45l0
/-- almadraba/almadrabalaw13.Huge -/
def b45 : AC :=
 .seq (.region false [
 ao 1 (.box (.t 0)),
 ao 2 (.mv (.c (.bool false)))] [1]) (.seq (.seq (.region false [
 ao 4 (.faddr 0 (.t 1)),
 ao 5 (.load (some 7) (.t 4)),
 ao 6 (.build [(i64 0), (i64 0), (.sl .full 1 [])] []),
 ao 7 (.call 91 [(.t 5), (.t 6)]),
 ao 8 (.mv (.t 7)),
 ag 9 (.faddr 7 (.t 1)) 8 false [],
 ag 10 (.load (some 4) (.t 9)) 8 false [],
 ag 11 (.call 92 [(.t 10)]) 8 false [],
 ao 12 (.pick (.t 8) (.c (.bool true)) (.t 11)),
 ao 13 (.mv (.t 12)),
 ag 14 (.faddr 11 (.t 1)) 13 false [],
 ag 15 (.load none (.t 14)) 13 false [],
 ag 16 (.len (.t 15)) 13 false [],
 ag 17 (.bin .gtr (.t 16) (.c (i64 40))) 13 false [],
 ao 18 (.pick (.t 13) (.c (.bool true)) (.t 17)),
 ao 19 (.mv (.t 18)),
 ag 20 (.faddr 12 (.t 1)) 19 false [],
 ag 21 (.load none (.t 20)) 19 false [],
 ag 22 (.len (.t 21)) 19 false [],
 ag 23 (.bin .gtr (.t 22) (.c (i64 40))) 19 false [],
 ao 24 (.pick (.t 19) (.c (.bool true)) (.t 23)),
 ao 25 (.mv (.t 24)),
 ag 26 (.faddr 13 (.t 1)) 25 false [],
 ag 27 (.load none (.t 26)) 25 false [],
 ag 28 (.len (.t 27)) 25 false [],
 ag 29 (.bin .gtr (.t 28) (.c (i64 40))) 25 false [],
 ao 30 (.pick (.t 25) (.c (.bool true)) (.t 29)),
 ao 31 (.mv (.t 30)),
 ag 32 (.faddr 14 (.t 1)) 31 false [],
 ag 33 (.load none (.t 32)) 31 false [],
 ag 34 (.len (.t 33)) 31 false [],
 ag 35 (.bin .gtr (.t 34) (.c (i64 40))) 31 false [],
 ao 36 (.pick (.t 31) (.c (.bool true)) (.t 35))] [1, 36]) (.cond (.t 36) (.seq (.region false [
 ao 2 (.mv (.c (.bool true)))] [2]) (.ret)) (.skip))) (.seq (.seq (.region false [
 ao 3 (.mv (.c (i64 0)))] [1, 3]) (.block 0 (b45l0))) (.seq (.region false [
 ao 2 (.mv (.c (.bool false)))] [2]) (.ret))))
def a45 : AFn := ⟨1, [.t 2], b45, false⟩
def n45 : Ann := ⟨[[1], [1, 36], [2], [1, 3], [1, 3, 41], [1, 3, 50], [2], [1, 3], [2]], [⟨[], [1, 3], [16, 112, 176]⟩], [], [], [], false, [(8, 112)]⟩
/-- almadraba/almadrabalaw02.Far -/
@[simp] def d46l0 : AC :=
 .seq (.seq (.region false [
 ao 19 (.mv (.t 4)),
 ao 20 (.faddr 4 (.t 1)),
 ao 21 (.load none (.t 20)),
 ao 22 (.len (.t 21)),
 ao 23 (.bin .lss (.t 19) (.t 22))] [1, 3, 4, 23]) (.cond (.t 23) (.skip) (.exit 0))) (.seq (.block 1 (.region true (spl [
 ao 26 (.mv (.t 3)),
 ao 27 (.faddr 4 (.t 1)),
 ap 28 (.load none (.t 27)) [1],
 ao 29 (.mv (.t 4)),
 ap 30 (.idxs 2 (.t 28) (.t 29)) [2, 3, 1],
 ap 31 (.faddr 1 (.t 30)) [4, 2, 3, 1],
 ap 32 (.load none (.t 31)) [5, 4, 2, 3, 1],
 ao 33 (.faddr 4 (.t 1)),
 ap 34 (.load none (.t 33)) [7],
 ao 35 (.mv (.t 4)),
 ap 36 (.idxs 2 (.t 34) (.t 35)) [8, 9, 7],
 ap 37 (.faddr 0 (.t 36)) [10, 8, 9, 7],
 ap 38 (.load none (.t 37)) [11, 10, 8, 9, 7],
 ap 39 (.bin .sub (.t 32) (.t 38)) [6, 12, 5, 4, 2, 3, 1, 11, 10, 8, 9, 7],
 ap 40 (.bin .add (.t 39) (.c (i64 1))) [13, 6, 12, 5, 4, 2, 3, 1, 11, 10, 8, 9, 7]] [
 ap 41 (.bin .mul (.t 26) (.t 40)) [0, 14, 13, 6, 12, 5, 4, 2, 3, 1, 11, 10, 8, 9, 7],
 ap 3 (.mv (.t 41)) [15, 0, 14, 13, 6, 12, 5, 4, 2, 3, 1, 11, 10, 8, 9, 7]]) [1, 3, 4])) (.region false [
 ao 24 (.mv (.t 4)),
 ao 25 (.bin .add (.t 24) (.c (i64 1))),
 ao 4 (.mv (.t 25))] [1, 3, 4]))
def b46l0 : AC := .loop [1, 3, 4] [16, 112, 144] d46l0
/-- almadraba/almadrabalaw02.Far -/
def b46 : AC :=
 .seq (.region false [
 ao 1 (.box (.t 0)),
 ao 2 (.mv (.c (.bool false)))] [1]) (.seq (.seq (.region false [
 ao 5 (.load (some 7) (.t 1)),
 ao 6 (.build [(i64 0), (i64 0), (.sl .full 1 [])] []),
 ao 7 (.call 91 [(.t 5), (.t 6)])] [1, 7]) (.cond (.t 7) (.seq (.region false [
 ao 2 (.mv (.c (.bool true)))] [2]) (.ret)) (.skip))) (.seq (.seq (.region false [
 ao 8 (.load (some 7) (.t 1)),
 ao 9 (.call 57 [(.t 8)]),
 ao 10 (.bin .neq (.t 9) (.c (i64 0)))] [1, 10]) (.cond (.t 10) (.seq (.region false [
 ao 2 (.mv (.c (.bool false)))] [2]) (.ret)) (.skip))) (.seq (.region false [
 ao 11 (.faddr 2 (.t 1)),
 ao 12 (.faddr 1 (.t 11)),
 ao 13 (.load none (.t 12)),
 ao 14 (.faddr 2 (.t 1)),
 ao 15 (.faddr 0 (.t 14)),
 ao 16 (.load none (.t 15)),
 ao 17 (.bin .sub (.t 13) (.t 16)),
 ao 18 (.bin .add (.t 17) (.c (i64 1))),
 ao 3 (.mv (.t 18))] [1, 3]) (.seq (.seq (.region false [
 ao 4 (.mv (.c (i64 0)))] [1, 3, 4]) (.block 0 (b46l0))) (.seq (.region false [
 ao 42 (.mv (.t 3)),
 ao 43 (.bin .gtr (.t 42) (.c (i64 24))),
 ao 44 (.mv (.t 43)),
 ag 45 (.mv (.t 3)) 44 false [],
 ag 46 (.faddr 0 (.t 1)) 44 false [],
 ag 47 (.faddr 1 (.t 46)) 44 false [],
 ag 48 (.load none (.t 47)) 44 false [],
 ag 49 (.faddr 0 (.t 1)) 44 false [],
 ag 50 (.faddr 0 (.t 49)) 44 false [],
 ag 51 (.load none (.t 50)) 44 false [],
 ag 52 (.bin .sub (.t 48) (.t 51)) 44 false [],
 ag 53 (.bin .add (.t 52) (.c (i64 1))) 44 false [],
 ag 54 (.bin .mul (.t 45) (.t 53)) 44 false [],
 ag 55 (.bin .gtr (.t 54) (.c (i64 100))) 44 false [],
 ao 56 (.pick (.t 44) (.c (.bool true)) (.t 55)),
 ao 2 (.mv (.t 56))] [2]) (.ret))))))
def a46 : AFn := ⟨1, [.t 2], b46, false⟩
def n46 : Ann := ⟨[[1], [1, 7], [2], [1, 10], [2], [1, 3], [1, 3, 4], [1, 3, 4, 23], [1, 3, 4], [1, 3, 4], [2]], [⟨[], [1, 3, 4], [16, 112, 144]⟩], [], [], [], false, []⟩
/-- almadraba/almadrabaref13.NetOf -/
def b47 : AC :=
 .seq (.region false [
 ao 2 (.box (.t 0)),
 ao 4 (.alloc [(i64 0), (i64 0), (i64 0), (i64 0), (.sl .full 2 []), (.sl .full 2 []), (.sl .full 5 [])])] [1, 2, 4]) (.seq (.region false [
 ao 6 (.faddr 0 (.t 2)),
 ao 7 (.load (some 7) (.t 6)),
 ao 8 (.call 50 [(.t 7)]),
 ao 5 (.alloc [(i64 0), (i64 0), (i64 0), (i64 0), (.sl .full 2 []), (.sl .full 2 []), (.sl .full 5 [])]),
 ⟨none, .store 7 (.t 5) (.t 8), none, [], []⟩] [1, 2, 4, 5]) (.seq (.region true (spl [
 ao 9 (.faddr 11 (.t 2)),
 ap 10 (.load none (.t 9)) [0],
 ao 11 (.mv (.t 1)),
 ap 12 (.idxs 4 (.t 10) (.t 11)) [1, 2, 0],
 ap 13 (.faddr 0 (.t 12)) [3, 1, 2, 0],
 ap 14 (.load (some 2) (.t 13)) [4, 3, 1, 2, 0],
 ⟨(some 15), .faddr 11 (.t 2), none, [], [80]⟩,
 ⟨(some 16), .load none (.t 15), none, [6], [80]⟩,
 ⟨(some 17), .mv (.t 1), none, [], [80]⟩,
 ⟨(some 18), .idxs 4 (.t 16) (.t 17), none, [7, 8, 6], [80]⟩,
 ⟨(some 19), .faddr 2 (.t 18), none, [9, 7, 8, 6], [80]⟩,
 ⟨(some 20), .load (some 2) (.t 19), none, [10, 9, 7, 8, 6], [80]⟩,
 ap 21 (.faddr 0 (.t 5)) [5, 4, 3, 1, 2, 0],
 ⟨none, .store 2 (.t 21) (.t 14), none, [12, 5, 4, 3, 1, 2, 0], []⟩] [
 ap 22 (.faddr 2 (.t 5)) [11, 13, 10, 9, 7, 8, 6, 12, 5, 4, 3, 1, 2, 0],
 ⟨none, .store 2 (.t 22) (.t 20), none, [14, 11, 13, 10, 9, 7, 8, 6, 12, 5, 4, 3, 1, 2, 0], []⟩]) [4, 5]) (.seq (.region false [
 ao 23 (.load (some 7) (.t 5)),
 ⟨none, .store 7 (.t 4) (.t 23), none, [], []⟩] [4]) (.ret))))
def a47 : AFn := ⟨2, [.cell 4 (some 7)], b47, false⟩
def n47 : Ann := ⟨[[1, 2, 4], [1, 2, 4, 5], [4, 5], [4]], [], [], [], [], false, []⟩
/-- almadraba/almadrabalaw13.Example -/
def b48 : AC :=
 .seq (.region false [
 ao 0 (.alloc [(i64 0), (i64 0), (i64 0), (i64 0), (.sl .full 2 []), (.sl .full 2 []), (.sl .full 5 []), (i64 0), (i64 0), (.sl .full 2 []), (.sl .full 2 []), (.sl .full 4 []), (.sl .full 1 []), (.sl .full 1 []), (.sl .full 2 [])])] [0]) (.seq (.region false [
 ao 4 (.call 49 [(.c (i64 2)), (.c (i64 4))]),
 ao 5 (.call 49 [(.c (i64 1)), (.c (i64 3))]),
 ao 6 (.call 49 [(.c (i64 2)), (.c (i64 3))]),
 ao 7 (.call 49 [(.c (i64 1)), (.c (i64 4))]),
 ao 8 (.lit [(i64 0), (i64 0)] 2 [(0, (.t 6)), (1, (.t 7))]),
 ao 9 (.build [(i64 0), (i64 0)] [(0, 1, (.c (i64 6))), (1, 1, (.c (i64 0)))]),
 ao 10 (.build [(i64 0), (i64 0)] [(0, 1, (.c (i64 5))), (1, 1, (.c (i64 1)))]),
 ao 11 (.build [(i64 0), (i64 0)] [(0, 1, (.c (i64 4))), (1, 1, (.c (i64 0)))]),
 ao 12 (.lit [(i64 0), (i64 0)] 3 [(0, (.t 9)), (1, (.t 10)), (2, (.t 11))]),
 ao 13 (.build [(i64 0), (i64 0), (i64 0), (i64 0), (i64 0)] [(0, 1, (.c (i64 2))), (1, 1, (.c (i64 1))), (2, 1, (.c (i64 3))), (3, 1, (.c (i64 8))), (4, 1, (.c (i64 9)))]),
 ao 14 (.build [(i64 0), (i64 0), (i64 0), (i64 0), (i64 0)] [(0, 1, (.c (i64 1))), (1, 1, (.c (i64 2))), (2, 1, (.c (i64 2))), (3, 1, (.c (i64 6))), (4, 1, (.c (i64 6)))]),
 ao 15 (.lit [(i64 0), (i64 0), (i64 0), (i64 0), (i64 0)] 2 [(0, (.t 13)), (1, (.t 14))]),
 ao 16 (.build [(i64 0), (i64 0), (i64 0), (i64 0), (.sl .full 2 []), (.sl .full 2 []), (.sl .full 5 [])] [(0, 2, (.t 4)), (2, 2, (.t 5)), (4, 1, (.t 8)), (5, 1, (.t 12)), (6, 1, (.t 15))]),
 ao 1 (.alloc [(i64 0), (i64 0), (i64 0), (i64 0), (.sl .full 2 []), (.sl .full 2 []), (.sl .full 5 [])]),
 ⟨none, .store 7 (.t 1) (.t 16), none, [], []⟩] [0, 1]) (.seq (.region false [
 ao 18 (.call 93 []),
 ao 17 (.mv (.t 18)),
 ao 19 (.ext (.t 17) 0),
 ao 20 (.ext (.t 17) 1),
 ao 2 (.alloc [(i64 0), (i64 0), (.sl .full 2 []), (.sl .full 2 [])]),
 ao 3 (.alloc [(i64 0), (i64 0), (.sl .full 2 []), (.sl .full 2 [])]),
 ⟨none, .store 4 (.t 2) (.t 19), none, [], []⟩,
 ⟨none, .store 4 (.t 3) (.t 20), none, [], []⟩] [0, 1, 2]) (.seq (.region true (spl [
 ao 21 (.load (some 7) (.t 1)),
 ao 22 (.load (some 4) (.t 2)),
 ao 23 (.call 49 [(.c (i64 0)), (.c (i64 1))]),
 ap 24 (.call 49 [(.c (i64 0)), (.c (i64 0))]) [2],
 ap 25 (.build [(i64 0), (i64 0), (i64 0), (i64 0)] [(0, 2, (.t 23)), (2, 2, (.t 24))]) [3, 2],
 ap 26 (.call 49 [(.c (i64 2)), (.c (i64 4))]) [3, 2],
 ap 27 (.call 49 [(.c (i64 1)), (.c (i64 3))]) [5, 3, 2],
 ap 28 (.build [(i64 0), (i64 0), (i64 0), (i64 0)] [(0, 2, (.t 26)), (2, 2, (.t 27))]) [6, 5, 3, 2],
 ap 29 (.lit [(i64 0), (i64 0), (i64 0), (i64 0)] 2 [(0, (.t 25)), (1, (.t 28))]) [4, 7, 6, 5, 3, 2],
 ao 30 (.lit [(i64 0)] 2 [(0, (.c (i64 0))), (1, (.c (i64 1)))]),
 ao 31 (.lit [(i64 0)] 1 [(0, (.c (i64 0)))]),
 ap 32 (.lit [(.sl .full 1 [])] 2 [(0, (.t 30)), (1, (.t 31))]) [9, 10],
 ao 33 (.lit [(i64 0)] 2 [(0, (.c (i64 0))), (1, (.c (i64 1)))]),
 ap 34 (.call 49 [(.c (i64 60)), (.c (i64 80))]) [6, 5, 3, 2],
 ap 35 (.call 49 [(.c (i64 90)), (.c (i64 120))]) [13, 6, 5, 3, 2],
 ap 36 (.call 49 [(.c (i64 100)), (.c (i64 121))]) [14, 13, 6, 5, 3, 2],
 ap 37 (.lit [(i64 0), (i64 0)] 3 [(0, (.t 34)), (1, (.t 35)), (2, (.t 36))]) [15, 14, 13, 6, 5, 3, 2]] [
 ap 38 (.build [(i64 0), (i64 0), (i64 0), (i64 0), (.sl .full 2 []), (.sl .full 2 []), (.sl .full 5 []), (i64 0), (i64 0), (.sl .full 2 []), (.sl .full 2 []), (.sl .full 4 []), (.sl .full 1 []), (.sl .full 1 []), (.sl .full 2 [])] [(0, 7, (.t 21)), (7, 4, (.t 22)), (11, 1, (.t 29)), (12, 1, (.t 32)), (13, 1, (.t 33)), (14, 1, (.t 37))]) [0, 1, 8, 11, 12, 16, 4, 7, 9, 10, 15, 14, 13, 6, 5, 3, 2],
 ⟨none, .store 15 (.t 0) (.t 38), none, [17, 0, 1, 8, 11, 12, 16, 4, 7, 9, 10, 15, 14, 13, 6, 5, 3, 2], []⟩]) [0]) (.ret))))
def a48 : AFn := ⟨0, [.cell 0 (some 15)], b48, false⟩
def n48 : Ann := ⟨[[0], [0, 1], [0, 1, 2], [0]], [], [], [], [], false, [(20, 288), (19, 288), (17, 288)]⟩
/-- almadraba/almadrabalaw13.span -/
def b49 : AC :=
 .seq (.region false [
 ao 4 (.alloc [(i64 0), (i64 0)])] [0, 1, 4]) (.seq (.region false [
 ao 5 (.mv (.t 0)),
 ao 6 (.mv (.t 1)),
 ao 7 (.build [(i64 0), (i64 0)] [(0, 1, (.t 5)), (1, 1, (.t 6))]),
 ⟨none, .store 2 (.t 4) (.t 7), none, [], []⟩] [4]) (.ret))
def a49 : AFn := ⟨2, [.cell 4 (some 2)], b49, false⟩
def n49 : Ann := ⟨[[0, 1, 4], [4]], [], [], [], [], false, []⟩
/-- almadraba/almadrabaref02.Copy -/
def b50 : AC :=
 .seq (.region false [
 ao 1 (.box (.t 0)),
 ao 2 (.alloc [(i64 0), (i64 0), (i64 0), (i64 0), (.sl .full 2 []), (.sl .full 2 []), (.sl .full 5 [])])] [1, 2]) (.seq (.region false [
 ao 4 (.load (some 7) (.t 1)),
 ao 3 (.alloc [(i64 0), (i64 0), (i64 0), (i64 0), (.sl .full 2 []), (.sl .full 2 []), (.sl .full 5 [])]),
 ⟨none, .store 7 (.t 3) (.t 4), none, [], []⟩] [1, 2, 3]) (.seq (.region false [
 ao 5 (.lit [(i64 0), (i64 0)] 0 []),
 ao 6 (.faddr 4 (.t 1)),
 ao 7 (.load none (.t 6)),
 ao 8 (.appm 2 16 (.t 5) (.t 7)),
 ao 9 (.faddr 4 (.t 3)),
 ⟨none, .store 1 (.t 9) (.t 8), none, [], []⟩] [1, 2, 3]) (.seq (.region false [
 ao 10 (.lit [(i64 0), (i64 0)] 0 []),
 ao 11 (.faddr 5 (.t 1)),
 ao 12 (.load none (.t 11)),
 ao 13 (.appm 2 16 (.t 10) (.t 12)),
 ao 14 (.faddr 5 (.t 3)),
 ⟨none, .store 1 (.t 14) (.t 13), none, [], []⟩] [1, 2, 3]) (.seq (.region false [
 ao 15 (.lit [(i64 0), (i64 0), (i64 0), (i64 0), (i64 0)] 0 []),
 ao 16 (.faddr 6 (.t 1)),
 ao 17 (.load none (.t 16)),
 ao 18 (.appm 5 40 (.t 15) (.t 17)),
 ao 19 (.faddr 6 (.t 3)),
 ⟨none, .store 1 (.t 19) (.t 18), none, [], []⟩] [2, 3]) (.seq (.region false [
 ao 20 (.load (some 7) (.t 3)),
 ⟨none, .store 7 (.t 2) (.t 20), none, [], []⟩] [2]) (.ret))))))
def a50 : AFn := ⟨1, [.cell 2 (some 7)], b50, true⟩
def n50 : Ann := ⟨[[1, 2], [1, 2, 3], [1, 2, 3], [1, 2, 3], [2, 3], [2]], [], [], [], [8, 13, 18], true, []⟩
/-- almadraba/almadrabaref05.Copy -/
def b51 : AC :=
 .seq (.region false [
 ao 1 (.box (.t 0)),
 ao 2 (.alloc [(i64 0), (i64 0), (.sl .full 2 []), (.sl .full 2 [])])] [1, 2]) (.seq (.region true (spl [
 ao 3 (.faddr 0 (.t 1)),
 ap 4 (.load (some 2) (.t 3)) [0],
 ao 5 (.lit [(i64 0), (i64 0)] 0 []),
 ao 6 (.faddr 2 (.t 1)),
 ap 7 (.load none (.t 6)) [3],
 ap 8 (.appm 2 16 (.t 5) (.t 7)) [2, 4, 3],
 ao 9 (.lit [(i64 0), (i64 0)] 0 []),
 ao 10 (.faddr 3 (.t 1)),
 ap 11 (.load none (.t 10)) [7],
 ap 12 (.appm 2 16 (.t 9) (.t 11)) [6, 8, 5, 7, 2, 4, 3]] [
 ap 13 (.build [(i64 0), (i64 0), (.sl .full 2 []), (.sl .full 2 [])] [(0, 2, (.t 4)), (2, 1, (.t 8)), (3, 1, (.t 12))]) [1, 9, 0, 6, 8, 5, 7, 2, 4, 3],
 ⟨none, .store 4 (.t 2) (.t 13), none, [10, 1, 9, 0, 6, 8, 5, 7, 2, 4, 3], []⟩]) [2]) (.ret))
def a51 : AFn := ⟨1, [.cell 2 (some 4)], b51, true⟩
def n51 : Ann := ⟨[[1, 2], [2]], [], [], [], [8, 12], true, []⟩
/-- almadraba/skies.Check$1 -/
@[simp] def d52l0 : AC :=
 .seq (.region false [
 ao 9 (.bin .lss (.t 8) (.t 7))] [0, 1, 6, 7, 8, 9]) (.seq (.cond (.t 9) (.skip) (.exit 0)) (.seq (.block 1 (.seq (.region false [
 ao 10 (.mv (.t 8)),
 ao 11 (.idxs 1 (.t 6) (.t 8)),
 ao 12 (.load none (.t 11)),
 ao 4 (.mv (.t 10)),
 ao 5 (.mv (.t 12))] [0, 1, 4, 5, 6, 7, 8]) (.seq (.region false [
 ao 13 (.mv (.t 5)),
 ao 14 (.faddr 11 (.t 1)),
 ao 15 (.load none (.t 14)),
 ao 16 (.len (.t 15)),
 ao 17 (.bin .sub (.t 16) (.c (i64 1))),
 ao 18 (.call 53 [(.t 13), (.c (i64 0)), (.t 17)]),
 ao 19 (.un .not (.t 18)),
 ao 20 (.mv (.t 19)),
 ag 21 (.mv (.t 4)) 20 false [],
 ag 22 (.bin .gtr (.t 21) (.c (i64 0))) 20 false [],
 ag 23 (.mv (.t 22)) 20 false [],
 ag 24 (.mv (.t 5)) 23 true [],
 ag 25 (.mv (.t 0)) 23 true [],
 ag 26 (.mv (.t 4)) 23 true [],
 ag 27 (.bin .sub (.t 26) (.c (i64 1))) 23 true [],
 ag 28 (.idxs 1 (.t 25) (.t 27)) 23 true [],
 ag 29 (.load none (.t 28)) 23 true [],
 ag 30 (.bin .leq (.t 24) (.t 29)) 23 true [],
 ag 31 (.pick (.t 23) (.t 30) (.c (.bool false))) 20 false [],
 ao 32 (.pick (.t 20) (.c (.bool true)) (.t 31))] [0, 1, 6, 7, 8, 32]) (.cond (.t 32) (.seq (.region false [
 ao 3 (.mv (.c (.bool false)))] [3]) (.ret)) (.skip))))) (.region false [
 ao 33 (.bin .add (.t 8) (.c (i64 1))),
 ao 8 (.mv (.t 33))] [0, 1, 6, 7, 8])))
def b52l0 : AC := .loop [0, 1, 6, 7, 8] [] d52l0
/-- almadraba/skies.Check$1 -/
def b52 : AC :=
 .seq (.region false [
 ao 3 (.mv (.c (.bool false)))] [0, 1]) (.seq (.seq (.region false [
 ao 6 (.mv (.t 0)),
 ao 7 (.len (.t 6)),
 ao 8 (.mv (.c (i64 0)))] [0, 1, 6, 7, 8]) (.block 0 (b52l0))) (.seq (.region false [
 ao 34 (.mv (.t 0)),
 ao 35 (.len (.t 34)),
 ao 36 (.bin .gtr (.t 35) (.c (i64 0))),
 ao 3 (.mv (.t 36))] [3]) (.ret)))
def a52 : AFn := ⟨2, [.t 3], b52, false⟩
def n52 : Ann := ⟨[[0, 1], [0, 1, 6, 7, 8], [0, 1, 6, 7, 8, 9], [0, 1, 4, 5, 6, 7, 8], [0, 1, 6, 7, 8, 32], [3], [0, 1, 6, 7, 8], [3]], [⟨[], [0, 1, 6, 7, 8], []⟩], [], [], [], false, []⟩
/-- almadraba/skies.within -/
def b53 : AC :=
 .seq (.region false [
 ao 6 (.mv (.c (.bool false)))] [0, 1, 2]) (.seq (.region false [
 ao 7 (.mv (.t 0)),
 ao 8 (.mv (.t 1)),
 ao 9 (.bin .geq (.t 7) (.t 8)),
 ao 10 (.mv (.t 9)),
 ag 11 (.mv (.t 0)) 10 true [],
 ag 12 (.mv (.t 2)) 10 true [],
 ag 13 (.bin .leq (.t 11) (.t 12)) 10 true [],
 ao 14 (.pick (.t 10) (.t 13) (.c (.bool false))),
 ao 6 (.mv (.t 14))] [6]) (.ret))
def a53 : AFn := ⟨3, [.t 6], b53, false⟩
def n53 : Ann := ⟨[[0, 1, 2], [6]], [], [], [], [], false, []⟩
/-- almadraba/anchors.Check -/
def b54 : AC :=
 .seq (.region false [
 ao 1 (.box (.t 0)),
 ao 2 (.mv (.c (i64 0)))] [1]) (.seq (.region false [
 ao 4 (.faddr 0 (.t 1)),
 ao 5 (.load (some 2) (.t 4)),
 ao 6 (.call 94 [(.t 5), (.c (i64 20))]),
 ao 7 (.mv (.t 6)),
 ag 8 (.faddr 2 (.t 1)) 7 true [],
 ag 9 (.load (some 2) (.t 8)) 7 true [],
 ag 10 (.call 94 [(.t 9), (.c (i64 20))]) 7 true [],
 ao 11 (.pick (.t 7) (.t 10) (.c (.bool false))),
 ao 12 (.mv (.t 11)),
 ag 13 (.faddr 4 (.t 1)) 12 true [],
 ag 14 (.load none (.t 13)) 12 true [],
 ag 15 (.len (.t 14)) 12 true [],
 ag 16 (.bin .leq (.t 15) (.c (i64 3))) 12 true [],
 ao 17 (.pick (.t 12) (.t 16) (.c (.bool false))),
 ao 18 (.mv (.t 17)),
 ag 19 (.faddr 5 (.t 1)) 18 true [],
 ag 20 (.load none (.t 19)) 18 true [],
 ag 21 (.len (.t 20)) 18 true [],
 ag 22 (.bin .leq (.t 21) (.c (i64 6))) 18 true [],
 ao 23 (.pick (.t 18) (.t 22) (.c (.bool false))),
 ao 24 (.mv (.t 23)),
 ag 25 (.faddr 6 (.t 1)) 24 true [],
 ag 26 (.load none (.t 25)) 24 true [],
 ag 27 (.len (.t 26)) 24 true [],
 ag 28 (.faddr 5 (.t 1)) 24 true [],
 ag 29 (.load none (.t 28)) 24 true [],
 ag 30 (.len (.t 29)) 24 true [],
 ag 31 (.bin .sub (.t 30) (.c (i64 1))) 24 true [],
 ag 32 (.mm true (.c (i64 0)) (.t 31)) 24 true [],
 ag 33 (.bin .eql (.t 27) (.t 32)) 24 true [],
 ao 34 (.pick (.t 24) (.t 33) (.c (.bool false))),
 ao 3 (.mv (.t 34))] [1, 3]) (.seq (.region false [
 ao 35 (.mv (.t 3)),
 ao 36 (.mv (.t 35)),
 ag 37 (.faddr 4 (.t 1)) 36 true [],
 ag 38 (.load none (.t 37)) 36 true [],
 ag 39 (.call 95 [(.t 38), (.c (.fn 96 [] []))]) 36 true [],
 ao 40 (.pick (.t 36) (.t 39) (.c (.bool false))),
 ao 3 (.mv (.t 40))] [1, 3]) (.seq (.region false [
 ao 41 (.mv (.t 3)),
 ao 42 (.mv (.t 41)),
 ag 43 (.faddr 5 (.t 1)) 42 true [],
 ag 44 (.load none (.t 43)) 42 true [],
 ag 45 (.mkfn 98 [] [(.t 1)]) 42 true [],
 ag 46 (.call 97 [(.t 44), (.t 45)]) 42 true [],
 ao 47 (.pick (.t 42) (.t 46) (.c (.bool false))),
 ao 3 (.mv (.t 47))] [1, 3]) (.seq (.region false [
 ao 48 (.mv (.t 3)),
 ao 49 (.mv (.t 48)),
 ag 50 (.faddr 6 (.t 1)) 49 true [],
 ag 51 (.load none (.t 50)) 49 true [],
 ag 52 (.call 100 [(.t 51), (.c (.fn 101 [] []))]) 49 true [],
 ao 53 (.pick (.t 49) (.t 52) (.c (.bool false))),
 ao 3 (.mv (.t 53))] [3]) (.seq (.seq (.region false [
 ao 54 (.mv (.t 3)),
 ao 55 (.un .not (.t 54))] [55]) (.cond (.t 55) (.seq (.region false [
 ao 2 (.mv (.c (i64 20)))] [2]) (.ret)) (.skip))) (.seq (.region false [
 ao 2 (.mv (.c (i64 0)))] [2]) (.ret)))))))
def a54 : AFn := ⟨1, [.t 2], b54, false⟩
def n54 : Ann := ⟨[[1], [1, 3], [1, 3], [1, 3], [3], [55], [2], [2]], [], [], [], [], false, [(7, 96)]⟩
/-- almadraba/lifts.Check -/
@[simp] def d55l0 : AC :=
 .seq (.region false [
 ao 39 (.bin .lss (.t 38) (.t 37))] [1, 3, 4, 36, 37, 38, 39]) (.seq (.cond (.t 39) (.skip) (.exit 0)) (.seq (.block 1 (.seq (.region false [
 ao 40 (.idxs 2 (.t 36) (.t 38)),
 ao 41 (.load (some 2) (.t 40)),
 ao 6 (.alloc [(i64 0), (i64 0)]),
 ⟨none, .store 2 (.t 6) (.t 41), none, [], []⟩] [1, 3, 4, 6, 36, 37, 38]) (.seq (.seq (.region false [
 ao 42 (.faddr 0 (.t 6)),
 ao 43 (.load none (.t 42)),
 ao 44 (.faddr 1 (.t 6)),
 ao 45 (.load none (.t 44)),
 ao 46 (.call 102 [(.t 43), (.c (i64 0)), (.t 45)]),
 ao 47 (.un .not (.t 46)),
 ao 48 (.mv (.t 47)),
 ag 49 (.faddr 1 (.t 6)) 48 false [],
 ag 50 (.load none (.t 49)) 48 false [],
 ag 51 (.bin .gtr (.t 50) (.c (i64 12))) 48 false [],
 ao 52 (.pick (.t 48) (.c (.bool true)) (.t 51))] [1, 3, 4, 6, 36, 37, 38, 52]) (.cond (.t 52) (.seq (.region false [
 ao 2 (.mv (.c (i64 50)))] [2]) (.ret)) (.skip))) (.region true (spl [
 ao 53 (.mv (.t 3)),
 ao 54 (.faddr 0 (.t 6)),
 ap 55 (.load none (.t 54)) [1],
 ap 56 (.bin .add (.t 53) (.t 55)) [0, 2, 1],
 ao 57 (.mv (.t 4)),
 ao 58 (.faddr 1 (.t 6)),
 ap 59 (.load none (.t 58)) [5],
 ap 60 (.bin .add (.t 57) (.t 59)) [4, 6, 5],
 ap 3 (.mv (.t 56)) [3, 0, 2, 1]] [
 ap 4 (.mv (.t 60)) [7, 8, 4, 6, 5, 3, 0, 2, 1]]) [1, 3, 4, 36, 37, 38])))) (.region false [
 ao 61 (.bin .add (.t 38) (.c (i64 1))),
 ao 38 (.mv (.t 61))] [1, 3, 4, 36, 37, 38])))
def b55l0 : AC := .loop [1, 3, 4, 36, 37, 38] [16, 128, 240, 1024, 1200, 1280] d55l0
/-- almadraba/lifts.Check -/
@[simp] def d55l1 : AC :=
 .seq (.region false [
 ao 70 (.bin .lss (.t 69) (.t 68))] [67, 68, 69, 70]) (.seq (.cond (.t 70) (.skip) (.exit 2)) (.seq (.block 3 (.seq (.region false [
 ao 71 (.idxs 2 (.t 67) (.t 69)),
 ao 72 (.load (some 2) (.t 71)),
 ao 8 (.alloc [(i64 0), (i64 0)]),
 ⟨none, .store 2 (.t 8) (.t 72), none, [], []⟩] [8, 67, 68, 69]) (.seq (.region false [
 ao 73 (.faddr 0 (.t 8)),
 ao 74 (.load none (.t 73)),
 ao 75 (.call 102 [(.t 74), (.c (i64 0)), (.c (i64 999))]),
 ao 76 (.un .not (.t 75)),
 ao 77 (.mv (.t 76)),
 ag 78 (.faddr 1 (.t 8)) 77 false [],
 ag 79 (.load none (.t 78)) 77 false [],
 ag 80 (.call 102 [(.t 79), (.c (i64 0)), (.c (i64 99))]) 77 false [],
 ag 81 (.un .not (.t 80)) 77 false [],
 ao 82 (.pick (.t 77) (.c (.bool true)) (.t 81))] [67, 68, 69, 82]) (.cond (.t 82) (.seq (.region false [
 ao 2 (.mv (.c (i64 50)))] [2]) (.ret)) (.skip))))) (.region false [
 ao 83 (.bin .add (.t 69) (.c (i64 1))),
 ao 69 (.mv (.t 83))] [67, 68, 69])))
def b55l1 : AC := .loop [67, 68, 69] [16, 96, 240, 736, 1024] d55l1
/-- almadraba/lifts.Check -/
def b55 : AC :=
 .seq (.region false [
 ao 1 (.box (.t 0)),
 ao 2 (.mv (.c (i64 0)))] [1]) (.seq (.seq (.region false [
 ao 9 (.faddr 0 (.t 1)),
 ao 10 (.faddr 0 (.t 9)),
 ao 11 (.load none (.t 10)),
 ao 12 (.faddr 0 (.t 1)),
 ao 13 (.faddr 1 (.t 12)),
 ao 14 (.load none (.t 13)),
 ao 15 (.call 102 [(.t 11), (.c (i64 0)), (.t 14)]),
 ao 16 (.un .not (.t 15)),
 ao 17 (.mv (.t 16)),
 ag 18 (.faddr 0 (.t 1)) 17 false [],
 ag 19 (.faddr 1 (.t 18)) 17 false [],
 ag 20 (.load none (.t 19)) 17 false [],
 ag 21 (.bin .gtr (.t 20) (.c (i64 2000))) 17 false [],
 ao 22 (.pick (.t 17) (.c (.bool true)) (.t 21)),
 ao 23 (.mv (.t 22)),
 ag 24 (.faddr 2 (.t 1)) 23 false [],
 ag 25 (.load none (.t 24)) 23 false [],
 ag 26 (.len (.t 25)) 23 false [],
 ag 27 (.bin .gtr (.t 26) (.c (i64 4))) 23 false [],
 ao 28 (.pick (.t 23) (.c (.bool true)) (.t 27)),
 ao 29 (.mv (.t 28)),
 ag 30 (.faddr 3 (.t 1)) 29 false [],
 ag 31 (.load none (.t 30)) 29 false [],
 ag 32 (.len (.t 31)) 29 false [],
 ag 33 (.bin .gtr (.t 32) (.c (i64 6))) 29 false [],
 ao 34 (.pick (.t 29) (.c (.bool true)) (.t 33))] [1, 34]) (.cond (.t 34) (.seq (.region false [
 ao 2 (.mv (.c (i64 50)))] [2]) (.ret)) (.skip))) (.seq (.region false [
 ao 3 (.mv (.c (i64 0))),
 ao 4 (.mv (.c (i64 0)))] [1, 3, 4]) (.seq (.seq (.region false [
 ao 35 (.faddr 2 (.t 1)),
 ao 36 (.load none (.t 35)),
 ao 37 (.len (.t 36)),
 ao 38 (.mv (.c (i64 0)))] [1, 3, 4, 36, 37, 38]) (.block 0 (b55l0))) (.seq (.seq (.region false [
 ao 62 (.mv (.t 3)),
 ao 63 (.mv (.t 4)),
 ao 64 (.call 102 [(.c (i64 12)), (.t 62), (.t 63)]),
 ao 65 (.un .not (.t 64))] [1, 65]) (.cond (.t 65) (.seq (.region false [
 ao 2 (.mv (.c (i64 50)))] [2]) (.ret)) (.skip))) (.seq (.seq (.region false [
 ao 66 (.faddr 3 (.t 1)),
 ao 67 (.load none (.t 66)),
 ao 68 (.len (.t 67)),
 ao 69 (.mv (.c (i64 0)))] [67, 68, 69]) (.block 2 (b55l1))) (.seq (.region false [
 ao 2 (.mv (.c (i64 0)))] [2]) (.ret)))))))
def a55 : AFn := ⟨1, [.t 2], b55, false⟩
def n55 : Ann := ⟨[[1], [1, 34], [2], [1, 3, 4], [1, 3, 4, 36, 37, 38], [1, 3, 4, 36, 37, 38, 39], [1, 3, 4, 6, 36, 37, 38], [1, 3, 4, 6, 36, 37, 38, 52], [2], [1, 3, 4, 36, 37, 38], [1, 3, 4, 36, 37, 38], [1, 65], [2], [67, 68, 69], [67, 68, 69, 70], [8, 67, 68, 69], [67, 68, 69, 82], [2], [67, 68, 69], [2]], [⟨[], [1, 3, 4, 36, 37, 38], [16, 128, 240, 1024, 1200, 1280]⟩, ⟨[], [67, 68, 69], [16, 96, 240, 736, 1024]⟩], [], [], [], false, []⟩
/-- almadraba/skies.isSpan -/
def b56 : AC :=
 .seq (.region false [
 ao 2 (.box (.t 0)),
 ao 4 (.mv (.c (.bool false)))] [1, 2]) (.seq (.region false [
 ao 5 (.faddr 0 (.t 2)),
 ao 6 (.load none (.t 5)),
 ao 7 (.faddr 1 (.t 2)),
 ao 8 (.load none (.t 7)),
 ao 9 (.call 53 [(.t 6), (.c (i64 0)), (.t 8)]),
 ao 10 (.mv (.t 9)),
 ag 11 (.faddr 1 (.t 2)) 10 true [],
 ag 12 (.load none (.t 11)) 10 true [],
 ag 13 (.mv (.t 1)) 10 true [],
 ag 14 (.bin .leq (.t 12) (.t 13)) 10 true [],
 ao 15 (.pick (.t 10) (.t 14) (.c (.bool false))),
 ao 4 (.mv (.t 15))] [4]) (.ret))
def a56 : AFn := ⟨2, [.t 4], b56, false⟩
def n56 : Ann := ⟨[[1, 2], [4]], [], [], [], [], false, [(10, 144)]⟩
/-- almadraba/almadrabaref02.Check -/
@[simp] def d57l0 : AC :=
 .seq (.seq (.region false [
 ao 40 (.mv (.t 3)),
 ao 41 (.faddr 4 (.t 1)),
 ao 42 (.load none (.t 41)),
 ao 43 (.len (.t 42)),
 ao 44 (.bin .lss (.t 40) (.t 43))] [1, 3, 44]) (.cond (.t 44) (.skip) (.exit 0))) (.seq (.block 1 (.seq (.region false [
 ao 47 (.faddr 4 (.t 1)),
 ao 48 (.load none (.t 47)),
 ao 49 (.mv (.t 3)),
 ao 50 (.idxs 2 (.t 48) (.t 49)),
 ao 51 (.load (some 2) (.t 50)),
 ao 52 (.call 103 [(.t 51), (.c (i64 9))]),
 ao 53 (.un .not (.t 52))] [1, 3, 53]) (.cond (.t 53) (.seq (.region false [
 ao 2 (.mv (.c (i64 20)))] [2]) (.ret)) (.skip)))) (.region false [
 ao 45 (.mv (.t 3)),
 ao 46 (.bin .add (.t 45) (.c (i64 1))),
 ao 3 (.mv (.t 46))] [1, 3]))
def b57l0 : AC := .loop [1, 3] [16, 96, 144, 224, 1072, 1280, 1552, 1632, 1728, 1824, 1920] d57l0
/-- almadraba/almadrabaref02.Check -/
@[simp] def d57l1 : AC :=
 .seq (.seq (.region false [
 ao 54 (.mv (.t 4)),
 ao 55 (.faddr 5 (.t 1)),
 ao 56 (.load none (.t 55)),
 ao 57 (.len (.t 56)),
 ao 58 (.bin .lss (.t 54) (.t 57))] [1, 4, 58]) (.cond (.t 58) (.skip) (.exit 2))) (.seq (.block 3 (.seq (.region true (spl [
 ao 61 (.faddr 5 (.t 1)),
 ap 62 (.load none (.t 61)) [0],
 ao 63 (.mv (.t 4)),
 ap 64 (.idxs 2 (.t 62) (.t 63)) [1, 2, 0],
 ap 65 (.faddr 0 (.t 64)) [3, 1, 2, 0],
 ap 66 (.load none (.t 65)) [4, 3, 1, 2, 0],
 ap 67 (.call 104 [(.t 66), (.c (i64 0)), (.c (i64 20))]) [5, 4, 3, 1, 2, 0],
 ap 68 (.un .not (.t 67)) [6, 5, 4, 3, 1, 2, 0],
 ap 69 (.mv (.t 68)) [7, 6, 5, 4, 3, 1, 2, 0],
 ag 70 (.faddr 5 (.t 1)) 69 false [8, 7, 6, 5, 4, 3, 1, 2, 0],
 ag 71 (.load none (.t 70)) 69 false [9, 8, 7, 6, 5, 4, 3, 1, 2, 0],
 ag 72 (.mv (.t 4)) 69 false [8, 7, 6, 5, 4, 3, 1, 2, 0],
 ag 73 (.idxs 2 (.t 71) (.t 72)) 69 false [10, 11, 9, 8, 7, 6, 5, 4, 3, 1, 2, 0],
 ag 74 (.faddr 1 (.t 73)) 69 false [12, 10, 11, 9, 8, 7, 6, 5, 4, 3, 1, 2, 0],
 ag 75 (.load none (.t 74)) 69 false [13, 12, 10, 11, 9, 8, 7, 6, 5, 4, 3, 1, 2, 0],
 ag 76 (.faddr 4 (.t 1)) 69 false [8, 7, 6, 5, 4, 3, 1, 2, 0],
 ag 77 (.load none (.t 76)) 69 false [15, 8, 7, 6, 5, 4, 3, 1, 2, 0],
 ag 78 (.len (.t 77)) 69 false [16, 15, 8, 7, 6, 5, 4, 3, 1, 2, 0],
 ag 79 (.bin .sub (.t 78) (.c (i64 1))) 69 false [17, 16, 15, 8, 7, 6, 5, 4, 3, 1, 2, 0]] [
 ag 80 (.call 104 [(.t 75), (.c (i64 0)), (.t 79)]) 69 false [14, 18, 13, 12, 10, 11, 9, 17, 16, 15, 8, 7, 6, 5, 4, 3, 1, 2, 0],
 ag 81 (.un .not (.t 80)) 69 false [19, 14, 18, 13, 12, 10, 11, 9, 17, 16, 15, 8, 7, 6, 5, 4, 3, 1, 2, 0],
 ap 82 (.pick (.t 69) (.c (.bool true)) (.t 81)) [20, 19, 14, 18, 13, 12, 10, 11, 9, 17, 16, 15, 8, 7, 6, 5, 4, 3, 1, 2, 0]]) [1, 4, 82]) (.cond (.t 82) (.seq (.region false [
 ao 2 (.mv (.c (i64 20)))] [2]) (.ret)) (.skip)))) (.region false [
 ao 59 (.mv (.t 4)),
 ao 60 (.bin .add (.t 59) (.c (i64 1))),
 ao 4 (.mv (.t 60))] [1, 4]))
def b57l1 : AC := .loop [1, 4] [16, 96, 144, 224, 832, 1552, 1632, 1728, 1824, 1920] d57l1
/-- almadraba/almadrabaref02.Check -/
@[simp] def d57l2 : AC :=
 .seq (.seq (.region false [
 ao 83 (.mv (.t 5)),
 ao 84 (.faddr 6 (.t 1)),
 ao 85 (.load none (.t 84)),
 ao 86 (.len (.t 85)),
 ao 87 (.bin .lss (.t 83) (.t 86))] [1, 5, 87]) (.cond (.t 87) (.skip) (.exit 4))) (.seq (.block 5 (.seq (.region false [
 ao 90 (.faddr 6 (.t 1)),
 ao 91 (.load none (.t 90)),
 ao 92 (.mv (.t 5)),
 ao 93 (.idxs 5 (.t 91) (.t 92)),
 ao 94 (.load (some 5) (.t 93)),
 ao 6 (.alloc [(i64 0), (i64 0), (i64 0), (i64 0), (i64 0)]),
 ⟨none, .store 5 (.t 6) (.t 94), none, [], []⟩] [1, 5, 6]) (.seq (.region false [
 ao 95 (.faddr 0 (.t 6)),
 ao 96 (.load none (.t 95)),
 ao 97 (.call 104 [(.t 96), (.c (i64 0)), (.c (i64 9))]),
 ao 98 (.un .not (.t 97)),
 ao 99 (.mv (.t 98)),
 ag 100 (.faddr 1 (.t 6)) 99 false [],
 ag 101 (.load none (.t 100)) 99 false [],
 ag 102 (.call 104 [(.t 101), (.c (i64 0)), (.c (i64 9))]) 99 false [],
 ag 103 (.un .not (.t 102)) 99 false [],
 ao 104 (.pick (.t 99) (.c (.bool true)) (.t 103)),
 ao 105 (.mv (.t 104)),
 ag 106 (.faddr 2 (.t 6)) 105 false [],
 ag 107 (.load none (.t 106)) 105 false [],
 ag 108 (.call 104 [(.t 107), (.c (i64 0)), (.c (i64 9))]) 105 false [],
 ag 109 (.un .not (.t 108)) 105 false [],
 ao 110 (.pick (.t 105) (.c (.bool true)) (.t 109)),
 ao 111 (.mv (.t 110)),
 ag 112 (.faddr 3 (.t 6)) 111 false [],
 ag 113 (.load none (.t 112)) 111 false [],
 ag 114 (.call 104 [(.t 113), (.c (i64 0)), (.c (i64 99))]) 111 false [],
 ag 115 (.un .not (.t 114)) 111 false [],
 ao 116 (.pick (.t 111) (.c (.bool true)) (.t 115)),
 ao 117 (.mv (.t 116)),
 ag 118 (.faddr 4 (.t 6)) 117 false [],
 ag 119 (.load none (.t 118)) 117 false [],
 ag 120 (.call 104 [(.t 119), (.c (i64 0)), (.c (i64 99))]) 117 false [],
 ag 121 (.un .not (.t 120)) 117 false [],
 ao 122 (.pick (.t 117) (.c (.bool true)) (.t 121))] [1, 5, 122]) (.cond (.t 122) (.seq (.region false [
 ao 2 (.mv (.c (i64 20)))] [2]) (.ret)) (.skip))))) (.region false [
 ao 88 (.mv (.t 5)),
 ao 89 (.bin .add (.t 88) (.c (i64 1))),
 ao 5 (.mv (.t 89))] [1, 5]))
def b57l2 : AC := .loop [1, 5] [16, 144, 224, 832, 1072, 1280] d57l2
/-- almadraba/almadrabaref02.Check -/
def b57 : AC :=
 .seq (.region false [
 ao 1 (.box (.t 0)),
 ao 2 (.mv (.c (i64 0)))] [1]) (.seq (.seq (.region false [
 ao 7 (.faddr 0 (.t 1)),
 ao 8 (.load (some 2) (.t 7)),
 ao 9 (.call 103 [(.t 8), (.c (i64 20))]),
 ao 10 (.un .not (.t 9)),
 ao 11 (.mv (.t 10)),
 ag 12 (.faddr 2 (.t 1)) 11 false [],
 ag 13 (.load (some 2) (.t 12)) 11 false [],
 ag 14 (.call 103 [(.t 13), (.c (i64 20))]) 11 false [],
 ag 15 (.un .not (.t 14)) 11 false [],
 ao 16 (.pick (.t 11) (.c (.bool true)) (.t 15)),
 ao 17 (.mv (.t 16)),
 ag 18 (.faddr 4 (.t 1)) 17 false [],
 ag 19 (.load none (.t 18)) 17 false [],
 ag 20 (.len (.t 19)) 17 false [],
 ag 21 (.bin .gtr (.t 20) (.c (i64 3))) 17 false [],
 ao 22 (.pick (.t 17) (.c (.bool true)) (.t 21)),
 ao 23 (.mv (.t 22)),
 ag 24 (.faddr 5 (.t 1)) 23 false [],
 ag 25 (.load none (.t 24)) 23 false [],
 ag 26 (.len (.t 25)) 23 false [],
 ag 27 (.bin .gtr (.t 26) (.c (i64 6))) 23 false [],
 ao 28 (.pick (.t 23) (.c (.bool true)) (.t 27)),
 ao 29 (.mv (.t 28)),
 ag 30 (.faddr 6 (.t 1)) 29 false [],
 ag 31 (.load none (.t 30)) 29 false [],
 ag 32 (.len (.t 31)) 29 false [],
 ag 33 (.faddr 5 (.t 1)) 29 false [],
 ag 34 (.load none (.t 33)) 29 false [],
 ag 35 (.len (.t 34)) 29 false [],
 ag 36 (.bin .sub (.t 35) (.c (i64 1))) 29 false [],
 ag 37 (.mm true (.c (i64 0)) (.t 36)) 29 false [],
 ag 38 (.bin .neq (.t 32) (.t 37)) 29 false [],
 ao 39 (.pick (.t 29) (.c (.bool true)) (.t 38))] [1, 39]) (.cond (.t 39) (.seq (.region false [
 ao 2 (.mv (.c (i64 20)))] [2]) (.ret)) (.skip))) (.seq (.seq (.region false [
 ao 3 (.mv (.c (i64 0)))] [1, 3]) (.block 0 (b57l0))) (.seq (.seq (.region false [
 ao 4 (.mv (.c (i64 0)))] [1, 4]) (.block 2 (b57l1))) (.seq (.seq (.region false [
 ao 5 (.mv (.c (i64 0)))] [1, 5]) (.block 4 (b57l2))) (.seq (.region false [
 ao 2 (.mv (.c (i64 0)))] [2]) (.ret))))))
def a57 : AFn := ⟨1, [.t 2], b57, false⟩
def n57 : Ann := ⟨[[1], [1, 39], [2], [1, 3], [1, 3, 44], [1, 3, 53], [2], [1, 3], [1, 4], [1, 4, 58], [1, 4, 82], [2], [1, 4], [1, 5], [1, 5, 87], [1, 5, 6], [1, 5, 122], [2], [1, 5], [2]], [⟨[], [1, 3], [16, 96, 144, 224, 1072, 1280, 1552, 1632, 1728, 1824, 1920]⟩, ⟨[], [1, 4], [16, 96, 144, 224, 832, 1552, 1632, 1728, 1824, 1920]⟩, ⟨[], [1, 5], [16, 144, 224, 832, 1072, 1280]⟩], [], [], [], false, []⟩
/-- almadraba/almadrabaref05.Check -/
@[simp] def d58l0 : AC :=
 .seq (.seq (.region false [
 ao 24 (.mv (.t 5)),
 ao 25 (.faddr 2 (.t 1)),
 ao 26 (.load none (.t 25)),
 ao 27 (.len (.t 26)),
 ao 28 (.bin .lss (.t 24) (.t 27))] [1, 3, 4, 5, 28]) (.cond (.t 28) (.skip) (.exit 0))) (.seq (.block 1 (.seq (.seq (.region false [
 ao 31 (.faddr 2 (.t 1)),
 ao 32 (.load none (.t 31)),
 ao 33 (.mv (.t 5)),
 ao 34 (.idxs 2 (.t 32) (.t 33)),
 ao 35 (.load (some 2) (.t 34)),
 ao 36 (.call 105 [(.t 35), (.c (i64 12))]),
 ao 37 (.un .not (.t 36))] [1, 3, 4, 5, 37]) (.cond (.t 37) (.seq (.region false [
 ao 2 (.mv (.c (i64 50)))] [2]) (.ret)) (.skip))) (.region true (spl [
 ao 38 (.mv (.t 3)),
 ao 39 (.faddr 2 (.t 1)),
 ap 40 (.load none (.t 39)) [1],
 ao 41 (.mv (.t 5)),
 ap 42 (.idxs 2 (.t 40) (.t 41)) [2, 3, 1],
 ap 43 (.faddr 0 (.t 42)) [4, 2, 3, 1],
 ap 44 (.load none (.t 43)) [5, 4, 2, 3, 1],
 ap 45 (.bin .add (.t 38) (.t 44)) [0, 6, 5, 4, 2, 3, 1],
 ao 46 (.mv (.t 4)),
 ao 47 (.faddr 2 (.t 1)),
 ap 48 (.load none (.t 47)) [9],
 ao 49 (.mv (.t 5)),
 ap 50 (.idxs 2 (.t 48) (.t 49)) [10, 11, 9],
 ap 51 (.faddr 1 (.t 50)) [12, 10, 11, 9],
 ap 52 (.load none (.t 51)) [13, 12, 10, 11, 9],
 ap 53 (.bin .add (.t 46) (.t 52)) [8, 14, 13, 12, 10, 11, 9],
 ap 3 (.mv (.t 45)) [7, 0, 6, 5, 4, 2, 3, 1]] [
 ap 4 (.mv (.t 53)) [15, 16, 8, 14, 13, 12, 10, 11, 9, 7, 0, 6, 5, 4, 2, 3, 1]]) [1, 3, 4, 5]))) (.region false [
 ao 29 (.mv (.t 5)),
 ao 30 (.bin .add (.t 29) (.c (i64 1))),
 ao 5 (.mv (.t 30))] [1, 3, 4, 5]))
def b58l0 : AC := .loop [1, 3, 4, 5] [16, 112, 160, 1088, 1168] d58l0
/-- almadraba/almadrabaref05.Check -/
@[simp] def d58l1 : AC :=
 .seq (.seq (.region false [
 ao 54 (.mv (.t 6)),
 ao 55 (.faddr 3 (.t 1)),
 ao 56 (.load none (.t 55)),
 ao 57 (.len (.t 56)),
 ao 58 (.bin .lss (.t 54) (.t 57))] [1, 3, 4, 6, 58]) (.cond (.t 58) (.skip) (.exit 2))) (.seq (.block 3 (.seq (.region false [
 ao 61 (.faddr 3 (.t 1)),
 ao 62 (.load none (.t 61)),
 ao 63 (.mv (.t 6)),
 ao 64 (.idxs 2 (.t 62) (.t 63)),
 ao 65 (.load (some 2) (.t 64)),
 ao 7 (.alloc [(i64 0), (i64 0)]),
 ⟨none, .store 2 (.t 7) (.t 65), none, [], []⟩] [1, 3, 4, 6, 7]) (.seq (.region false [
 ao 66 (.faddr 0 (.t 7)),
 ao 67 (.load none (.t 66)),
 ao 68 (.call 106 [(.t 67), (.c (i64 0)), (.c (i64 999))]),
 ao 69 (.un .not (.t 68)),
 ao 70 (.mv (.t 69)),
 ag 71 (.faddr 1 (.t 7)) 70 false [],
 ag 72 (.load none (.t 71)) 70 false [],
 ag 73 (.call 106 [(.t 72), (.c (i64 0)), (.c (i64 99))]) 70 false [],
 ag 74 (.un .not (.t 73)) 70 false [],
 ao 75 (.pick (.t 70) (.c (.bool true)) (.t 74))] [1, 3, 4, 6, 75]) (.cond (.t 75) (.seq (.region false [
 ao 2 (.mv (.c (i64 50)))] [2]) (.ret)) (.skip))))) (.region false [
 ao 59 (.mv (.t 6)),
 ao 60 (.bin .add (.t 59) (.c (i64 1))),
 ao 6 (.mv (.t 60))] [1, 3, 4, 6]))
def b58l1 : AC := .loop [1, 3, 4, 6] [16, 160, 576] d58l1
/-- almadraba/almadrabaref05.Check -/
def b58 : AC :=
 .seq (.region false [
 ao 1 (.box (.t 0)),
 ao 2 (.mv (.c (i64 0)))] [1]) (.seq (.seq (.region false [
 ao 8 (.faddr 0 (.t 1)),
 ao 9 (.load (some 2) (.t 8)),
 ao 10 (.call 105 [(.t 9), (.c (i64 2000))]),
 ao 11 (.un .not (.t 10)),
 ao 12 (.mv (.t 11)),
 ag 13 (.faddr 2 (.t 1)) 12 false [],
 ag 14 (.load none (.t 13)) 12 false [],
 ag 15 (.len (.t 14)) 12 false [],
 ag 16 (.bin .gtr (.t 15) (.c (i64 4))) 12 false [],
 ao 17 (.pick (.t 12) (.c (.bool true)) (.t 16)),
 ao 18 (.mv (.t 17)),
 ag 19 (.faddr 3 (.t 1)) 18 false [],
 ag 20 (.load none (.t 19)) 18 false [],
 ag 21 (.len (.t 20)) 18 false [],
 ag 22 (.bin .gtr (.t 21) (.c (i64 6))) 18 false [],
 ao 23 (.pick (.t 18) (.c (.bool true)) (.t 22))] [1, 23]) (.cond (.t 23) (.seq (.region false [
 ao 2 (.mv (.c (i64 50)))] [2]) (.ret)) (.skip))) (.seq (.region false [
 ao 3 (.mv (.c (i64 0))),
 ao 4 (.mv (.c (i64 0)))] [1, 3, 4]) (.seq (.seq (.region false [
 ao 5 (.mv (.c (i64 0)))] [1, 3, 4, 5]) (.block 0 (b58l0))) (.seq (.seq (.region false [
 ao 6 (.mv (.c (i64 0)))] [1, 3, 4, 6]) (.block 2 (b58l1))) (.seq (.seq (.region false [
 ao 76 (.mv (.t 3)),
 ao 77 (.bin .gtr (.t 76) (.c (i64 12))),
 ao 78 (.mv (.t 77)),
 ag 79 (.mv (.t 4)) 78 false [],
 ag 80 (.bin .lss (.t 79) (.c (i64 12))) 78 false [],
 ao 81 (.pick (.t 78) (.c (.bool true)) (.t 80))] [81]) (.cond (.t 81) (.seq (.region false [
 ao 2 (.mv (.c (i64 50)))] [2]) (.ret)) (.skip))) (.seq (.region false [
 ao 2 (.mv (.c (i64 0)))] [2]) (.ret)))))))
def a58 : AFn := ⟨1, [.t 2], b58, false⟩
def n58 : Ann := ⟨[[1], [1, 23], [2], [1, 3, 4], [1, 3, 4, 5], [1, 3, 4, 5, 28], [1, 3, 4, 5, 37], [2], [1, 3, 4, 5], [1, 3, 4, 5], [1, 3, 4, 6], [1, 3, 4, 6, 58], [1, 3, 4, 6, 7], [1, 3, 4, 6, 75], [2], [1, 3, 4, 6], [81], [2], [2]], [⟨[], [1, 3, 4, 5], [16, 112, 160, 1088, 1168]⟩, ⟨[], [1, 3, 4, 6], [16, 160, 576]⟩], [], [], [], false, []⟩
/-- almadraba/almadrabaref13.within -/
def b59 : AC :=
 .seq (.region false [
 ao 6 (.mv (.c (.bool false)))] [0, 1, 2]) (.seq (.region false [
 ao 7 (.mv (.t 0)),
 ao 8 (.mv (.t 1)),
 ao 9 (.mv (.t 2)),
 ao 10 (.call 107 [(.t 7), (.t 8), (.t 9)]),
 ao 6 (.mv (.t 10))] [6]) (.ret))
def a59 : AFn := ⟨3, [.t 6], b59, false⟩
def n59 : Ann := ⟨[[0, 1, 2], [6]], [], [], [], [], false, [(6, 160)]⟩
/-- almadraba/almadrabaref13.areSkies -/
def b60 : AC :=
 .seq (.region false [
 ao 2 (.box (.t 0)),
 ao 4 (.mv (.c (.bool false)))] [1, 2]) (.seq (.region false [
 ao 5 (.mv (.t 1)),
 ao 6 (.len (.t 5)),
 ao 7 (.bin .gtr (.t 6) (.c (i64 0))),
 ao 8 (.mv (.t 7)),
 ag 9 (.mv (.t 1)) 8 true [],
 ag 10 (.faddr 11 (.t 2)) 8 true [],
 ag 11 (.load none (.t 10)) 8 true [],
 ag 12 (.len (.t 11)) 8 true [],
 ag 13 (.bin .sub (.t 12) (.c (i64 1))) 8 true [],
 ag 14 (.call 108 [(.t 9), (.c (i64 0)), (.t 13)]) 8 true [],
 ao 15 (.pick (.t 8) (.t 14) (.c (.bool false))),
 ao 4 (.mv (.t 15))] [4]) (.ret))
def a60 : AFn := ⟨2, [.t 4], b60, false⟩
def n60 : Ann := ⟨[[1, 2], [4]], [], [], [], [], false, []⟩
/-- almadraba/almadrabaref13.isSpan -/
def b61 : AC :=
 .seq (.region false [
 ao 2 (.box (.t 0)),
 ao 4 (.mv (.c (.bool false)))] [1, 2]) (.seq (.region false [
 ao 5 (.faddr 1 (.t 2)),
 ao 6 (.load none (.t 5)),
 ao 7 (.mv (.t 1)),
 ao 8 (.call 59 [(.t 6), (.c (i64 0)), (.t 7)]),
 ao 9 (.mv (.t 8)),
 ag 10 (.faddr 0 (.t 2)) 9 true [],
 ag 11 (.load none (.t 10)) 9 true [],
 ag 12 (.faddr 1 (.t 2)) 9 true [],
 ag 13 (.load none (.t 12)) 9 true [],
 ag 14 (.call 59 [(.t 11), (.c (i64 0)), (.t 13)]) 9 true [],
 ao 15 (.pick (.t 9) (.t 14) (.c (.bool false))),
 ao 4 (.mv (.t 15))] [4]) (.ret))
def a61 : AFn := ⟨2, [.t 4], b61, false⟩
def n61 : Ann := ⟨[[1, 2], [4]], [], [], [], [], false, [(9, 128)]⟩
/-- almadraba/skies.open -/
@[simp] def d62l0 : AC :=
 .seq (.region false [
 ao 30 (.bin .lss (.t 29) (.t 28))] [2, 7, 27, 28, 29, 30]) (.seq (.cond (.t 30) (.skip) (.exit 0)) (.seq (.block 1 (.seq (.region false [
 ao 31 (.mv (.t 29)),
 ao 32 (.idxs 4 (.t 27) (.t 29)),
 ao 33 (.load (some 4) (.t 32)),
 ao 9 (.alloc [(i64 0), (i64 0), (i64 0), (i64 0)]),
 ao 8 (.mv (.t 31)),
 ⟨none, .store 4 (.t 9) (.t 33), none, [], []⟩] [2, 7, 8, 9, 27, 28, 29]) (.seq (.region false [
 ao 34 (.faddr 0 (.t 2)),
 ao 35 (.load (some 7) (.t 34)),
 ao 10 (.alloc [(i64 0), (i64 0), (i64 0), (i64 0), (.sl .full 2 []), (.sl .full 2 []), (.sl .full 5 [])]),
 ⟨none, .store 7 (.t 10) (.t 35), none, [], []⟩] [2, 7, 8, 9, 10, 27, 28, 29]) (.seq (.region true (spl [
 ao 36 (.faddr 0 (.t 9)),
 ap 37 (.load (some 2) (.t 36)) [0],
 ⟨(some 38), .faddr 2 (.t 9), none, [], [160]⟩,
 ⟨(some 39), .load (some 2) (.t 38), none, [2], [160]⟩,
 ap 40 (.faddr 0 (.t 10)) [1, 0],
 ⟨none, .store 2 (.t 40) (.t 37), none, [4, 1, 0], []⟩] [
 ap 41 (.faddr 2 (.t 10)) [3, 5, 2, 4, 1, 0],
 ⟨none, .store 2 (.t 41) (.t 39), none, [6, 3, 5, 2, 4, 1, 0], []⟩]) [2, 7, 8, 10, 27, 28, 29]) (.region true (spl [
 ao 43 (.mv (.t 7)),
 ao 44 (.mv (.t 8)),
 ao 45 (.load (some 7) (.t 10)),
 ap 46 (.call 109 [(.t 45)]) [2],
 ap 42 (.mv (.t 46)) [3, 2],
 ap 47 (.ext (.t 42) 0) [4, 3, 2],
 ⟨(some 48), .ext (.t 42) 1, none, [4, 3, 2], [400]⟩,
 ap 49 (.nilck (.t 43)) [0],
 ap 50 (.faddr 15 (.t 49)) [7, 0],
 ap 51 (.idxa 4 1 (.t 50) (.t 44)) [8, 1, 5, 7, 0, 4, 3, 2],
 ⟨none, .store 1 (.t 51) (.t 47), none, [9, 8, 1, 5, 7, 0, 4, 3, 2], []⟩] [
 ]) [2, 7, 27, 28, 29]))))) (.region false [
 ao 52 (.bin .add (.t 29) (.c (i64 1))),
 ao 29 (.mv (.t 52))] [2, 7, 27, 28, 29])))
def b62l0 : AC := .loop [2, 7, 27, 28, 29] [32, 192, 208, 272, 400, 1072] d62l0
/-- almadraba/skies.open -/
@[simp] def d62l1 : AC :=
 .seq (.region false [
 ao 57 (.bin .lss (.t 56) (.t 55))] [2, 7, 54, 55, 56, 57]) (.seq (.cond (.t 57) (.skip) (.exit 2)) (.seq (.block 3 (.seq (.region false [
 ao 58 (.mv (.t 56)),
 ao 59 (.idxs 2 (.t 54) (.t 56)),
 ao 60 (.load (some 2) (.t 59)),
 ao 12 (.alloc [(i64 0), (i64 0)]),
 ao 11 (.mv (.t 58)),
 ⟨none, .store 2 (.t 12) (.t 60), none, [], []⟩] [2, 7, 11, 12, 54, 55, 56]) (.seq (.region false [
 ao 61 (.faddr 7 (.t 2)),
 ao 62 (.load (some 4) (.t 61)),
 ao 13 (.alloc [(i64 0), (i64 0), (.sl .full 2 []), (.sl .full 2 [])]),
 ⟨none, .store 4 (.t 13) (.t 62), none, [], []⟩] [2, 7, 11, 12, 13, 54, 55, 56]) (.seq (.region false [
 ao 63 (.load (some 2) (.t 12)),
 ao 64 (.faddr 0 (.t 13)),
 ⟨none, .store 2 (.t 64) (.t 63), none, [], []⟩] [2, 7, 11, 13, 54, 55, 56]) (.seq (.region false [
 ao 66 (.load (some 4) (.t 13)),
 ao 67 (.call 110 [(.t 66)]),
 ao 65 (.mv (.t 67)),
 ao 68 (.ext (.t 65) 0),
 ao 69 (.ext (.t 65) 1),
 ao 14 (.mv (.t 68)),
 ao 15 (.mv (.t 69))] [2, 7, 11, 15, 54, 55, 56]) (.seq (.region false [
 ao 70 (.mv (.t 15)),
 ao 71 (.bin .eql (.t 70) (.c (i64 0)))] [2, 7, 11, 54, 55, 56, 71]) (.cond (.t 71) (.region false [
 ao 72 (.mv (.t 7)),
 ao 73 (.mv (.t 11)),
 ao 74 (.nilck (.t 72)),
 ao 75 (.faddr 19 (.t 74)),
 ao 76 (.idxa 5 1 (.t 75) (.t 73)),
 ⟨none, .store 1 (.t 76) (.c (i64 1)), none, [], []⟩] [2, 7, 54, 55, 56]) (.skip)))))))) (.region false [
 ao 77 (.bin .add (.t 56) (.c (i64 1))),
 ao 56 (.mv (.t 77))] [2, 7, 54, 55, 56])))
def b62l1 : AC := .loop [2, 7, 54, 55, 56] [32, 144, 160, 272, 400, 736] d62l1
/-- almadraba/skies.open -/
def b62 : AC :=
 .seq (.region false [
 ao 2 (.box (.t 0)),
 ao 4 (.mv (.c .nilp)),
 ao 5 (.mv (.c (i64 0)))] [1, 2]) (.seq (.seq (.region false [
 ao 16 (.load (some 15) (.t 2)),
 ao 17 (.call 11 [(.t 16)]),
 ao 6 (.mv (.t 17))] [1, 2, 6]) (.seq (.region false [
 ao 18 (.mv (.t 6)),
 ao 19 (.bin .neq (.t 18) (.c (i64 0)))] [1, 2, 6, 19]) (.cond (.t 19) (.seq (.region false [
 ao 20 (.mv (.t 6)),
 ao 4 (.mv (.c .nilp)),
 ao 5 (.mv (.t 20))] [4, 5]) (.ret)) (.skip)))) (.seq (.seq (.region false [
 ao 21 (.mv (.t 1)),
 ao 22 (.un .not (.t 21))] [2, 22]) (.cond (.t 22) (.seq (.region false [
 ao 4 (.mv (.c .nilp)),
 ao 5 (.mv (.c (i64 1)))] [4, 5]) (.ret)) (.skip))) (.seq (.region false [
 ao 23 (.load (some 15) (.t 2)),
 ao 24 (.build [(i64 0), (i64 0), (i64 0), (i64 0), (.sl .full 2 []), (.sl .full 2 []), (.sl .full 5 []), (i64 0), (i64 0), (.sl .full 2 []), (.sl .full 2 []), (.sl .full 4 []), (.sl .full 1 []), (.sl .full 1 []), (.sl .full 2 []), (i64 0), (i64 0), (i64 0), (i64 0), (i64 0), (i64 0), (i64 0), (i64 0), (i64 0)] [(0, 15, (.t 23))]),
 ao 25 (.box (.t 24)),
 ao 7 (.mv (.t 25))] [2, 7]) (.seq (.seq (.region false [
 ao 26 (.faddr 11 (.t 2)),
 ao 27 (.load none (.t 26)),
 ao 28 (.len (.t 27)),
 ao 29 (.mv (.c (i64 0)))] [2, 7, 27, 28, 29]) (.block 0 (b62l0))) (.seq (.seq (.region false [
 ao 53 (.faddr 14 (.t 2)),
 ao 54 (.load none (.t 53)),
 ao 55 (.len (.t 54)),
 ao 56 (.mv (.c (i64 0)))] [2, 7, 54, 55, 56]) (.block 2 (b62l1))) (.seq (.region false [
 ao 78 (.mv (.t 7)),
 ao 4 (.mv (.t 78)),
 ao 5 (.mv (.c (i64 0)))] [4, 5]) (.ret)))))))
def a62 : AFn := ⟨2, [.t 4, .t 5], b62, false⟩
def n62 : Ann := ⟨[[1, 2], [1, 2, 6], [1, 2, 6, 19], [4, 5], [2, 22], [4, 5], [2, 7], [2, 7, 27, 28, 29], [2, 7, 27, 28, 29, 30], [2, 7, 8, 9, 27, 28, 29], [2, 7, 8, 9, 10, 27, 28, 29], [2, 7, 8, 10, 27, 28, 29], [2, 7, 27, 28, 29], [2, 7, 27, 28, 29], [2, 7, 54, 55, 56], [2, 7, 54, 55, 56, 57], [2, 7, 11, 12, 54, 55, 56], [2, 7, 11, 12, 13, 54, 55, 56], [2, 7, 11, 13, 54, 55, 56], [2, 7, 11, 15, 54, 55, 56], [2, 7, 11, 54, 55, 56, 71], [2, 7, 54, 55, 56], [2, 7, 54, 55, 56], [4, 5]], [⟨[], [2, 7, 27, 28, 29], [32, 192, 208, 272, 400, 1072]⟩, ⟨[], [2, 7, 54, 55, 56], [32, 144, 160, 272, 400, 736]⟩], [], [], [], false, [(4, 400), (78, 400), (72, 400), (70, 1072), (15, 1072), (14, 1072), (69, 1072), (68, 1072), (65, 1072), (48, 736), (47, 736), (42, 736), (43, 400), (7, 400), (5, 272), (20, 272), (18, 272), (6, 272)]⟩
/-- almadraba/skies.isSky -/
def b63 : AC :=
 .seq (.region false [
 ao 2 (.box (.t 0)),
 ao 4 (.mv (.c (.bool false)))] [1, 2]) (.seq (.region false [
 ao 5 (.mv (.t 1)),
 ao 6 (.faddr 11 (.t 2)),
 ao 7 (.load none (.t 6)),
 ao 8 (.len (.t 7)),
 ao 9 (.bin .sub (.t 8) (.c (i64 1))),
 ao 10 (.call 53 [(.t 5), (.c (i64 0)), (.t 9)]),
 ao 4 (.mv (.t 10))] [4]) (.ret))
def a63 : AFn := ⟨2, [.t 4], b63, false⟩
def n63 : Ann := ⟨[[1, 2], [4]], [], [], [], [], false, [(4, 160)]⟩
/-- almadraba/almadrabaref13.ask -/
def b64 : AC :=
 .seq (.region false [
 ao 2 (.box (.t 0)),
 ao 4 (.mv (.c (i64 0)))] [1, 2]) (.seq (.seq (.region false [
 ao 6 (.load (some 15) (.t 2)),
 ao 7 (.call 12 [(.t 6)]),
 ao 5 (.mv (.t 7))] [1, 5]) (.seq (.region false [
 ao 8 (.mv (.t 5)),
 ao 9 (.bin .neq (.t 8) (.c (i64 0)))] [1, 5, 9]) (.cond (.t 9) (.seq (.region false [
 ao 10 (.mv (.t 5)),
 ao 4 (.mv (.t 10))] [4]) (.ret)) (.skip)))) (.seq (.seq (.region false [
 ao 11 (.mv (.t 1)),
 ao 12 (.un .not (.t 11))] [12]) (.cond (.t 12) (.seq (.region false [
 ao 4 (.mv (.c (i64 1)))] [4]) (.ret)) (.skip))) (.seq (.region false [
 ao 4 (.mv (.c (i64 0)))] [4]) (.ret))))
def a64 : AFn := ⟨2, [.t 4], b64, false⟩
def n64 : Ann := ⟨[[1, 2], [1, 5], [1, 5, 9], [4], [12], [4], [4]], [], [], [], [], false, [(4, 112), (10, 112), (8, 112), (5, 112)]⟩
/-- almadraba/almadrabaref13.IsSky -/
def b65 : AC :=
 .seq (.region false [
 ao 2 (.box (.t 0)),
 ao 4 (.mv (.c (.bool false)))] [1, 2]) (.seq (.region false [
 ao 5 (.mv (.t 1)),
 ao 6 (.faddr 11 (.t 2)),
 ao 7 (.load none (.t 6)),
 ao 8 (.len (.t 7)),
 ao 9 (.bin .sub (.t 8) (.c (i64 1))),
 ao 10 (.call 59 [(.t 5), (.c (i64 0)), (.t 9)]),
 ao 4 (.mv (.t 10))] [4]) (.ret))
def a65 : AFn := ⟨2, [.t 4], b65, false⟩
def n65 : Ann := ⟨[[1, 2], [4]], [], [], [], [], false, [(4, 160)]⟩
/-- almadraba/almadrabaref02.Safe -/
def b66 : AC :=
 .seq (.region false [
 ao 1 (.box (.t 0)),
 ao 2 (.mv (.c (i64 0))),
 ao 3 (.mv (.c (i64 0)))] [1]) (.seq (.seq (.region false [
 ao 7 (.load (some 7) (.t 1)),
 ao 8 (.call 57 [(.t 7)]),
 ao 4 (.mv (.t 8))] [1, 4]) (.seq (.region false [
 ao 9 (.mv (.t 4)),
 ao 10 (.bin .neq (.t 9) (.c (i64 0)))] [1, 4, 10]) (.cond (.t 10) (.seq (.region false [
 ao 11 (.mv (.t 4)),
 ao 2 (.mv (.c (i64 0))),
 ao 3 (.mv (.t 11))] [2, 3]) (.ret)) (.skip)))) (.seq (.region false [
 ao 13 (.load (some 7) (.t 1)),
 ao 14 (.call 111 [(.t 13)]),
 ao 12 (.mv (.t 14)),
 ao 15 (.ext (.t 12) 0),
 ao 16 (.ext (.t 12) 1),
 ao 5 (.mv (.t 15)),
 ao 6 (.mv (.t 16))] [5, 6]) (.seq (.region false [
 ao 17 (.mv (.t 5)),
 ao 18 (.mv (.t 6)),
 ao 19 (.call 112 [(.t 17), (.t 18)]),
 ao 2 (.mv (.t 19)),
 ao 3 (.mv (.c (i64 0)))] [2, 3]) (.ret))))
def a66 : AFn := ⟨1, [.t 2, .t 3], b66, false⟩
def n66 : Ann := ⟨[[1], [1, 4], [1, 4, 10], [2, 3], [5, 6], [2, 3]], [], [], [], [], false, [(2, 304), (18, 224), (17, 224), (6, 224), (5, 224), (16, 224), (15, 224), (12, 224), (3, 128), (11, 128), (9, 128), (4, 128)]⟩
/-- almadraba/skies.isDay -/
def b67 : AC :=
 .seq (.region false [
 ao 2 (.box (.t 0)),
 ao 4 (.mv (.c (.bool false)))] [1, 2]) (.seq (.region false [
 ao 5 (.mv (.t 1)),
 ao 6 (.faddr 14 (.t 2)),
 ao 7 (.load none (.t 6)),
 ao 8 (.len (.t 7)),
 ao 9 (.bin .sub (.t 8) (.c (i64 1))),
 ao 10 (.call 53 [(.t 5), (.c (i64 0)), (.t 9)]),
 ao 4 (.mv (.t 10))] [4]) (.ret))
def a67 : AFn := ⟨2, [.t 4], b67, false⟩
def n67 : Ann := ⟨[[1, 2], [4]], [], [], [], [], false, [(4, 160)]⟩
/-- almadraba/almadrabaref13.IsDay -/
def b68 : AC :=
 .seq (.region false [
 ao 2 (.box (.t 0)),
 ao 4 (.mv (.c (.bool false)))] [1, 2]) (.seq (.region false [
 ao 5 (.mv (.t 1)),
 ao 6 (.faddr 14 (.t 2)),
 ao 7 (.load none (.t 6)),
 ao 8 (.len (.t 7)),
 ao 9 (.bin .sub (.t 8) (.c (i64 1))),
 ao 10 (.call 59 [(.t 5), (.c (i64 0)), (.t 9)]),
 ao 4 (.mv (.t 10))] [4]) (.ret))
def a68 : AFn := ⟨2, [.t 4], b68, false⟩
def n68 : Ann := ⟨[[1, 2], [4]], [], [], [], [], false, [(4, 160)]⟩
/-- almadraba/almadrabaref13.holdsOf -/
def b69 : AC :=
 .seq (.region false [
 ao 2 (.box (.t 0)),
 ao 4 (.mv (.c (.bool false)))] [1, 2]) (.seq (.region false [
 ao 8 (.load (some 15) (.t 2)),
 ao 9 (.mv (.t 1)),
 ao 10 (.call 114 [(.t 8), (.t 9)]),
 ao 11 (.call 113 [(.t 10)]),
 ao 7 (.mv (.t 11)),
 ao 12 (.ext (.t 7) 0),
 ao 13 (.ext (.t 7) 1),
 ao 5 (.mv (.t 12)),
 ao 6 (.mv (.t 13))] [6]) (.seq (.region false [
 ao 14 (.mv (.t 6)),
 ao 15 (.bin .eql (.t 14) (.c (i64 0))),
 ao 4 (.mv (.t 15))] [4]) (.ret)))
def a69 : AFn := ⟨2, [.t 4], b69, false⟩
def n69 : Ann := ⟨[[1, 2], [6], [4]], [], [], [], [], false, [(14, 176), (6, 176), (5, 176), (13, 176), (12, 176), (7, 176)]⟩
/-- (*almadraba/skies.season).may -/
def b70 : AC :=
 .seq (.region false [
 ao 6 (.mv (.c (.bool false)))] [0, 1, 2]) (.seq (.region false [
 ao 7 (.mv (.t 0)),
 ao 8 (.mv (.t 2)),
 ao 9 (.nilck (.t 7)),
 ao 10 (.faddr 15 (.t 9)),
 ao 11 (.idxa 4 1 (.t 10) (.t 8)),
 ao 12 (.load none (.t 11)),
 ao 13 (.bin .eql (.t 12) (.c (i64 1))),
 ao 14 (.mv (.t 13)),
 ag 15 (.mv (.t 0)) 14 true [],
 ag 16 (.mv (.t 1)) 14 true [],
 ag 17 (.nilck (.t 15)) 14 true [],
 ag 18 (.faddr 19 (.t 17)) 14 true [],
 ag 19 (.idxa 5 1 (.t 18) (.t 16)) 14 true [],
 ag 20 (.load none (.t 19)) 14 true [],
 ag 21 (.bin .eql (.t 20) (.c (i64 1))) 14 true [],
 ao 22 (.pick (.t 14) (.t 21) (.c (.bool false))),
 ao 6 (.mv (.t 22))] [6]) (.ret))
def a70 : AFn := ⟨3, [.t 6], b70, false⟩
def n70 : Ann := ⟨[[0, 1, 2], [6]], [], [], [], [], false, []⟩
/-- almadraba/almadrabaref13.Mays -/
@[simp] def d71l0 : AC :=
 .seq (.seq (.region false [
 ao 12 (.mv (.t 4)),
 ao 13 (.faddr 11 (.t 1)),
 ao 14 (.load none (.t 13)),
 ao 15 (.len (.t 14)),
 ao 16 (.bin .lss (.t 12) (.t 15))] [1, 3, 4, 16]) (.cond (.t 16) (.skip) (.exit 0))) (.seq (.block 1 (.seq (.region false [
 ao 20 (.load (some 15) (.t 1)),
 ao 21 (.mv (.t 4)),
 ao 22 (.call 47 [(.t 20), (.t 21)]),
 ao 23 (.call 66 [(.t 22)]),
 ao 19 (.mv (.t 23)),
 ao 24 (.ext (.t 19) 0),
 ao 25 (.ext (.t 19) 1),
 ao 5 (.mv (.t 24)),
 ao 6 (.mv (.t 25))] [1, 3, 4, 5]) (.region false [
 ao 26 (.mv (.t 3)),
 ao 27 (.mv (.t 5)),
 ao 28 (.bin .eql (.t 27) (.c (i64 1))),
 ao 29 (.lit [(.bool false)] 1 [(0, (.t 28))]),
 ao 30 (.app 1 1 (.t 26) (.t 29)),
 ao 3 (.mv (.t 30))] [1, 3, 4]))) (.region false [
 ao 17 (.mv (.t 4)),
 ao 18 (.bin .add (.t 17) (.c (i64 1))),
 ao 4 (.mv (.t 18))] [1, 3, 4]))
def b71l0 : AC := .loop [1, 3, 4] [16, 49, 640, 912, 976] d71l0
/-- almadraba/almadrabaref13.Mays -/
@[simp] def d71l2 : AC :=
 .seq (.seq (.region false [
 ao 41 (.mv (.t 11)),
 ao 42 (.faddr 11 (.t 1)),
 ao 43 (.load none (.t 42)),
 ao 44 (.len (.t 43)),
 ao 45 (.bin .lss (.t 41) (.t 44))] [1, 3, 7, 8, 9, 10, 11, 45]) (.cond (.t 45) (.skip) (.exit 4))) (.seq (.block 5 (.region false [
 ao 48 (.mv (.t 10)),
 ao 49 (.mv (.t 9)),
 ao 50 (.mv (.t 49)),
 ag 51 (.mv (.t 3)) 50 true [],
 ag 52 (.mv (.t 11)) 50 true [],
 ag 53 (.idxs 1 (.t 51) (.t 52)) 50 true [],
 ag 54 (.load none (.t 53)) 50 true [],
 ao 55 (.pick (.t 50) (.t 54) (.c (.bool false))),
 ao 56 (.lit [(.bool false)] 1 [(0, (.t 55))]),
 ao 57 (.app 1 1 (.t 48) (.t 56)),
 ao 10 (.mv (.t 57))] [1, 3, 7, 8, 9, 10, 11])) (.region false [
 ao 46 (.mv (.t 11)),
 ao 47 (.bin .add (.t 46) (.c (i64 1))),
 ao 11 (.mv (.t 47))] [1, 3, 7, 8, 9, 10, 11]))
def b71l2 : AC := .loop [1, 3, 7, 8, 9, 10, 11] [16, 113, 161, 352, 368, 480, 640, 976] d71l2
/-- almadraba/almadrabaref13.Mays -/
@[simp] def d71l1 : AC :=
 .seq (.seq (.region false [
 ao 31 (.mv (.t 8)),
 ao 32 (.faddr 14 (.t 1)),
 ao 33 (.load none (.t 32)),
 ao 34 (.len (.t 33)),
 ao 35 (.bin .lss (.t 31) (.t 34))] [1, 3, 7, 8, 35]) (.cond (.t 35) (.skip) (.exit 2))) (.seq (.block 3 (.seq (.region false [
 ao 38 (.load (some 15) (.t 1)),
 ao 39 (.mv (.t 8)),
 ao 40 (.call 69 [(.t 38), (.t 39)]),
 ao 9 (.mv (.t 40))] [1, 3, 7, 8, 9]) (.seq (.region false [
 ao 10 (.mv (.c (.sl .full 1 [])))] [1, 3, 7, 8, 9, 10]) (.seq (.seq (.region false [
 ao 11 (.mv (.c (i64 0)))] [1, 3, 7, 8, 9, 10, 11]) (.block 4 (.seq (.thaw 10 161 1) (b71l2)))) (.region false [
 ao 58 (.mv (.t 7)),
 ao 59 (.mv (.t 10)),
 ao 60 (.lit [(.sl .full 1 [])] 1 [(0, (.t 59))]),
 ao 61 (.app 1 24 (.t 58) (.t 60)),
 ao 7 (.mv (.t 61))] [1, 3, 7, 8]))))) (.region false [
 ao 36 (.mv (.t 8)),
 ao 37 (.bin .add (.t 36) (.c (i64 1))),
 ao 8 (.mv (.t 37))] [1, 3, 7, 8]))
def b71l1 : AC := .loop [1, 3, 7, 8] [16, 113, 352, 368, 480] d71l1
/-- almadraba/almadrabaref13.Mays -/
def b71 : AC :=
 .seq (.region false [
 ao 1 (.box (.t 0)),
 ao 2 (.mv (.c (.sl .full 1 [])))] [1]) (.seq (.region false [
 ao 3 (.mv (.c (.sl .full 1 [])))] [1, 3]) (.seq (.seq (.region false [
 ao 4 (.mv (.c (i64 0)))] [1, 3, 4]) (.block 0 (.seq (.thaw 3 49 1) (b71l0)))) (.seq (.region false [
 ao 7 (.mv (.c (.sl .full 1 [])))] [1, 3, 7]) (.seq (.seq (.region false [
 ao 8 (.mv (.c (i64 0)))] [1, 3, 7, 8]) (.block 2 (.seq (.thaw 7 113 1) (b71l1)))) (.seq (.region false [
 ao 62 (.mv (.t 7)),
 ao 2 (.mv (.t 62))] [2]) (.ret))))))
def a71 : AFn := ⟨1, [.t 2], b71, false⟩
def n71 : Ann := ⟨[[1], [1, 3], [1, 3, 4], [1, 3, 4, 16], [1, 3, 4, 5], [1, 3, 4], [1, 3, 4], [1, 3, 7], [1, 3, 7, 8], [1, 3, 7, 8, 35], [1, 3, 7, 8, 9], [1, 3, 7, 8, 9, 10], [1, 3, 7, 8, 9, 10, 11], [1, 3, 7, 8, 9, 10, 11, 45], [1, 3, 7, 8, 9, 10, 11], [1, 3, 7, 8, 9, 10, 11], [1, 3, 7, 8], [1, 3, 7, 8], [2]], [⟨[.t 3 49 1], [1, 3, 4], [16, 49, 640, 912, 976]⟩, ⟨[.t 7 113 1], [1, 3, 7, 8], [16, 113, 352, 368, 480]⟩, ⟨[.t 10 161 1], [1, 3, 7, 8, 9, 10, 11], [16, 113, 161, 352, 368, 480, 640, 976]⟩], [], [], [], false, [(50, 640), (49, 640), (9, 640), (27, 368), (6, 368), (5, 368), (25, 368), (24, 368), (19, 368)]⟩
/-- almadraba/almadrabalaw02.Same -/
@[simp] def d72l0 : AC :=
 .seq (.seq (.region false [
 ao 47 (.mv (.t 5)),
 ao 48 (.faddr 4 (.t 2)),
 ao 49 (.load none (.t 48)),
 ao 50 (.len (.t 49)),
 ao 51 (.bin .lss (.t 47) (.t 50))] [2, 3, 5, 51]) (.cond (.t 51) (.skip) (.exit 0))) (.seq (.block 1 (.seq (.region true (spl [
 ao 54 (.faddr 4 (.t 2)),
 ap 55 (.load none (.t 54)) [0],
 ao 56 (.mv (.t 5)),
 ap 57 (.idxs 2 (.t 55) (.t 56)) [1, 2, 0],
 ap 58 (.load (some 2) (.t 57)) [3, 1, 2, 0],
 ao 59 (.faddr 4 (.t 3)),
 ap 60 (.load none (.t 59)) [5],
 ao 61 (.mv (.t 5)),
 ap 62 (.idxs 2 (.t 60) (.t 61)) [6, 7, 5],
 ap 63 (.load (some 2) (.t 62)) [8, 6, 7, 5]] [
 ap 64 (.eqa [true, true] true (.t 58) (.t 63)) [4, 9, 3, 1, 2, 0, 8, 6, 7, 5]]) [2, 3, 5, 64]) (.cond (.t 64) (.seq (.region false [
 ao 4 (.mv (.c (.bool false)))] [4]) (.ret)) (.skip)))) (.region false [
 ao 52 (.mv (.t 5)),
 ao 53 (.bin .add (.t 52) (.c (i64 1))),
 ao 5 (.mv (.t 53))] [2, 3, 5]))
def b72l0 : AC := .loop [2, 3, 5] [32, 48] d72l0
/-- almadraba/almadrabalaw02.Same -/
@[simp] def d72l1 : AC :=
 .seq (.seq (.region false [
 ao 65 (.mv (.t 6)),
 ao 66 (.faddr 5 (.t 2)),
 ao 67 (.load none (.t 66)),
 ao 68 (.len (.t 67)),
 ao 69 (.bin .lss (.t 65) (.t 68))] [2, 3, 6, 69]) (.cond (.t 69) (.skip) (.exit 2))) (.seq (.block 3 (.seq (.region true (spl [
 ao 72 (.faddr 5 (.t 2)),
 ap 73 (.load none (.t 72)) [0],
 ao 74 (.mv (.t 6)),
 ap 75 (.idxs 2 (.t 73) (.t 74)) [1, 2, 0],
 ap 76 (.load (some 2) (.t 75)) [3, 1, 2, 0],
 ao 77 (.faddr 5 (.t 3)),
 ap 78 (.load none (.t 77)) [5],
 ao 79 (.mv (.t 6)),
 ap 80 (.idxs 2 (.t 78) (.t 79)) [6, 7, 5],
 ap 81 (.load (some 2) (.t 80)) [8, 6, 7, 5]] [
 ap 82 (.eqa [true, true] true (.t 76) (.t 81)) [4, 9, 3, 1, 2, 0, 8, 6, 7, 5]]) [2, 3, 6, 82]) (.cond (.t 82) (.seq (.region false [
 ao 4 (.mv (.c (.bool false)))] [4]) (.ret)) (.skip)))) (.region false [
 ao 70 (.mv (.t 6)),
 ao 71 (.bin .add (.t 70) (.c (i64 1))),
 ao 6 (.mv (.t 71))] [2, 3, 6]))
def b72l1 : AC := .loop [2, 3, 6] [32, 48] d72l1
/-- almadraba/almadrabalaw02.Same -/
@[simp] def d72l2 : AC :=
 .seq (.seq (.region false [
 ao 83 (.mv (.t 7)),
 ao 84 (.faddr 6 (.t 2)),
 ao 85 (.load none (.t 84)),
 ao 86 (.len (.t 85)),
 ao 87 (.bin .lss (.t 83) (.t 86))] [2, 3, 7, 87]) (.cond (.t 87) (.skip) (.exit 4))) (.seq (.block 5 (.seq (.region true (spl [
 ao 90 (.faddr 6 (.t 2)),
 ap 91 (.load none (.t 90)) [0],
 ao 92 (.mv (.t 7)),
 ap 93 (.idxs 5 (.t 91) (.t 92)) [1, 2, 0],
 ap 94 (.load (some 5) (.t 93)) [3, 1, 2, 0],
 ao 95 (.faddr 6 (.t 3)),
 ap 96 (.load none (.t 95)) [5],
 ao 97 (.mv (.t 7)),
 ap 98 (.idxs 5 (.t 96) (.t 97)) [6, 7, 5],
 ap 99 (.load (some 5) (.t 98)) [8, 6, 7, 5]] [
 ap 100 (.eqa [true, true, true, true, true] true (.t 94) (.t 99)) [4, 9, 3, 1, 2, 0, 8, 6, 7, 5]]) [2, 3, 7, 100]) (.cond (.t 100) (.seq (.region false [
 ao 4 (.mv (.c (.bool false)))] [4]) (.ret)) (.skip)))) (.region false [
 ao 88 (.mv (.t 7)),
 ao 89 (.bin .add (.t 88) (.c (i64 1))),
 ao 7 (.mv (.t 89))] [2, 3, 7]))
def b72l2 : AC := .loop [2, 3, 7] [32, 48] d72l2
/-- almadraba/almadrabalaw02.Same -/
def b72 : AC :=
 .seq (.region false [
 ao 2 (.box (.t 0)),
 ao 3 (.box (.t 1)),
 ao 4 (.mv (.c (.bool false)))] [2, 3]) (.seq (.seq (.region false [
 ao 8 (.faddr 0 (.t 2)),
 ao 9 (.load (some 2) (.t 8)),
 ao 10 (.faddr 0 (.t 3)),
 ao 11 (.load (some 2) (.t 10)),
 ao 12 (.eqa [true, true] true (.t 9) (.t 11)),
 ao 13 (.mv (.t 12)),
 ag 14 (.faddr 2 (.t 2)) 13 false [],
 ag 15 (.load (some 2) (.t 14)) 13 false [],
 ag 16 (.faddr 2 (.t 3)) 13 false [],
 ag 17 (.load (some 2) (.t 16)) 13 false [],
 ag 18 (.eqa [true, true] true (.t 15) (.t 17)) 13 false [],
 ao 19 (.pick (.t 13) (.c (.bool true)) (.t 18)),
 ao 20 (.mv (.t 19)),
 ag 21 (.faddr 4 (.t 2)) 20 false [],
 ag 22 (.load none (.t 21)) 20 false [],
 ag 23 (.len (.t 22)) 20 false [],
 ag 24 (.faddr 4 (.t 3)) 20 false [],
 ag 25 (.load none (.t 24)) 20 false [],
 ag 26 (.len (.t 25)) 20 false [],
 ag 27 (.bin .neq (.t 23) (.t 26)) 20 false [],
 ao 28 (.pick (.t 20) (.c (.bool true)) (.t 27)),
 ao 29 (.mv (.t 28)),
 ag 30 (.faddr 5 (.t 2)) 29 false [],
 ag 31 (.load none (.t 30)) 29 false [],
 ag 32 (.len (.t 31)) 29 false [],
 ag 33 (.faddr 5 (.t 3)) 29 false [],
 ag 34 (.load none (.t 33)) 29 false [],
 ag 35 (.len (.t 34)) 29 false [],
 ag 36 (.bin .neq (.t 32) (.t 35)) 29 false [],
 ao 37 (.pick (.t 29) (.c (.bool true)) (.t 36)),
 ao 38 (.mv (.t 37)),
 ag 39 (.faddr 6 (.t 2)) 38 false [],
 ag 40 (.load none (.t 39)) 38 false [],
 ag 41 (.len (.t 40)) 38 false [],
 ag 42 (.faddr 6 (.t 3)) 38 false [],
 ag 43 (.load none (.t 42)) 38 false [],
 ag 44 (.len (.t 43)) 38 false [],
 ag 45 (.bin .neq (.t 41) (.t 44)) 38 false [],
 ao 46 (.pick (.t 38) (.c (.bool true)) (.t 45))] [2, 3, 46]) (.cond (.t 46) (.seq (.region false [
 ao 4 (.mv (.c (.bool false)))] [4]) (.ret)) (.skip))) (.seq (.seq (.region false [
 ao 5 (.mv (.c (i64 0)))] [2, 3, 5]) (.block 0 (b72l0))) (.seq (.seq (.region false [
 ao 6 (.mv (.c (i64 0)))] [2, 3, 6]) (.block 2 (b72l1))) (.seq (.seq (.region false [
 ao 7 (.mv (.c (i64 0)))] [2, 3, 7]) (.block 4 (b72l2))) (.seq (.region false [
 ao 4 (.mv (.c (.bool true)))] [4]) (.ret))))))
def a72 : AFn := ⟨2, [.t 4], b72, false⟩
def n72 : Ann := ⟨[[2, 3], [2, 3, 46], [4], [2, 3, 5], [2, 3, 5, 51], [2, 3, 5, 64], [4], [2, 3, 5], [2, 3, 6], [2, 3, 6, 69], [2, 3, 6, 82], [4], [2, 3, 6], [2, 3, 7], [2, 3, 7, 87], [2, 3, 7, 100], [4], [2, 3, 7], [4]], [⟨[], [2, 3, 5], [32, 48]⟩, ⟨[], [2, 3, 6], [32, 48]⟩, ⟨[], [2, 3, 7], [32, 48]⟩], [], [], [], false, []⟩
/-- almadraba/almadrabalaw05.Same -/
@[simp] def d73l0 : AC :=
 .seq (.seq (.region false [
 ao 30 (.mv (.t 5)),
 ao 31 (.faddr 2 (.t 2)),
 ao 32 (.load none (.t 31)),
 ao 33 (.len (.t 32)),
 ao 34 (.bin .lss (.t 30) (.t 33))] [2, 3, 5, 34]) (.cond (.t 34) (.skip) (.exit 0))) (.seq (.block 1 (.seq (.region true (spl [
 ao 37 (.faddr 2 (.t 2)),
 ap 38 (.load none (.t 37)) [0],
 ao 39 (.mv (.t 5)),
 ap 40 (.idxs 2 (.t 38) (.t 39)) [1, 2, 0],
 ap 41 (.load (some 2) (.t 40)) [3, 1, 2, 0],
 ao 42 (.faddr 2 (.t 3)),
 ap 43 (.load none (.t 42)) [5],
 ao 44 (.mv (.t 5)),
 ap 45 (.idxs 2 (.t 43) (.t 44)) [6, 7, 5],
 ap 46 (.load (some 2) (.t 45)) [8, 6, 7, 5]] [
 ap 47 (.eqa [true, true] true (.t 41) (.t 46)) [4, 9, 3, 1, 2, 0, 8, 6, 7, 5]]) [2, 3, 5, 47]) (.cond (.t 47) (.seq (.region false [
 ao 4 (.mv (.c (.bool false)))] [4]) (.ret)) (.skip)))) (.region false [
 ao 35 (.mv (.t 5)),
 ao 36 (.bin .add (.t 35) (.c (i64 1))),
 ao 5 (.mv (.t 36))] [2, 3, 5]))
def b73l0 : AC := .loop [2, 3, 5] [32, 48] d73l0
/-- almadraba/almadrabalaw05.Same -/
@[simp] def d73l1 : AC :=
 .seq (.seq (.region false [
 ao 48 (.mv (.t 6)),
 ao 49 (.faddr 3 (.t 2)),
 ao 50 (.load none (.t 49)),
 ao 51 (.len (.t 50)),
 ao 52 (.bin .lss (.t 48) (.t 51))] [2, 3, 6, 52]) (.cond (.t 52) (.skip) (.exit 2))) (.seq (.block 3 (.seq (.region true (spl [
 ao 55 (.faddr 3 (.t 2)),
 ap 56 (.load none (.t 55)) [0],
 ao 57 (.mv (.t 6)),
 ap 58 (.idxs 2 (.t 56) (.t 57)) [1, 2, 0],
 ap 59 (.load (some 2) (.t 58)) [3, 1, 2, 0],
 ao 60 (.faddr 3 (.t 3)),
 ap 61 (.load none (.t 60)) [5],
 ao 62 (.mv (.t 6)),
 ap 63 (.idxs 2 (.t 61) (.t 62)) [6, 7, 5],
 ap 64 (.load (some 2) (.t 63)) [8, 6, 7, 5]] [
 ap 65 (.eqa [true, true] true (.t 59) (.t 64)) [4, 9, 3, 1, 2, 0, 8, 6, 7, 5]]) [2, 3, 6, 65]) (.cond (.t 65) (.seq (.region false [
 ao 4 (.mv (.c (.bool false)))] [4]) (.ret)) (.skip)))) (.region false [
 ao 53 (.mv (.t 6)),
 ao 54 (.bin .add (.t 53) (.c (i64 1))),
 ao 6 (.mv (.t 54))] [2, 3, 6]))
def b73l1 : AC := .loop [2, 3, 6] [32, 48] d73l1
/-- almadraba/almadrabalaw05.Same -/
def b73 : AC :=
 .seq (.region false [
 ao 2 (.box (.t 0)),
 ao 3 (.box (.t 1)),
 ao 4 (.mv (.c (.bool false)))] [2, 3]) (.seq (.seq (.region false [
 ao 7 (.faddr 0 (.t 2)),
 ao 8 (.load (some 2) (.t 7)),
 ao 9 (.faddr 0 (.t 3)),
 ao 10 (.load (some 2) (.t 9)),
 ao 11 (.eqa [true, true] true (.t 8) (.t 10)),
 ao 12 (.mv (.t 11)),
 ag 13 (.faddr 2 (.t 2)) 12 false [],
 ag 14 (.load none (.t 13)) 12 false [],
 ag 15 (.len (.t 14)) 12 false [],
 ag 16 (.faddr 2 (.t 3)) 12 false [],
 ag 17 (.load none (.t 16)) 12 false [],
 ag 18 (.len (.t 17)) 12 false [],
 ag 19 (.bin .neq (.t 15) (.t 18)) 12 false [],
 ao 20 (.pick (.t 12) (.c (.bool true)) (.t 19)),
 ao 21 (.mv (.t 20)),
 ag 22 (.faddr 3 (.t 2)) 21 false [],
 ag 23 (.load none (.t 22)) 21 false [],
 ag 24 (.len (.t 23)) 21 false [],
 ag 25 (.faddr 3 (.t 3)) 21 false [],
 ag 26 (.load none (.t 25)) 21 false [],
 ag 27 (.len (.t 26)) 21 false [],
 ag 28 (.bin .neq (.t 24) (.t 27)) 21 false [],
 ao 29 (.pick (.t 21) (.c (.bool true)) (.t 28))] [2, 3, 29]) (.cond (.t 29) (.seq (.region false [
 ao 4 (.mv (.c (.bool false)))] [4]) (.ret)) (.skip))) (.seq (.seq (.region false [
 ao 5 (.mv (.c (i64 0)))] [2, 3, 5]) (.block 0 (b73l0))) (.seq (.seq (.region false [
 ao 6 (.mv (.c (i64 0)))] [2, 3, 6]) (.block 2 (b73l1))) (.seq (.region false [
 ao 4 (.mv (.c (.bool true)))] [4]) (.ret)))))
def a73 : AFn := ⟨2, [.t 4], b73, false⟩
def n73 : Ann := ⟨[[2, 3], [2, 3, 29], [4], [2, 3, 5], [2, 3, 5, 34], [2, 3, 5, 47], [4], [2, 3, 5], [2, 3, 6], [2, 3, 6, 52], [2, 3, 6, 65], [4], [2, 3, 6], [4]], [⟨[], [2, 3, 5], [32, 48]⟩, ⟨[], [2, 3, 6], [32, 48]⟩], [], [], [], false, []⟩
/-- (*almadraba/skies.season).brings -/
@[simp] def d75l0 : AC :=
 .seq (.region false [
 ao 10 (.bin .lss (.t 9) (.t 8))] [0, 7, 8, 9, 10]) (.seq (.cond (.t 10) (.skip) (.exit 0)) (.seq (.block 1 (.seq (.region false [
 ao 11 (.mv (.t 9)),
 ao 12 (.idxs 1 (.t 7) (.t 9)),
 ao 13 (.load none (.t 12)),
 ao 5 (.mv (.t 11)),
 ao 6 (.mv (.t 13))] [0, 5, 6, 7, 8, 9]) (.seq (.region false [
 ao 14 (.mv (.t 0)),
 ao 15 (.mv (.t 5)),
 ao 16 (.mv (.t 6)),
 ao 17 (.call 89 [(.t 14), (.t 15), (.t 16)])] [0, 5, 7, 8, 9, 17]) (.cond (.t 17) (.seq (.region false [
 ao 18 (.mv (.t 0)),
 ao 19 (.nilck (.t 18)),
 ao 20 (.faddr 0 (.t 19)),
 ao 21 (.faddr 14 (.t 20)),
 ao 22 (.load none (.t 21)),
 ao 23 (.mv (.t 5)),
 ao 24 (.idxs 2 (.t 22) (.t 23)),
 ao 25 (.faddr 0 (.t 24)),
 ao 26 (.load none (.t 25)),
 ao 4 (.mv (.t 26))] [4]) (.ret)) (.skip))))) (.region false [
 ao 27 (.bin .add (.t 9) (.c (i64 1))),
 ao 9 (.mv (.t 27))] [0, 7, 8, 9])))
def b75l0 : AC := .loop [0, 7, 8, 9] [] d75l0
/-- (*almadraba/skies.season).brings -/
def b75 : AC :=
 .seq (.region false [
 ao 4 (.mv (.c (i64 0)))] [0, 1]) (.seq (.seq (.region false [
 ao 7 (.mv (.t 1)),
 ao 8 (.len (.t 7)),
 ao 9 (.mv (.c (i64 0)))] [0, 7, 8, 9]) (.block 0 (b75l0))) (.seq (.region false [
 ao 4 (.mv (.c (i64 0)))] [4]) (.ret)))
def a75 : AFn := ⟨2, [.t 4], b75, false⟩
def n75 : Ann := ⟨[[0, 1], [0, 7, 8, 9], [0, 7, 8, 9, 10], [0, 5, 6, 7, 8, 9], [0, 5, 7, 8, 9, 17], [4], [0, 7, 8, 9], [4]], [⟨[], [0, 7, 8, 9], []⟩], [], [], [], false, []⟩
/-- (*almadraba/skies.season).courses -/
def b77 : AC :=
 .seq (.region false [
 ao 2 (.box (.t 0)),
 ao 3 (.box (.t 1))] [2, 3]) (.seq (.region false [
 ao 4 (.alloc [.nilf])] [2, 3, 4]) (.seq (.region false [
 ao 5 (.mkfn 116 [] [(.t 2), (.t 3), (.t 4)]),
 ⟨none, .store 1 (.t 4) (.t 5), none, [], []⟩] [2, 4]) (.region true (spl [
 ao 6 (.load none (.t 4)),
 ao 7 (.load none (.t 2)),
 ap 8 (.nilck (.t 7)) [1],
 ap 9 (.faddr 0 (.t 8)) [2, 1],
 ap 10 (.faddr 13 (.t 9)) [3, 2, 1],
 ap 11 (.load none (.t 10)) [4, 3, 2, 1]] [
 ap 12 (.callv (.t 6) [(.c (.sl .full 1 [])), (.t 11)]) [0, 5, 4, 3, 2, 1]]) [])))
def a77 : AFn := ⟨2, [], b77, false⟩
def n77 : Ann := ⟨[[2, 3], [2, 3, 4], [2, 4], []], [], [], [], [], false, []⟩
/-- (*almadraba/skies.season).worth -/
def b86 : AC :=
 .seq (.region false [
 ao 6 (.mv (.c (i64 0)))] [0, 1, 2]) (.seq (.seq (.region false [
 ao 8 (.mv (.t 1)),
 ao 9 (.mv (.t 0)),
 ao 10 (.nilck (.t 9)),
 ao 11 (.faddr 0 (.t 10)),
 ao 12 (.faddr 14 (.t 11)),
 ao 13 (.load none (.t 12)),
 ao 14 (.len (.t 13)),
 ao 15 (.bin .eql (.t 8) (.t 14))] [0, 1, 2, 15]) (.cond (.t 15) (.seq (.region false [
 ao 6 (.mv (.c (i64 0)))] [6]) (.ret)) (.skip))) (.seq (.region false [
 ao 16 (.mv (.t 0)),
 ao 17 (.mv (.t 1)),
 ao 18 (.bin .add (.t 17) (.c (i64 1))),
 ao 19 (.mv (.t 0)),
 ao 20 (.nilck (.t 19)),
 ao 21 (.faddr 0 (.t 20)),
 ao 22 (.faddr 12 (.t 21)),
 ao 23 (.load none (.t 22)),
 ao 24 (.mv (.t 2)),
 ao 25 (.idxs 1 (.t 23) (.t 24)),
 ao 26 (.load none (.t 25)),
 ao 27 (.call 88 [(.t 16), (.t 18), (.t 26)]),
 ao 7 (.mv (.t 27))] [0, 1, 2, 7]) (.seq (.seq (.region false [
 ao 28 (.mv (.t 0)),
 ao 29 (.mv (.t 1)),
 ao 30 (.mv (.t 2)),
 ao 31 (.call 70 [(.t 28), (.t 29), (.t 30)])] [0, 1, 7, 31]) (.cond (.t 31) (.region false [
 ao 32 (.mv (.t 7)),
 ao 33 (.mv (.t 0)),
 ao 34 (.nilck (.t 33)),
 ao 35 (.faddr 0 (.t 34)),
 ao 36 (.faddr 14 (.t 35)),
 ao 37 (.load none (.t 36)),
 ao 38 (.mv (.t 1)),
 ao 39 (.idxs 2 (.t 37) (.t 38)),
 ao 40 (.faddr 0 (.t 39)),
 ao 41 (.load none (.t 40)),
 ao 42 (.mm true (.t 32) (.t 41)),
 ao 7 (.mv (.t 42))] [7]) (.skip))) (.seq (.region false [
 ao 43 (.mv (.t 7)),
 ao 6 (.mv (.t 43))] [6]) (.ret)))))
def a86 : AFn := ⟨3, [.t 6], b86, false⟩
def n86 : Ann := ⟨[[0, 1, 2], [0, 1, 2, 15], [6], [0, 1, 2, 7], [0, 1, 7, 31], [7], [6]], [], [], [], [], false, [(6, 432), (43, 432), (32, 432), (7, 432)]⟩
/-- (*almadraba/skies.season).least -/
@[simp] def d88l0 : AC :=
 .seq (.region false [
 ao 13 (.bin .lss (.t 12) (.t 11))] [0, 1, 7, 10, 11, 12, 13]) (.seq (.cond (.t 13) (.skip) (.exit 0)) (.seq (.block 1 (.seq (.region false [
 ao 14 (.idxs 1 (.t 10) (.t 12)),
 ao 15 (.load none (.t 14)),
 ao 9 (.mv (.t 15))] [0, 1, 7, 9, 10, 11, 12]) (.region false [
 ao 16 (.mv (.t 7)),
 ao 17 (.mv (.t 0)),
 ao 18 (.mv (.t 1)),
 ao 19 (.mv (.t 9)),
 ao 20 (.call 86 [(.t 17), (.t 18), (.t 19)]),
 ao 21 (.mm false (.t 16) (.t 20)),
 ao 7 (.mv (.t 21))] [0, 1, 7, 10, 11, 12]))) (.region false [
 ao 22 (.bin .add (.t 12) (.c (i64 1))),
 ao 12 (.mv (.t 22))] [0, 1, 7, 10, 11, 12])))
def b88l0 : AC := .loop [0, 1, 7, 10, 11, 12] [] d88l0
/-- (*almadraba/skies.season).least -/
def b88 : AC :=
 .seq (.region false [
 ao 6 (.mv (.c (i64 0)))] [0, 1, 2]) (.seq (.region false [
 ao 7 (.mv (.c (i64 2000)))] [0, 1, 2, 7]) (.seq (.seq (.region false [
 ao 10 (.mv (.t 2)),
 ao 11 (.len (.t 10)),
 ao 12 (.mv (.c (i64 0)))] [0, 1, 7, 10, 11, 12]) (.block 0 (b88l0))) (.seq (.region false [
 ao 23 (.mv (.t 7)),
 ao 6 (.mv (.t 23))] [6]) (.ret))))
def a88 : AFn := ⟨3, [.t 6], b88, false⟩
def n88 : Ann := ⟨[[0, 1, 2], [0, 1, 2, 7], [0, 1, 7, 10, 11, 12], [0, 1, 7, 10, 11, 12, 13], [0, 1, 7, 9, 10, 11, 12], [0, 1, 7, 10, 11, 12], [0, 1, 7, 10, 11, 12], [6]], [⟨[], [0, 1, 7, 10, 11, 12], []⟩], [], [], [], false, []⟩
/-- (*almadraba/skies.season).lift -/
def b89 : AC :=
 .seq (.region false [
 ao 6 (.mv (.c (.bool false)))] [0, 1, 2]) (.seq (.region true (spl [
 ao 7 (.mv (.t 0)),
 ao 8 (.mv (.t 1)),
 ao 9 (.mv (.t 2)),
 ap 10 (.call 70 [(.t 7), (.t 8), (.t 9)]) [0, 1, 2],
 ap 11 (.mv (.t 10)) [3, 0, 1, 2],
 ag 12 (.mv (.t 0)) 11 true [4, 3, 0, 1, 2],
 ag 13 (.nilck (.t 12)) 11 true [5, 4, 3, 0, 1, 2],
 ag 14 (.faddr 0 (.t 13)) 11 true [6, 5, 4, 3, 0, 1, 2],
 ag 15 (.faddr 14 (.t 14)) 11 true [7, 6, 5, 4, 3, 0, 1, 2],
 ag 16 (.load none (.t 15)) 11 true [8, 7, 6, 5, 4, 3, 0, 1, 2],
 ag 17 (.mv (.t 1)) 11 true [4, 3, 0, 1, 2],
 ag 18 (.idxs 2 (.t 16) (.t 17)) 11 true [9, 10, 8, 7, 6, 5, 4, 3, 0, 1, 2],
 ag 19 (.faddr 0 (.t 18)) 11 true [11, 9, 10, 8, 7, 6, 5, 4, 3, 0, 1, 2],
 ag 20 (.load none (.t 19)) 11 true [12, 11, 9, 10, 8, 7, 6, 5, 4, 3, 0, 1, 2],
 ag 21 (.mv (.t 0)) 11 true [4, 3, 0, 1, 2],
 ag 22 (.mv (.t 1)) 11 true [4, 3, 0, 1, 2],
 ag 23 (.mv (.t 2)) 11 true [4, 3, 0, 1, 2],
 ag 24 (.call 86 [(.t 21), (.t 22), (.t 23)]) 11 true [14, 15, 16, 4, 3, 0, 1, 2]] [
 ag 25 (.bin .geq (.t 20) (.t 24)) 11 true [13, 17, 12, 11, 9, 10, 8, 7, 6, 5, 14, 15, 16, 4, 3, 0, 1, 2],
 ap 26 (.pick (.t 11) (.t 25) (.c (.bool false))) [18, 13, 17, 12, 11, 9, 10, 8, 7, 6, 5, 14, 15, 16, 4, 3, 0, 1, 2],
 ap 6 (.mv (.t 26)) [19, 18, 13, 17, 12, 11, 9, 10, 8, 7, 6, 5, 14, 15, 16, 4, 3, 0, 1, 2]]) [6]) (.ret))
def a89 : AFn := ⟨3, [.t 6], b89, false⟩
def n89 : Ann := ⟨[[0, 1, 2], [6]], [], [], [], [], false, [(11, 160)]⟩
/-- almadraba/almadrabalaw02.Huge -/
def b91 : AC :=
 .seq (.region false [
 ao 2 (.box (.t 0)),
 ao 3 (.box (.t 1)),
 ao 4 (.mv (.c (.bool false)))] [2, 3]) (.seq (.region false [
 ao 5 (.faddr 4 (.t 2)),
 ao 6 (.load none (.t 5)),
 ao 7 (.len (.t 6)),
 ao 8 (.bin .gtr (.t 7) (.c (i64 40))),
 ao 9 (.mv (.t 8)),
 ag 10 (.faddr 5 (.t 2)) 9 false [],
 ag 11 (.load none (.t 10)) 9 false [],
 ag 12 (.len (.t 11)) 9 false [],
 ag 13 (.bin .gtr (.t 12) (.c (i64 40))) 9 false [],
 ao 14 (.pick (.t 9) (.c (.bool true)) (.t 13)),
 ao 15 (.mv (.t 14)),
 ag 16 (.faddr 6 (.t 2)) 15 false [],
 ag 17 (.load none (.t 16)) 15 false [],
 ag 18 (.len (.t 17)) 15 false [],
 ag 19 (.bin .gtr (.t 18) (.c (i64 40))) 15 false [],
 ao 20 (.pick (.t 15) (.c (.bool true)) (.t 19)),
 ao 21 (.mv (.t 20)),
 ag 22 (.faddr 2 (.t 3)) 21 false [],
 ag 23 (.load none (.t 22)) 21 false [],
 ag 24 (.len (.t 23)) 21 false [],
 ag 25 (.bin .gtr (.t 24) (.c (i64 40))) 21 false [],
 ao 26 (.pick (.t 21) (.c (.bool true)) (.t 25)),
 ao 4 (.mv (.t 26))] [4]) (.ret))
def a91 : AFn := ⟨2, [.t 4], b91, false⟩
def n91 : Ann := ⟨[[2, 3], [4]], [], [], [], [], false, []⟩
/-- almadraba/almadrabalaw05.Far -/
def b92 : AC :=
 .seq (.region false [
 ao 1 (.box (.t 0)),
 ao 2 (.mv (.c (.bool false)))] [1]) (.seq (.region false [
 ao 3 (.faddr 2 (.t 1)),
 ao 4 (.load none (.t 3)),
 ao 5 (.len (.t 4)),
 ao 6 (.bin .gtr (.t 5) (.c (i64 40))),
 ao 7 (.mv (.t 6)),
 ag 8 (.faddr 3 (.t 1)) 7 false [],
 ag 9 (.load none (.t 8)) 7 false [],
 ag 10 (.len (.t 9)) 7 false [],
 ag 11 (.bin .gtr (.t 10) (.c (i64 40))) 7 false [],
 ao 12 (.pick (.t 7) (.c (.bool true)) (.t 11)),
 ao 2 (.mv (.t 12))] [2]) (.ret))
def a92 : AFn := ⟨1, [.t 2], b92, false⟩
def n92 : Ann := ⟨[[1], [2]], [], [], [], [], false, []⟩
/-- almadraba/almadrabalaw05.Example -/
def b93 : AC :=
 .seq (.region false [
 ao 0 (.alloc [(i64 0), (i64 0), (.sl .full 2 []), (.sl .full 2 [])]),
 ao 1 (.alloc [(i64 0), (i64 0), (.sl .full 2 []), (.sl .full 2 [])])] [0, 1]) (.seq (.region false [
 ao 2 (.build [(i64 0), (i64 0)] [(0, 1, (.c (i64 100))), (1, 1, (.c (i64 120)))]),
 ao 3 (.build [(i64 0), (i64 0)] [(0, 1, (.c (i64 2))), (1, 1, (.c (i64 6)))]),
 ao 4 (.build [(i64 0), (i64 0)] [(0, 1, (.c (i64 3))), (1, 1, (.c (i64 5)))]),
 ao 5 (.build [(i64 0), (i64 0)] [(0, 1, (.c (i64 4))), (1, 1, (.c (i64 6)))]),
 ao 6 (.lit [(i64 0), (i64 0)] 3 [(0, (.t 3)), (1, (.t 4)), (2, (.t 5))]),
 ao 7 (.build [(i64 0), (i64 0)] [(0, 1, (.c (i64 50))), (1, 1, (.c (i64 4)))]),
 ao 8 (.build [(i64 0), (i64 0)] [(0, 1, (.c (i64 60))), (1, 1, (.c (i64 7)))]),
 ao 9 (.build [(i64 0), (i64 0)] [(0, 1, (.c (i64 45))), (1, 1, (.c (i64 2)))]),
 ao 10 (.build [(i64 0), (i64 0)] [(0, 1, (.c (i64 70))), (1, 1, (.c (i64 9)))]),
 ao 11 (.lit [(i64 0), (i64 0)] 4 [(0, (.t 7)), (1, (.t 8)), (2, (.t 9)), (3, (.t 10))]),
 ao 12 (.build [(i64 0), (i64 0), (.sl .full 2 []), (.sl .full 2 [])] [(0, 2, (.t 2)), (2, 1, (.t 6)), (3, 1, (.t 11))]),
 ⟨none, .store 4 (.t 0) (.t 12), none, [], []⟩] [0, 1]) (.seq (.region false [
 ao 13 (.load (some 4) (.t 0)),
 ao 14 (.call 51 [(.t 13)]),
 ⟨none, .store 4 (.t 1) (.t 14), none, [], []⟩] [0, 1]) (.seq (.seq (.freeze [224, 1224, 2224, 3224, 4224, 5224, 6224, 7224, 8224]) (.region true (spl [
 ao 15 (.faddr 3 (.t 0)),
 ap 16 (.load none (.t 15)) [0],
 ap 17 (.idxs 2 (.t 16) (.c (i64 0))) [1, 0],
 ap 18 (.load (some 2) (.t 17)) [2, 1, 0],
 ao 19 (.faddr 3 (.t 0)),
 ap 20 (.load none (.t 19)) [4],
 ap 21 (.idxs 2 (.t 20) (.c (i64 2))) [5, 4],
 ap 22 (.load (some 2) (.t 21)) [6, 5, 4]] [
 ap 23 (.lit [(i64 0), (i64 0)] 2 [(0, (.t 18)), (1, (.t 22))]) [3, 7, 2, 1, 0, 6, 5, 4],
 ap 24 (.faddr 3 (.t 1)) [8, 3, 7, 2, 1, 0, 6, 5, 4],
 ⟨none, .store 1 (.t 24) (.t 23), none, [9, 8, 3, 7, 2, 1, 0, 6, 5, 4], []⟩]) [0, 1])) (.seq (.region true (spl [
 ao 25 (.load (some 4) (.t 0)),
 ⟨(some 26), .load (some 4) (.t 1), none, [], [0]⟩,
 ⟨none, .store 4 (.t 0) (.t 25), none, [0], []⟩] [
 ⟨none, .store 4 (.t 1) (.t 26), none, [1, 2, 0], []⟩]) [0, 1]) (.ret)))))
def a93 : AFn := ⟨0, [.cell 0 (some 4), .cell 1 (some 4)], b93, false⟩
def n93 : Ann := ⟨[[0, 1], [0, 1], [0, 1], [0, 1], [0, 1]], [], [], [[], [], [], [224, 1224, 2224, 3224, 4224, 5224, 6224, 7224, 8224], []], [], false, []⟩
/-- almadraba/anchors.isSpan -/
def b94 : AC :=
 .seq (.region false [
 ao 2 (.box (.t 0)),
 ao 4 (.mv (.c (.bool false)))] [1, 2]) (.seq (.region false [
 ao 5 (.mv (.t 1)),
 ao 6 (.faddr 0 (.t 2)),
 ao 7 (.load none (.t 6)),
 ao 8 (.faddr 1 (.t 2)),
 ao 9 (.load none (.t 8)),
 ao 10 (.lit [(i64 0)] 2 [(0, (.t 7)), (1, (.t 9))]),
 ao 11 (.call 99 [(.t 5), (.t 10)]),
 ao 12 (.mv (.t 11)),
 ag 13 (.faddr 0 (.t 2)) 12 true [],
 ag 14 (.load none (.t 13)) 12 true [],
 ag 15 (.faddr 1 (.t 2)) 12 true [],
 ag 16 (.load none (.t 15)) 12 true [],
 ag 17 (.bin .leq (.t 14) (.t 16)) 12 true [],
 ao 18 (.pick (.t 12) (.t 17) (.c (.bool false))),
 ao 4 (.mv (.t 18))] [4]) (.ret))
def a94 : AFn := ⟨2, [.t 4], b94, false⟩
def n94 : Ann := ⟨[[1, 2], [4]], [], [], [], [], false, [(12, 176)]⟩
/-- almadraba/anchors.every[almadraba/api.Span] -/
@[simp] def d95l0 : AC :=
 .seq (.region false [
 ao 10 (.bin .lss (.t 9) (.t 8))] [1, 7, 8, 9, 10]) (.seq (.cond (.t 10) (.skip) (.exit 0)) (.seq (.block 1 (.seq (.region false [
 ao 11 (.idxs 2 (.t 7) (.t 9)),
 ao 12 (.load (some 2) (.t 11)),
 ao 6 (.alloc [(i64 0), (i64 0)]),
 ⟨none, .store 2 (.t 6) (.t 12), none, [], []⟩] [1, 6, 7, 8, 9]) (.seq (.region false [
 ao 13 (.mv (.t 1)),
 ao 14 (.load (some 2) (.t 6)),
 ao 15 (.callv (.t 13) [(.t 14)]),
 ao 16 (.un .not (.t 15))] [1, 7, 8, 9, 16]) (.cond (.t 16) (.seq (.region false [
 ao 4 (.mv (.c (.bool false)))] [4]) (.ret)) (.skip))))) (.region false [
 ao 17 (.bin .add (.t 9) (.c (i64 1))),
 ao 9 (.mv (.t 17))] [1, 7, 8, 9])))
def b95l0 : AC := .loop [1, 7, 8, 9] [] d95l0
/-- almadraba/anchors.every[almadraba/api.Span] -/
def b95 : AC :=
 .seq (.region false [
 ao 4 (.mv (.c (.bool false)))] [0, 1]) (.seq (.seq (.region false [
 ao 7 (.mv (.t 0)),
 ao 8 (.len (.t 7)),
 ao 9 (.mv (.c (i64 0)))] [1, 7, 8, 9]) (.block 0 (b95l0))) (.seq (.region false [
 ao 4 (.mv (.c (.bool true)))] [4]) (.ret)))
def a95 : AFn := ⟨2, [.t 4], b95, false⟩
def n95 : Ann := ⟨[[0, 1], [1, 7, 8, 9], [1, 7, 8, 9, 10], [1, 6, 7, 8, 9], [1, 7, 8, 9, 16], [4], [1, 7, 8, 9], [4]], [⟨[], [1, 7, 8, 9], []⟩], [], [], [], false, []⟩
/-- almadraba/anchors.Check$1 -/
def b96 : AC :=
 .seq (.region false [
 ao 1 (.box (.t 0)),
 ao 2 (.mv (.c (.bool false)))] [1]) (.seq (.region false [
 ao 3 (.load (some 2) (.t 1)),
 ao 4 (.call 94 [(.t 3), (.c (i64 9))]),
 ao 2 (.mv (.t 4))] [2]) (.ret))
def a96 : AFn := ⟨1, [.t 2], b96, false⟩
def n96 : Ann := ⟨[[1], [2]], [], [], [], [], false, [(2, 64)]⟩
/-- almadraba/anchors.every[almadraba/api.Anchor] -/
@[simp] def d97l0 : AC :=
 .seq (.region false [
 ao 10 (.bin .lss (.t 9) (.t 8))] [1, 7, 8, 9, 10]) (.seq (.cond (.t 10) (.skip) (.exit 0)) (.seq (.block 1 (.seq (.region false [
 ao 11 (.idxs 2 (.t 7) (.t 9)),
 ao 12 (.load (some 2) (.t 11)),
 ao 6 (.alloc [(i64 0), (i64 0)]),
 ⟨none, .store 2 (.t 6) (.t 12), none, [], []⟩] [1, 6, 7, 8, 9]) (.seq (.region false [
 ao 13 (.mv (.t 1)),
 ao 14 (.load (some 2) (.t 6)),
 ao 15 (.callv (.t 13) [(.t 14)]),
 ao 16 (.un .not (.t 15))] [1, 7, 8, 9, 16]) (.cond (.t 16) (.seq (.region false [
 ao 4 (.mv (.c (.bool false)))] [4]) (.ret)) (.skip))))) (.region false [
 ao 17 (.bin .add (.t 9) (.c (i64 1))),
 ao 9 (.mv (.t 17))] [1, 7, 8, 9])))
def b97l0 : AC := .loop [1, 7, 8, 9] [] d97l0
/-- almadraba/anchors.every[almadraba/api.Anchor] -/
def b97 : AC :=
 .seq (.region false [
 ao 4 (.mv (.c (.bool false)))] [0, 1]) (.seq (.seq (.region false [
 ao 7 (.mv (.t 0)),
 ao 8 (.len (.t 7)),
 ao 9 (.mv (.c (i64 0)))] [1, 7, 8, 9]) (.block 0 (b97l0))) (.seq (.region false [
 ao 4 (.mv (.c (.bool true)))] [4]) (.ret)))
def a97 : AFn := ⟨2, [.t 4], b97, false⟩
def n97 : Ann := ⟨[[0, 1], [1, 7, 8, 9], [1, 7, 8, 9, 10], [1, 6, 7, 8, 9], [1, 7, 8, 9, 16], [4], [1, 7, 8, 9], [4]], [⟨[], [1, 7, 8, 9], []⟩], [], [], [], false, []⟩
/-- almadraba/anchors.Check$2 -/
def b98 : AC :=
 .seq (.region false [
 ao 2 (.box (.t 0)),
 ao 3 (.mv (.c (.bool false)))] [1, 2]) (.seq (.region false [
 ao 4 (.faddr 0 (.t 2)),
 ao 5 (.load none (.t 4)),
 ao 6 (.lit [(i64 0)] 1 [(0, (.t 5))]),
 ao 7 (.call 99 [(.c (i64 20)), (.t 6)]),
 ao 8 (.mv (.t 7)),
 ag 9 (.faddr 4 (.t 1)) 8 true [],
 ag 10 (.load none (.t 9)) 8 true [],
 ag 11 (.len (.t 10)) 8 true [],
 ag 12 (.bin .sub (.t 11) (.c (i64 1))) 8 true [],
 ag 13 (.faddr 1 (.t 2)) 8 true [],
 ag 14 (.load none (.t 13)) 8 true [],
 ag 15 (.lit [(i64 0)] 1 [(0, (.t 14))]) 8 true [],
 ag 16 (.call 99 [(.t 12), (.t 15)]) 8 true [],
 ao 17 (.pick (.t 8) (.t 16) (.c (.bool false))),
 ao 3 (.mv (.t 17))] [3]) (.ret))
def a98 : AFn := ⟨2, [.t 3], b98, false⟩
def n98 : Ann := ⟨[[1, 2], [3]], [], [], [], [], false, [(8, 112)]⟩
/-- almadraba/anchors.inside -/
def b99 : AC :=
 .seq (.region false [
 ao 2 (.box (.t 0)),
 ao 4 (.mv (.c (.bool false)))] [1, 2]) (.seq (.region false [
 ao 5 (.mv (.t 1)),
 ao 6 (.mkfn 122 [] [(.t 2)]),
 ao 7 (.call 121 [(.t 5), (.t 6)]),
 ao 8 (.un .not (.t 7)),
 ao 4 (.mv (.t 8))] [4]) (.ret))
def a99 : AFn := ⟨2, [.t 4], b99, false⟩
def n99 : Ann := ⟨[[1, 2], [4]], [], [], [], [], false, []⟩
/-- almadraba/anchors.every[almadraba/api.AnchorWall] -/
@[simp] def d100l0 : AC :=
 .seq (.region false [
 ao 10 (.bin .lss (.t 9) (.t 8))] [1, 7, 8, 9, 10]) (.seq (.cond (.t 10) (.skip) (.exit 0)) (.seq (.block 1 (.seq (.region false [
 ao 11 (.idxs 5 (.t 7) (.t 9)),
 ao 12 (.load (some 5) (.t 11)),
 ao 6 (.alloc [(i64 0), (i64 0), (i64 0), (i64 0), (i64 0)]),
 ⟨none, .store 5 (.t 6) (.t 12), none, [], []⟩] [1, 6, 7, 8, 9]) (.seq (.region false [
 ao 13 (.mv (.t 1)),
 ao 14 (.load (some 5) (.t 6)),
 ao 15 (.callv (.t 13) [(.t 14)]),
 ao 16 (.un .not (.t 15))] [1, 7, 8, 9, 16]) (.cond (.t 16) (.seq (.region false [
 ao 4 (.mv (.c (.bool false)))] [4]) (.ret)) (.skip))))) (.region false [
 ao 17 (.bin .add (.t 9) (.c (i64 1))),
 ao 9 (.mv (.t 17))] [1, 7, 8, 9])))
def b100l0 : AC := .loop [1, 7, 8, 9] [] d100l0
/-- almadraba/anchors.every[almadraba/api.AnchorWall] -/
def b100 : AC :=
 .seq (.region false [
 ao 4 (.mv (.c (.bool false)))] [0, 1]) (.seq (.seq (.region false [
 ao 7 (.mv (.t 0)),
 ao 8 (.len (.t 7)),
 ao 9 (.mv (.c (i64 0)))] [1, 7, 8, 9]) (.block 0 (b100l0))) (.seq (.region false [
 ao 4 (.mv (.c (.bool true)))] [4]) (.ret)))
def a100 : AFn := ⟨2, [.t 4], b100, false⟩
def n100 : Ann := ⟨[[0, 1], [1, 7, 8, 9], [1, 7, 8, 9, 10], [1, 6, 7, 8, 9], [1, 7, 8, 9, 16], [4], [1, 7, 8, 9], [4]], [⟨[], [1, 7, 8, 9], []⟩], [], [], [], false, []⟩
/-- almadraba/anchors.Check$3 -/
def b101 : AC :=
 .seq (.region false [
 ao 1 (.box (.t 0)),
 ao 2 (.mv (.c (.bool false)))] [1]) (.seq (.region false [
 ao 3 (.faddr 0 (.t 1)),
 ao 4 (.load none (.t 3)),
 ao 5 (.faddr 1 (.t 1)),
 ao 6 (.load none (.t 5)),
 ao 7 (.faddr 2 (.t 1)),
 ao 8 (.load none (.t 7)),
 ao 9 (.lit [(i64 0)] 3 [(0, (.t 4)), (1, (.t 6)), (2, (.t 8))]),
 ao 10 (.call 99 [(.c (i64 9)), (.t 9)]),
 ao 11 (.mv (.t 10)),
 ag 12 (.faddr 3 (.t 1)) 11 true [],
 ag 13 (.load none (.t 12)) 11 true [],
 ag 14 (.faddr 4 (.t 1)) 11 true [],
 ag 15 (.load none (.t 14)) 11 true [],
 ag 16 (.lit [(i64 0)] 2 [(0, (.t 13)), (1, (.t 15))]) 11 true [],
 ag 17 (.call 99 [(.c (i64 99)), (.t 16)]) 11 true [],
 ao 18 (.pick (.t 11) (.t 17) (.c (.bool false))),
 ao 2 (.mv (.t 18))] [2]) (.ret))
def a101 : AFn := ⟨1, [.t 2], b101, false⟩
def n101 : Ann := ⟨[[1], [2]], [], [], [], [], false, [(11, 160)]⟩
/-- almadraba/lifts.within -/
def b102 : AC :=
 .seq (.region false [
 ao 6 (.mv (.c (.bool false)))] [0, 1, 2]) (.seq (.region false [
 ao 7 (.mv (.t 0)),
 ao 8 (.mv (.t 1)),
 ao 9 (.bin .geq (.t 7) (.t 8)),
 ao 10 (.mv (.t 9)),
 ag 11 (.mv (.t 0)) 10 true [],
 ag 12 (.mv (.t 2)) 10 true [],
 ag 13 (.bin .leq (.t 11) (.t 12)) 10 true [],
 ao 14 (.pick (.t 10) (.t 13) (.c (.bool false))),
 ao 6 (.mv (.t 14))] [6]) (.ret))
def a102 : AFn := ⟨3, [.t 6], b102, false⟩
def n102 : Ann := ⟨[[0, 1, 2], [6]], [], [], [], [], false, []⟩
/-- almadraba/almadrabaref02.isSpan -/
def b103 : AC :=
 .seq (.region false [
 ao 2 (.box (.t 0)),
 ao 4 (.mv (.c (.bool false)))] [1, 2]) (.seq (.region false [
 ao 5 (.faddr 1 (.t 2)),
 ao 6 (.load none (.t 5)),
 ao 7 (.mv (.t 1)),
 ao 8 (.call 104 [(.t 6), (.c (i64 0)), (.t 7)]),
 ao 9 (.mv (.t 8)),
 ag 10 (.faddr 0 (.t 2)) 9 true [],
 ag 11 (.load none (.t 10)) 9 true [],
 ag 12 (.faddr 1 (.t 2)) 9 true [],
 ag 13 (.load none (.t 12)) 9 true [],
 ag 14 (.call 104 [(.t 11), (.c (i64 0)), (.t 13)]) 9 true [],
 ao 15 (.pick (.t 9) (.t 14) (.c (.bool false))),
 ao 4 (.mv (.t 15))] [4]) (.ret))
def a103 : AFn := ⟨2, [.t 4], b103, false⟩
def n103 : Ann := ⟨[[1, 2], [4]], [], [], [], [], false, [(9, 128)]⟩
/-- almadraba/almadrabaref02.within -/
def b104 : AC :=
 .seq (.region false [
 ao 6 (.mv (.c (.bool false)))] [0, 1, 2]) (.seq (.region false [
 ao 7 (.mv (.t 0)),
 ao 8 (.mv (.t 1)),
 ao 9 (.mv (.t 2)),
 ao 10 (.call 107 [(.t 7), (.t 8), (.t 9)]),
 ao 6 (.mv (.t 10))] [6]) (.ret))
def a104 : AFn := ⟨3, [.t 6], b104, false⟩
def n104 : Ann := ⟨[[0, 1, 2], [6]], [], [], [], [], false, [(6, 160)]⟩
/-- almadraba/almadrabaref05.isSpan -/
def b105 : AC :=
 .seq (.region false [
 ao 2 (.box (.t 0)),
 ao 4 (.mv (.c (.bool false)))] [1, 2]) (.seq (.region false [
 ao 5 (.faddr 1 (.t 2)),
 ao 6 (.load none (.t 5)),
 ao 7 (.mv (.t 1)),
 ao 8 (.call 106 [(.t 6), (.c (i64 0)), (.t 7)]),
 ao 9 (.mv (.t 8)),
 ag 10 (.faddr 0 (.t 2)) 9 true [],
 ag 11 (.load none (.t 10)) 9 true [],
 ag 12 (.faddr 1 (.t 2)) 9 true [],
 ag 13 (.load none (.t 12)) 9 true [],
 ag 14 (.call 106 [(.t 11), (.c (i64 0)), (.t 13)]) 9 true [],
 ao 15 (.pick (.t 9) (.t 14) (.c (.bool false))),
 ao 4 (.mv (.t 15))] [4]) (.ret))
def a105 : AFn := ⟨2, [.t 4], b105, false⟩
def n105 : Ann := ⟨[[1, 2], [4]], [], [], [], [], false, [(9, 128)]⟩
/-- almadraba/almadrabaref05.within -/
def b106 : AC :=
 .seq (.region false [
 ao 6 (.mv (.c (.bool false)))] [0, 1, 2]) (.seq (.region false [
 ao 7 (.mv (.t 0)),
 ao 8 (.mv (.t 1)),
 ao 9 (.mv (.t 2)),
 ao 10 (.call 107 [(.t 7), (.t 8), (.t 9)]),
 ao 6 (.mv (.t 10))] [6]) (.ret))
def a106 : AFn := ⟨3, [.t 6], b106, false⟩
def n106 : Ann := ⟨[[0, 1, 2], [6]], [], [], [], [], false, [(6, 160)]⟩
/-- almadraba/almadrabaref01.Within -/
def b107 : AC :=
 .seq (.region false [
 ao 6 (.mv (.c (.bool false)))] [0, 1, 2]) (.seq (.region false [
 ao 7 (.mv (.t 1)),
 ao 8 (.mv (.t 0)),
 ao 9 (.bin .leq (.t 7) (.t 8)),
 ao 10 (.mv (.t 9)),
 ag 11 (.mv (.t 0)) 10 true [],
 ag 12 (.mv (.t 2)) 10 true [],
 ag 13 (.bin .leq (.t 11) (.t 12)) 10 true [],
 ao 14 (.pick (.t 10) (.t 13) (.c (.bool false))),
 ao 6 (.mv (.t 14))] [6]) (.ret))
def a107 : AFn := ⟨3, [.t 6], b107, false⟩
def n107 : Ann := ⟨[[0, 1, 2], [6]], [], [], [], [], false, []⟩
/-- almadraba/almadrabaref01.Rising -/
@[simp] def d108l0 : AC :=
 .seq (.seq (.region false [
 ao 8 (.mv (.t 7)),
 ao 9 (.mv (.t 0)),
 ao 10 (.len (.t 9)),
 ao 11 (.bin .lss (.t 8) (.t 10))] [0, 1, 2, 7, 11]) (.cond (.t 11) (.skip) (.exit 0))) (.seq (.block 1 (.seq (.region true (spl [
 ao 14 (.mv (.t 0)),
 ao 15 (.mv (.t 7)),
 ap 16 (.idxs 1 (.t 14) (.t 15)) [0, 1],
 ap 17 (.load none (.t 16)) [2, 0, 1],
 ao 18 (.mv (.t 1)),
 ao 19 (.mv (.t 2)),
 ap 20 (.call 107 [(.t 17), (.t 18), (.t 19)]) [3, 4, 5, 2, 0, 1],
 ap 21 (.un .not (.t 20)) [6, 3, 4, 5, 2, 0, 1],
 ap 22 (.mv (.t 21)) [7, 6, 3, 4, 5, 2, 0, 1],
 ag 23 (.mv (.t 7)) 22 false [8, 7, 6, 3, 4, 5, 2, 0, 1],
 ag 24 (.bin .gtr (.t 23) (.c (i64 0))) 22 false [9, 8, 7, 6, 3, 4, 5, 2, 0, 1],
 ag 25 (.mv (.t 24)) 22 false [10, 9, 8, 7, 6, 3, 4, 5, 2, 0, 1],
 ag 26 (.mv (.t 0)) 25 true [11, 10, 9, 8, 7, 6, 3, 4, 5, 2, 0, 1],
 ag 27 (.mv (.t 7)) 25 true [11, 10, 9, 8, 7, 6, 3, 4, 5, 2, 0, 1],
 ag 28 (.idxs 1 (.t 26) (.t 27)) 25 true [12, 13, 11, 10, 9, 8, 7, 6, 3, 4, 5, 2, 0, 1],
 ag 29 (.load none (.t 28)) 25 true [14, 12, 13, 11, 10, 9, 8, 7, 6, 3, 4, 5, 2, 0, 1],
 ag 30 (.mv (.t 0)) 25 true [11, 10, 9, 8, 7, 6, 3, 4, 5, 2, 0, 1],
 ag 31 (.mv (.t 7)) 25 true [11, 10, 9, 8, 7, 6, 3, 4, 5, 2, 0, 1],
 ag 32 (.bin .sub (.t 31) (.c (i64 1))) 25 true [17, 11, 10, 9, 8, 7, 6, 3, 4, 5, 2, 0, 1],
 ag 33 (.idxs 1 (.t 30) (.t 32)) 25 true [16, 18, 17, 11, 10, 9, 8, 7, 6, 3, 4, 5, 2, 0, 1],
 ag 34 (.load none (.t 33)) 25 true [19, 16, 18, 17, 11, 10, 9, 8, 7, 6, 3, 4, 5, 2, 0, 1]] [
 ag 35 (.bin .leq (.t 29) (.t 34)) 25 true [15, 20, 14, 12, 13, 19, 16, 18, 17, 11, 10, 9, 8, 7, 6, 3, 4, 5, 2, 0, 1],
 ag 36 (.pick (.t 25) (.t 35) (.c (.bool false))) 22 false [21, 15, 20, 14, 12, 13, 19, 16, 18, 17, 11, 10, 9, 8, 7, 6, 3, 4, 5, 2, 0, 1],
 ap 37 (.pick (.t 22) (.c (.bool true)) (.t 36)) [22, 21, 15, 20, 14, 12, 13, 19, 16, 18, 17, 11, 10, 9, 8, 7, 6, 3, 4, 5, 2, 0, 1]]) [0, 1, 2, 7, 37]) (.cond (.t 37) (.seq (.region false [
 ao 6 (.mv (.c (.bool false)))] [6]) (.ret)) (.skip)))) (.region false [
 ao 12 (.mv (.t 7)),
 ao 13 (.bin .add (.t 12) (.c (i64 1))),
 ao 7 (.mv (.t 13))] [0, 1, 2, 7]))
def b108l0 : AC := .loop [0, 1, 2, 7] [] d108l0
/-- almadraba/almadrabaref01.Rising -/
def b108 : AC :=
 .seq (.region false [
 ao 6 (.mv (.c (.bool false)))] [0, 1, 2]) (.seq (.seq (.region false [
 ao 7 (.mv (.c (i64 0)))] [0, 1, 2, 7]) (.block 0 (b108l0))) (.seq (.region false [
 ao 6 (.mv (.c (.bool true)))] [6]) (.ret)))
def a108 : AFn := ⟨3, [.t 6], b108, false⟩
def n108 : Ann := ⟨[[0, 1, 2], [0, 1, 2, 7], [0, 1, 2, 7, 11], [0, 1, 2, 7, 37], [6], [0, 1, 2, 7], [6]], [⟨[], [0, 1, 2, 7], []⟩], [], [], [], false, []⟩
/-- almadraba/anchors.Safe -/
def b109 : AC :=
 .seq (.region false [
 ao 1 (.box (.t 0)),
 ao 2 (.mv (.c (i64 0))),
 ao 3 (.mv (.c (i64 0)))] [1]) (.seq (.seq (.region false [
 ao 5 (.load (some 7) (.t 1)),
 ao 6 (.call 54 [(.t 5)]),
 ao 4 (.mv (.t 6))] [1, 4]) (.seq (.region false [
 ao 7 (.mv (.t 4)),
 ao 8 (.bin .neq (.t 7) (.c (i64 0)))] [1, 4, 8]) (.cond (.t 8) (.seq (.region false [
 ao 9 (.mv (.t 4)),
 ao 2 (.mv (.c (i64 0))),
 ao 3 (.mv (.t 9))] [2, 3]) (.ret)) (.skip)))) (.seq (.region true (spl [
 ao 10 (.load (some 7) (.t 1)),
 ap 11 (.call 124 [(.t 10)]) [0],
 ap 12 (.call 125 [(.t 11), (.c (.int .u64 0))]) [1, 0],
 ap 13 (.bin .eql (.t 12) (.c (.int .u64 0))) [2, 1, 0],
 ao 14 (.load (some 7) (.t 1)),
 ap 15 (.call 126 [(.t 14)]) [4, 2, 1, 0],
 ap 16 (.call 125 [(.t 15), (.c (.int .u64 0))]) [5, 4, 2, 1, 0],
 ap 17 (.bin .eql (.t 16) (.c (.int .u64 0))) [6, 5, 4, 2, 1, 0]] [
 ap 18 (.call 123 [(.t 13), (.t 17)]) [3, 7, 6, 5, 4, 2, 1, 0],
 ap 2 (.mv (.t 18)) [8, 3, 7, 6, 5, 4, 2, 1, 0],
 ap 3 (.mv (.c (i64 0))) [9, 8, 3, 7, 6, 5, 4, 2, 1, 0]]) [2, 3]) (.ret)))
def a109 : AFn := ⟨1, [.t 2, .t 3], b109, false⟩
def n109 : Ann := ⟨[[1], [1, 4], [1, 4, 8], [2, 3], [2, 3]], [], [], [], [], false, [(2, 288), (3, 96), (9, 96), (7, 96), (4, 96)]⟩
/-- almadraba/lifts.Cheap -/
def b110 : AC :=
 .seq (.region false [
 ao 1 (.box (.t 0)),
 ao 2 (.mv (.c (i64 0))),
 ao 3 (.mv (.c (i64 0)))] [1]) (.seq (.region false [
 ao 9 (.load (some 4) (.t 1)),
 ao 10 (.call 127 [(.t 9), (.c (.bool true))]),
 ao 8 (.mv (.t 10)),
 ao 11 (.ext (.t 8) 0),
 ao 12 (.ext (.t 8) 1),
 ao 4 (.mv (.t 11)),
 ao 5 (.mv (.t 12))] [4, 5]) (.seq (.seq (.region false [
 ao 13 (.mv (.t 5)),
 ao 14 (.bin .neq (.t 13) (.c (i64 0)))] [4, 5, 14]) (.cond (.t 14) (.seq (.region false [
 ao 15 (.mv (.t 5)),
 ao 2 (.mv (.c (i64 0))),
 ao 3 (.mv (.t 15))] [2, 3]) (.ret)) (.skip))) (.seq (.region false [
 ao 17 (.mv (.t 4)),
 ao 18 (.call 128 [(.t 17)]),
 ao 16 (.mv (.t 18)),
 ao 19 (.ext (.t 16) 0),
 ao 20 (.ext (.t 16) 1),
 ao 6 (.mv (.t 19)),
 ao 7 (.mv (.t 20))] [7]) (.seq (.seq (.region false [
 ao 21 (.mv (.t 7)),
 ao 22 (.bin .lss (.t 21) (.c (i64 0)))] [7, 22]) (.cond (.t 22) (.seq (.region false [
 ao 2 (.mv (.c (i64 0))),
 ao 3 (.mv (.c (i64 3)))] [2, 3]) (.ret)) (.skip))) (.seq (.region false [
 ao 23 (.mv (.t 7)),
 ao 2 (.mv (.t 23)),
 ao 3 (.mv (.c (i64 0)))] [2, 3]) (.ret))))))
def a110 : AFn := ⟨1, [.t 2, .t 3], b110, false⟩
def n110 : Ann := ⟨[[1], [4, 5], [4, 5, 14], [2, 3], [7], [7, 22], [2, 3], [2, 3]], [], [], [], [], false, [(2, 288), (23, 288), (21, 288), (7, 288), (6, 288), (20, 288), (19, 288), (16, 288), (17, 160), (3, 160), (15, 160), (13, 160), (5, 160), (4, 160), (12, 160), (11, 160), (8, 160)]⟩
/-- almadraba/almadrabaref02.quiet -/
@[simp] def d111l0 : AC :=
 .seq (.seq (.region false [
 ao 8 (.mv (.t 5)),
 ao 9 (.mv (.t 4)),
 ao 10 (.len (.t 9)),
 ao 11 (.bin .lss (.t 8) (.t 10))] [1, 2, 4, 5, 11]) (.cond (.t 11) (.skip) (.exit 0))) (.seq (.block 1 (.seq (.region true (spl [
 ao 14 (.load (some 7) (.t 1)),
 ao 15 (.mv (.t 4)),
 ao 16 (.mv (.t 5)),
 ap 17 (.idxs 3 (.t 15) (.t 16)) [1, 2],
 ap 18 (.load (some 3) (.t 17)) [3, 1, 2]] [
 ap 19 (.call 130 [(.t 14), (.t 18), (.c (.sl .full 1 []))]) [0, 4, 3, 1, 2],
 ap 20 (.len (.t 19)) [5, 0, 4, 3, 1, 2],
 ap 21 (.bin .eql (.t 20) (.c (i64 0))) [6, 5, 0, 4, 3, 1, 2]]) [1, 2, 4, 5, 21]) (.cond (.t 21) (.region false [
 ao 22 (.mv (.t 2)),
 ao 23 (.bin .add (.t 22) (.c (i64 1))),
 ao 2 (.mv (.t 23))] [1, 2, 4, 5]) (.skip)))) (.region false [
 ao 12 (.mv (.t 5)),
 ao 13 (.bin .add (.t 12) (.c (i64 1))),
 ao 5 (.mv (.t 13))] [1, 2, 4, 5]))
def b111l0 : AC := .loop [1, 2, 4, 5] [16, 112] d111l0
/-- almadraba/almadrabaref02.quiet -/
def b111 : AC :=
 .seq (.region false [
 ao 1 (.box (.t 0)),
 ao 2 (.mv (.c (i64 0))),
 ao 3 (.mv (.c (i64 0)))] [1, 2]) (.seq (.region false [
 ao 6 (.load (some 7) (.t 1)),
 ao 7 (.call 129 [(.t 6)]),
 ao 4 (.mv (.t 7))] [1, 2, 4]) (.seq (.seq (.region false [
 ao 5 (.mv (.c (i64 0)))] [1, 2, 4, 5]) (.block 0 (b111l0))) (.seq (.region false [
 ao 24 (.mv (.t 2)),
 ao 25 (.mv (.t 4)),
 ao 26 (.len (.t 25)),
 ao 2 (.mv (.t 24)),
 ao 3 (.mv (.t 26))] [2, 3]) (.ret))))
def a111 : AFn := ⟨1, [.t 2, .t 3], b111, false⟩
def n111 : Ann := ⟨[[1, 2], [1, 2, 4], [1, 2, 4, 5], [1, 2, 4, 5, 11], [1, 2, 4, 5, 21], [1, 2, 4, 5], [1, 2, 4, 5], [2, 3]], [⟨[], [1, 2, 4, 5], [16, 112]⟩], [], [], [], false, [(25, 112), (15, 112), (9, 112), (4, 112)]⟩
/-- almadraba/almadrabaref01.Known -/
def b112 : AC :=
 .seq (.region false [
 ao 4 (.mv (.c (i64 0)))] [0, 1]) (.seq (.seq (.region false [
 ao 5 (.mv (.t 0))] [1, 5]) (.block 0 (.seq (.region false [
 ao 7 (.bin .eql (.t 5) (.c (i64 0))),
 ao 6 (.mv (.t 7))] [1, 5, 6]) (.cond (.t 6) (.seq (.region false [
 ao 4 (.mv (.c (i64 2)))] [4]) (.ret)) (.seq (.region false [
 ao 9 (.mv (.t 1)),
 ao 10 (.bin .eql (.t 5) (.t 9)),
 ao 8 (.mv (.t 10))] [8]) (.cond (.t 8) (.seq (.region false [
 ao 4 (.mv (.c (i64 1)))] [4]) (.ret)) (.skip))))))) (.seq (.region false [
 ao 4 (.mv (.c (i64 3)))] [4]) (.ret)))
def a112 : AFn := ⟨2, [.t 4], b112, false⟩
def n112 : Ann := ⟨[[0, 1], [1, 5], [1, 5, 6], [4], [8], [4], [4]], [], [], [], [], false, []⟩
/-- almadraba/almadrabaref05.Crew -/
@[simp] def d113l0 : AC :=
 .seq (.seq (.region false [
 ao 18 (.mv (.t 8)),
 ao 19 (.mv (.t 6)),
 ao 20 (.len (.t 19)),
 ao 21 (.bin .lss (.t 18) (.t 20))] [1, 5, 6, 7, 8, 21]) (.cond (.t 21) (.skip) (.exit 0))) (.seq (.block 1 (.seq (.region true (spl [
 ao 24 (.load (some 4) (.t 1)),
 ao 25 (.mv (.t 6)),
 ao 26 (.mv (.t 8)),
 ap 27 (.idxs 1 (.t 25) (.t 26)) [1, 2],
 ap 28 (.load none (.t 27)) [3, 1, 2],
 ao 29 (.mv (.t 7)),
 ap 30 (.call 133 [(.t 24), (.t 28), (.t 29)]) [0, 4, 5, 3, 1, 2],
 ap 31 (.mv (.t 30)) [6, 0, 4, 5, 3, 1, 2],
 ag 32 (.mv (.t 5)) 31 true [7, 6, 0, 4, 5, 3, 1, 2],
 ag 33 (.len (.t 32)) 31 true [8, 7, 6, 0, 4, 5, 3, 1, 2],
 ag 34 (.bin .eql (.t 33) (.c (i64 0))) 31 true [9, 8, 7, 6, 0, 4, 5, 3, 1, 2],
 ag 35 (.mv (.t 34)) 31 true [10, 9, 8, 7, 6, 0, 4, 5, 3, 1, 2],
 ag 36 (.load (some 4) (.t 1)) 35 false [11, 10, 9, 8, 7, 6, 0, 4, 5, 3, 1, 2],
 ag 37 (.mv (.t 6)) 35 false [11, 10, 9, 8, 7, 6, 0, 4, 5, 3, 1, 2],
 ag 38 (.mv (.t 8)) 35 false [11, 10, 9, 8, 7, 6, 0, 4, 5, 3, 1, 2],
 ag 39 (.idxs 1 (.t 37) (.t 38)) 35 false [13, 14, 11, 10, 9, 8, 7, 6, 0, 4, 5, 3, 1, 2],
 ag 40 (.load none (.t 39)) 35 false [15, 13, 14, 11, 10, 9, 8, 7, 6, 0, 4, 5, 3, 1, 2],
 ag 41 (.call 134 [(.t 36), (.t 40)]) 35 false [12, 16, 15, 13, 14, 11, 10, 9, 8, 7, 6, 0, 4, 5, 3, 1, 2],
 ag 42 (.load (some 4) (.t 1)) 35 false [11, 10, 9, 8, 7, 6, 0, 4, 5, 3, 1, 2],
 ag 43 (.mv (.t 5)) 35 false [11, 10, 9, 8, 7, 6, 0, 4, 5, 3, 1, 2]] [
 ag 44 (.call 134 [(.t 42), (.t 43)]) 35 false [18, 19, 17, 12, 16, 15, 13, 14, 11, 10, 9, 8, 7, 6, 0, 4, 5, 3, 1, 2],
 ag 45 (.bin .lss (.t 41) (.t 44)) 35 false [20, 18, 19, 17, 12, 16, 15, 13, 14, 11, 10, 9, 8, 7, 6, 0, 4, 5, 3, 1, 2],
 ag 46 (.pick (.t 35) (.c (.bool true)) (.t 45)) 31 true [21, 20, 18, 19, 17, 12, 16, 15, 13, 14, 11, 10, 9, 8, 7, 6, 0, 4, 5, 3, 1, 2],
 ap 47 (.pick (.t 31) (.t 46) (.c (.bool false))) [22, 21, 20, 18, 19, 17, 12, 16, 15, 13, 14, 11, 10, 9, 8, 7, 6, 0, 4, 5, 3, 1, 2]]) [1, 5, 6, 7, 8, 47]) (.cond (.t 47) (.region false [
 ao 48 (.mv (.t 6)),
 ao 49 (.mv (.t 8)),
 ao 50 (.idxs 1 (.t 48) (.t 49)),
 ao 51 (.load none (.t 50)),
 ao 5 (.mv (.t 51))] [1, 5, 6, 7, 8]) (.skip)))) (.region false [
 ao 22 (.mv (.t 8)),
 ao 23 (.bin .add (.t 22) (.c (i64 1))),
 ao 8 (.mv (.t 23))] [1, 5, 6, 7, 8]))
def b113l0 : AC := .loop [1, 5, 6, 7, 8] [16, 160, 240, 272] d113l0
/-- almadraba/almadrabaref05.Crew -/
def b113 : AC :=
 .seq (.region false [
 ao 1 (.box (.t 0)),
 ao 2 (.mv (.c (.sl .full 1 []))),
 ao 3 (.mv (.c (i64 0)))] [1]) (.seq (.seq (.region false [
 ao 9 (.load (some 4) (.t 1)),
 ao 10 (.call 58 [(.t 9)]),
 ao 4 (.mv (.t 10))] [1, 4]) (.seq (.region false [
 ao 11 (.mv (.t 4)),
 ao 12 (.bin .neq (.t 11) (.c (i64 0)))] [1, 4, 12]) (.cond (.t 12) (.seq (.region false [
 ao 13 (.mv (.t 4)),
 ao 2 (.mv (.c (.sl .full 1 []))),
 ao 3 (.mv (.t 13))] [2, 3]) (.ret)) (.skip)))) (.seq (.region false [
 ao 5 (.mv (.c (.sl .full 1 [])))] [1, 5]) (.seq (.region true (spl [
 ao 14 (.load (some 4) (.t 1)),
 ap 15 (.call 131 [(.t 14), (.c (.sl .full 1 []))]) [0],
 ao 16 (.load (some 4) (.t 1))] [
 ap 17 (.call 132 [(.t 16)]) [2, 1, 0],
 ap 6 (.mv (.t 15)) [3, 2, 1, 0],
 ap 7 (.mv (.t 17)) [4, 3, 2, 1, 0]]) [1, 5, 6, 7]) (.seq (.seq (.region false [
 ao 8 (.mv (.c (i64 0)))] [1, 5, 6, 7, 8]) (.block 0 (b113l0))) (.seq (.seq (.region false [
 ao 52 (.mv (.t 5)),
 ao 53 (.len (.t 52)),
 ao 54 (.bin .eql (.t 53) (.c (i64 0)))] [5, 54]) (.cond (.t 54) (.seq (.region false [
 ao 2 (.mv (.c (.sl .full 1 []))),
 ao 3 (.mv (.c (i64 3)))] [2, 3]) (.ret)) (.skip))) (.seq (.region false [
 ao 55 (.mv (.t 5)),
 ao 2 (.mv (.t 55)),
 ao 3 (.mv (.c (i64 0)))] [2, 3]) (.ret)))))))
def a113 : AFn := ⟨1, [.t 2, .t 3], b113, false⟩
def n113 : Ann := ⟨[[1], [1, 4], [1, 4, 12], [2, 3], [1, 5], [1, 5, 6, 7], [1, 5, 6, 7, 8], [1, 5, 6, 7, 8, 21], [1, 5, 6, 7, 8, 47], [1, 5, 6, 7, 8], [1, 5, 6, 7, 8], [5, 54], [2, 3], [2, 3]], [⟨[], [1, 5, 6, 7, 8], [16, 160, 240, 272]⟩], [], [], [], false, [(48, 240), (37, 240), (31, 480), (29, 272), (25, 240), (19, 240), (7, 272), (6, 240), (3, 160), (13, 160), (11, 160), (4, 160)]⟩
/-- almadraba/almadrabaref13.SeaOf -/
def b114 : AC :=
 .seq (.region false [
 ao 2 (.box (.t 0)),
 ao 4 (.alloc [(i64 0), (i64 0), (.sl .full 2 []), (.sl .full 2 [])])] [1, 2, 4]) (.seq (.region false [
 ao 6 (.faddr 7 (.t 2)),
 ao 7 (.load (some 4) (.t 6)),
 ao 8 (.call 51 [(.t 7)]),
 ao 5 (.alloc [(i64 0), (i64 0), (.sl .full 2 []), (.sl .full 2 [])]),
 ⟨none, .store 4 (.t 5) (.t 8), none, [], []⟩] [1, 2, 4, 5]) (.seq (.seq (.freeze [128, 1128, 2128, 3128, 4128, 5128, 6128, 7128, 8128]) (.region false [
 ao 9 (.faddr 14 (.t 2)),
 ao 10 (.load none (.t 9)),
 ao 11 (.mv (.t 1)),
 ao 12 (.idxs 2 (.t 10) (.t 11)),
 ao 13 (.load (some 2) (.t 12)),
 ao 14 (.faddr 0 (.t 5)),
 ⟨none, .store 2 (.t 14) (.t 13), none, [], []⟩] [4, 5])) (.seq (.region false [
 ao 15 (.load (some 4) (.t 5)),
 ⟨none, .store 4 (.t 4) (.t 15), none, [], []⟩] [4]) (.ret))))
def a114 : AFn := ⟨2, [.cell 4 (some 4)], b114, false⟩
def n114 : Ann := ⟨[[1, 2, 4], [1, 2, 4, 5], [4, 5], [4]], [], [], [[], [], [128, 1128, 2128, 3128, 4128, 5128, 6128, 7128, 8128], []], [], false, []⟩
/-- slices.Contains[[]int,int] -/
def b115 : AC :=
 .seq (.region false [
 ao 4 (.mv (.c (.bool false)))] [0, 1]) (.seq (.region false [
 ao 5 (.mv (.t 0)),
 ao 6 (.mv (.t 1)),
 ao 7 (.call 135 [(.t 5), (.t 6)]),
 ao 8 (.bin .geq (.t 7) (.c (i64 0))),
 ao 4 (.mv (.t 8))] [4]) (.ret))
def a115 : AFn := ⟨2, [.t 4], b115, false⟩
def n115 : Ann := ⟨[[0, 1], [4]], [], [], [], [], false, []⟩
/-- (*almadraba/skies.season).courses$1 -/
@[simp] def d116l0 : AC :=
 .seq (.region false [
 ao 25 (.bin .lss (.t 24) (.t 23))] [0, 2, 4, 22, 23, 24, 25]) (.seq (.cond (.t 25) (.skip) (.exit 0)) (.seq (.block 1 (.seq (.region false [
 ao 26 (.idxs 1 (.t 22) (.t 24)),
 ao 27 (.load none (.t 26)),
 ao 9 (.mv (.t 27))] [0, 2, 4, 9, 22, 23, 24]) (.seq (.region true (spl [
 ao 28 (.load none (.t 4)),
 ao 29 (.mv (.t 0)),
 ao 30 (.mv (.t 0)),
 ap 31 (.len (.t 30)) [2],
 ao 32 (.mv (.t 0)),
 ap 33 (.len (.t 32)) [4],
 ap 34 (.slice 1 (.t 29) none (some (.t 31)) (some (.t 33))) [1, 3, 5, 2, 4],
 ao 35 (.mv (.t 9)),
 ap 36 (.lit [(i64 0)] 1 [(0, (.t 35))]) [7],
 ap 37 (.app 1 8 (.t 34) (.t 36)) [6, 8, 1, 3, 5, 2, 4, 7],
 ao 38 (.load none (.t 2)),
 ap 39 (.nilck (.t 38)) [10],
 ap 40 (.faddr 0 (.t 39)) [11, 10],
 ap 41 (.faddr 12 (.t 40)) [12, 11, 10],
 ap 42 (.load none (.t 41)) [13, 12, 11, 10],
 ao 43 (.mv (.t 9)),
 ap 44 (.idxs 1 (.t 42) (.t 43)) [14, 15, 13, 12, 11, 10],
 ap 45 (.load none (.t 44)) [16, 14, 15, 13, 12, 11, 10]] [
 ap 46 (.callv (.t 28) [(.t 37), (.t 45)]) [0, 17, 9, 16, 14, 15, 13, 12, 11, 10, 6, 8, 1, 3, 5, 2, 4, 7],
 ap 47 (.un .not (.t 46)) [18, 0, 17, 9, 16, 14, 15, 13, 12, 11, 10, 6, 8, 1, 3, 5, 2, 4, 7]]) [0, 2, 4, 22, 23, 24, 47]) (.cond (.t 47) (.seq (.region false [
 ao 7 (.mv (.c (.bool false)))] [7]) (.ret)) (.skip))))) (.region false [
 ao 48 (.bin .add (.t 24) (.c (i64 1))),
 ao 24 (.mv (.t 48))] [0, 2, 4, 22, 23, 24])))
def b116l0 : AC := .loop [0, 2, 4, 22, 23, 24] [336] d116l0
/-- (*almadraba/skies.season).courses$1 -/
def b116 : AC :=
 .seq (.region false [
 ao 7 (.mv (.c (.bool false)))] [0, 1, 2, 3, 4]) (.seq (.seq (.region false [
 ao 10 (.mv (.t 0)),
 ao 11 (.len (.t 10)),
 ao 12 (.load none (.t 2)),
 ao 13 (.nilck (.t 12)),
 ao 14 (.faddr 0 (.t 13)),
 ao 15 (.faddr 14 (.t 14)),
 ao 16 (.load none (.t 15)),
 ao 17 (.len (.t 16)),
 ao 18 (.bin .eql (.t 11) (.t 17))] [0, 1, 2, 3, 4, 18]) (.cond (.t 18) (.seq (.region false [
 ao 19 (.load none (.t 3)),
 ao 20 (.mv (.t 0)),
 ao 21 (.callv (.t 19) [(.t 20)]),
 ao 7 (.mv (.t 21))] [7]) (.ret)) (.skip))) (.seq (.seq (.region false [
 ao 22 (.mv (.t 1)),
 ao 23 (.len (.t 22)),
 ao 24 (.mv (.c (i64 0)))] [0, 2, 4, 22, 23, 24]) (.block 0 (b116l0))) (.seq (.region false [
 ao 7 (.mv (.c (.bool true)))] [7]) (.ret))))
def a116 : AFn := ⟨5, [.t 7], b116, false⟩
def n116 : Ann := ⟨[[0, 1, 2, 3, 4], [0, 1, 2, 3, 4, 18], [7], [0, 2, 4, 22, 23, 24], [0, 2, 4, 22, 23, 24, 25], [0, 2, 4, 9, 22, 23, 24], [0, 2, 4, 22, 23, 24, 47], [7], [0, 2, 4, 22, 23, 24], [7]], [⟨[], [0, 2, 4, 22, 23, 24], [336]⟩], [], [], [], false, []⟩
/-- slices.ContainsFunc[[]int,int] -/
def b121 : AC :=
 .seq (.region false [
 ao 4 (.mv (.c (.bool false)))] [0, 1]) (.seq (.region false [
 ao 5 (.mv (.t 0)),
 ao 6 (.mv (.t 1)),
 ao 7 (.call 147 [(.t 5), (.t 6)]),
 ao 8 (.bin .geq (.t 7) (.c (i64 0))),
 ao 4 (.mv (.t 8))] [4]) (.ret))
def a121 : AFn := ⟨2, [.t 4], b121, false⟩
def n121 : Ann := ⟨[[0, 1], [4]], [], [], [], [], false, []⟩
/-- almadraba/anchors.inside$1 -/
def b122 : AC :=
 .seq (.region false [
 ao 3 (.mv (.c (.bool false)))] [0, 1]) (.seq (.region false [
 ao 4 (.mv (.t 0)),
 ao 5 (.bin .lss (.t 4) (.c (i64 0))),
 ao 6 (.mv (.t 5)),
 ag 7 (.mv (.t 0)) 6 false [],
 ag 8 (.load none (.t 1)) 6 false [],
 ag 9 (.bin .gtr (.t 7) (.t 8)) 6 false [],
 ao 10 (.pick (.t 6) (.c (.bool true)) (.t 9)),
 ao 3 (.mv (.t 10))] [3]) (.ret))
def a122 : AFn := ⟨2, [.t 3], b122, false⟩
def n122 : Ann := ⟨[[0, 1], [3]], [], [], [], [], false, []⟩
/-- almadraba/anchors.known -/
def b123 : AC :=
 .seq (.region false [
 ao 4 (.mv (.c (i64 0)))] [0, 1]) (.seq (.block 0 (.seq (.region false [
 ao 6 (.mv (.t 0)),
 ao 5 (.mv (.t 6))] [1, 5]) (.cond (.t 5) (.seq (.region false [
 ao 4 (.mv (.c (i64 1)))] [4]) (.ret)) (.seq (.region false [
 ao 8 (.mv (.t 1)),
 ao 7 (.mv (.t 8))] [7]) (.cond (.t 7) (.seq (.region false [
 ao 4 (.mv (.c (i64 3)))] [4]) (.ret)) (.skip)))))) (.seq (.region false [
 ao 4 (.mv (.c (i64 2)))] [4]) (.ret)))
def a123 : AFn := ⟨2, [.t 4], b123, false⟩
def n123 : Ann := ⟨[[0, 1], [1, 5], [4], [7], [4], [4]], [], [], [], [], false, []⟩
/-- almadraba/anchors.worst -/
@[simp] def d124l0 : AC :=
 .seq (.region false [
 ao 17 (.bin .lss (.t 16) (.t 15))] [1, 2, 3, 14, 15, 16, 17]) (.seq (.cond (.t 17) (.skip) (.exit 0)) (.seq (.block 1 (.seq (.region false [
 ao 18 (.idxs 2 (.t 14) (.t 16)),
 ao 19 (.load (some 2) (.t 18)),
 ao 5 (.alloc [(i64 0), (i64 0)]),
 ⟨none, .store 2 (.t 5) (.t 19), none, [], []⟩] [1, 2, 3, 5, 14, 15, 16]) (.region false [
 ao 20 (.faddr 2 (.t 3)),
 ao 21 (.load none (.t 20)),
 ao 22 (.faddr 0 (.t 5)),
 ao 23 (.load none (.t 22)),
 ao 24 (.lit [(i64 0)] 1 [(0, (.t 23))]),
 ao 25 (.app 1 8 (.t 21) (.t 24)),
 ao 26 (.faddr 2 (.t 3)),
 ⟨none, .store 1 (.t 26) (.t 25), none, [], []⟩] [1, 2, 3, 14, 15, 16]))) (.region false [
 ao 27 (.bin .add (.t 16) (.c (i64 1))),
 ao 16 (.mv (.t 27))] [1, 2, 3, 14, 15, 16])))
def b124l0 : AC := .loop [1, 2, 3, 14, 15, 16] [16, 32, 48, 52] d124l0
/-- almadraba/anchors.worst -/
def b124 : AC :=
 .seq (.region false [
 ao 1 (.box (.t 0)),
 ao 2 (.alloc [(i64 0), (i64 0), (i64 0), (i64 0), (.sl .full 2 []), (.sl .full 2 []), (.sl .full 5 []), (i64 0), (i64 0), (.sl .full 1 [])])] [1, 2]) (.seq (.region false [
 ao 6 (.faddr 0 (.t 1)),
 ao 7 (.faddr 1 (.t 6)),
 ao 8 (.load none (.t 7)),
 ao 9 (.faddr 2 (.t 1)),
 ao 10 (.faddr 1 (.t 9)),
 ao 11 (.load none (.t 10)),
 ao 12 (.build [(i64 0), (i64 0), (.sl .full 1 [])] [(0, 1, (.t 8)), (1, 1, (.t 11))]),
 ao 3 (.alloc [(i64 0), (i64 0), (.sl .full 1 [])]),
 ⟨none, .store 3 (.t 3) (.t 12), none, [], []⟩] [1, 2, 3]) (.seq (.seq (.region false [
 ao 13 (.faddr 4 (.t 1)),
 ao 14 (.load none (.t 13)),
 ao 15 (.len (.t 14)),
 ao 16 (.mv (.c (i64 0)))] [1, 2, 3, 14, 15, 16]) (.block 0 (.seq (.thawc 3 2 52 1) (b124l0)))) (.seq (.region false [
 ao 28 (.load (some 7) (.t 1)),
 ao 29 (.load (some 3) (.t 3)),
 ao 30 (.build [(i64 0), (i64 0), (i64 0), (i64 0), (.sl .full 2 []), (.sl .full 2 []), (.sl .full 5 []), (i64 0), (i64 0), (.sl .full 1 [])] [(0, 7, (.t 28)), (7, 3, (.t 29))]),
 ⟨none, .store 10 (.t 2) (.t 30), none, [], []⟩] [2]) (.ret))))
def a124 : AFn := ⟨1, [.cell 2 (some 10)], b124, false⟩
def n124 : Ann := ⟨[[1, 2], [1, 2, 3], [1, 2, 3, 14, 15, 16], [1, 2, 3, 14, 15, 16, 17], [1, 2, 3, 5, 14, 15, 16], [1, 2, 3, 14, 15, 16], [1, 2, 3, 14, 15, 16], [2]], [⟨[.c 3 2 52 1], [1, 2, 3, 14, 15, 16], [16, 32, 48, 52]⟩], [], [], [], false, []⟩
/-- (almadraba/anchors.row).step -/
@[simp] def d125l0 : AC :=
 .seq (.region false [
 ao 13 (.bin .lss (.t 12) (.t 11))] [1, 2, 5, 11, 12, 13]) (.seq (.cond (.t 13) (.skip) (.exit 0)) (.seq (.block 1 (.seq (.region false [
 ao 14 (.mv (.t 12)),
 ao 6 (.mv (.t 14))] [1, 2, 5, 6, 11, 12]) (.seq (.region false [
 ao 15 (.mv (.t 1)),
 ao 16 (.mv (.t 6)),
 ao 17 (.call 148 [(.t 15), (.t 16)]),
 ao 18 (.un .not (.t 17)),
 ao 19 (.mv (.t 18)),
 ag 20 (.load (some 10) (.t 2)) 19 true [],
 ag 21 (.mv (.t 6)) 19 true [],
 ag 22 (.mv (.t 1)) 19 true [],
 ag 23 (.call 149 [(.t 20), (.t 21), (.t 22)]) 19 true [],
 ag 24 (.bin .lss (.t 23) (.c (i64 0))) 19 true [],
 ao 25 (.pick (.t 19) (.t 24) (.c (.bool false)))] [1, 2, 5, 6, 11, 12, 25]) (.cond (.t 25) (.region false [
 ao 26 (.mv (.t 5)),
 ao 27 (.mv (.t 6)),
 ao 28 (.call 150 [(.t 26), (.t 27)]),
 ao 5 (.mv (.t 28))] [1, 2, 5, 11, 12]) (.skip))))) (.region false [
 ao 29 (.bin .add (.t 12) (.c (i64 1))),
 ao 12 (.mv (.t 29))] [1, 2, 5, 11, 12])))
def b125l0 : AC := .loop [1, 2, 5, 11, 12] [32] d125l0
/-- (almadraba/anchors.row).step -/
def b125 : AC :=
 .seq (.region false [
 ao 2 (.box (.t 0)),
 ao 4 (.mv (.c (.int .u64 0)))] [1, 2]) (.seq (.region false [
 ao 7 (.mv (.t 1)),
 ao 5 (.mv (.t 7))] [1, 2, 5]) (.seq (.seq (.region false [
 ao 8 (.faddr 0 (.t 2)),
 ao 9 (.faddr 5 (.t 8)),
 ao 10 (.load none (.t 9)),
 ao 11 (.len (.t 10)),
 ao 12 (.mv (.c (i64 0)))] [1, 2, 5, 11, 12]) (.block 0 (b125l0))) (.seq (.region false [
 ao 30 (.mv (.t 5)),
 ao 4 (.mv (.t 30))] [4]) (.ret))))
def a125 : AFn := ⟨2, [.t 4], b125, false⟩
def n125 : Ann := ⟨[[1, 2], [1, 2, 5], [1, 2, 5, 11, 12], [1, 2, 5, 11, 12, 13], [1, 2, 5, 6, 11, 12], [1, 2, 5, 6, 11, 12, 25], [1, 2, 5, 11, 12], [1, 2, 5, 11, 12], [4]], [⟨[], [1, 2, 5, 11, 12], [32]⟩], [], [], [], false, [(26, 448), (4, 448), (30, 448), (5, 448)]⟩
/-- almadraba/anchors.best -/
@[simp] def d126l0 : AC :=
 .seq (.region false [
 ao 17 (.bin .lss (.t 16) (.t 15))] [1, 2, 3, 14, 15, 16, 17]) (.seq (.cond (.t 17) (.skip) (.exit 0)) (.seq (.block 1 (.seq (.region false [
 ao 18 (.idxs 2 (.t 14) (.t 16)),
 ao 19 (.load (some 2) (.t 18)),
 ao 5 (.alloc [(i64 0), (i64 0)]),
 ⟨none, .store 2 (.t 5) (.t 19), none, [], []⟩] [1, 2, 3, 5, 14, 15, 16]) (.region false [
 ao 20 (.faddr 2 (.t 3)),
 ao 21 (.load none (.t 20)),
 ao 22 (.faddr 1 (.t 5)),
 ao 23 (.load none (.t 22)),
 ao 24 (.lit [(i64 0)] 1 [(0, (.t 23))]),
 ao 25 (.app 1 8 (.t 21) (.t 24)),
 ao 26 (.faddr 2 (.t 3)),
 ⟨none, .store 1 (.t 26) (.t 25), none, [], []⟩] [1, 2, 3, 14, 15, 16]))) (.region false [
 ao 27 (.bin .add (.t 16) (.c (i64 1))),
 ao 16 (.mv (.t 27))] [1, 2, 3, 14, 15, 16])))
def b126l0 : AC := .loop [1, 2, 3, 14, 15, 16] [16, 32, 48, 52] d126l0
/-- almadraba/anchors.best -/
def b126 : AC :=
 .seq (.region false [
 ao 1 (.box (.t 0)),
 ao 2 (.alloc [(i64 0), (i64 0), (i64 0), (i64 0), (.sl .full 2 []), (.sl .full 2 []), (.sl .full 5 []), (i64 0), (i64 0), (.sl .full 1 [])])] [1, 2]) (.seq (.region false [
 ao 6 (.faddr 0 (.t 1)),
 ao 7 (.faddr 0 (.t 6)),
 ao 8 (.load none (.t 7)),
 ao 9 (.faddr 2 (.t 1)),
 ao 10 (.faddr 0 (.t 9)),
 ao 11 (.load none (.t 10)),
 ao 12 (.build [(i64 0), (i64 0), (.sl .full 1 [])] [(0, 1, (.t 8)), (1, 1, (.t 11))]),
 ao 3 (.alloc [(i64 0), (i64 0), (.sl .full 1 [])]),
 ⟨none, .store 3 (.t 3) (.t 12), none, [], []⟩] [1, 2, 3]) (.seq (.seq (.region false [
 ao 13 (.faddr 4 (.t 1)),
 ao 14 (.load none (.t 13)),
 ao 15 (.len (.t 14)),
 ao 16 (.mv (.c (i64 0)))] [1, 2, 3, 14, 15, 16]) (.block 0 (.seq (.thawc 3 2 52 1) (b126l0)))) (.seq (.region false [
 ao 28 (.load (some 7) (.t 1)),
 ao 29 (.load (some 3) (.t 3)),
 ao 30 (.build [(i64 0), (i64 0), (i64 0), (i64 0), (.sl .full 2 []), (.sl .full 2 []), (.sl .full 5 []), (i64 0), (i64 0), (.sl .full 1 [])] [(0, 7, (.t 28)), (7, 3, (.t 29))]),
 ⟨none, .store 10 (.t 2) (.t 30), none, [], []⟩] [2]) (.ret))))
def a126 : AFn := ⟨1, [.cell 2 (some 10)], b126, false⟩
def n126 : Ann := ⟨[[1, 2], [1, 2, 3], [1, 2, 3, 14, 15, 16], [1, 2, 3, 14, 15, 16, 17], [1, 2, 3, 5, 14, 15, 16], [1, 2, 3, 14, 15, 16], [1, 2, 3, 14, 15, 16], [2]], [⟨[.c 3 2 52 1], [1, 2, 3, 14, 15, 16], [16, 32, 48, 52]⟩], [], [], [], false, []⟩
/-- almadraba/lifts.open -/
@[simp] def d127l0 : AC :=
 .seq (.region false [
 ao 28 (.bin .lss (.t 27) (.t 26))] [2, 7, 8, 9, 25, 26, 27, 28]) (.seq (.cond (.t 28) (.skip) (.exit 0)) (.seq (.block 1 (.seq (.region false [
 ao 29 (.idxs 2 (.t 25) (.t 27)),
 ao 30 (.load (some 2) (.t 29)),
 ao 11 (.alloc [(i64 0), (i64 0)]),
 ⟨none, .store 2 (.t 11) (.t 30), none, [], []⟩] [2, 7, 8, 9, 11, 25, 26, 27]) (.region true (spl [
 ao 31 (.mv (.t 8)),
 ao 32 (.faddr 0 (.t 11)),
 ap 33 (.load none (.t 32)) [1],
 ap 34 (.bin .add (.t 31) (.t 33)) [0, 2, 1],
 ao 35 (.mv (.t 9)),
 ao 36 (.faddr 1 (.t 11)),
 ap 37 (.load none (.t 36)) [5],
 ap 38 (.bin .add (.t 35) (.t 37)) [4, 6, 5],
 ap 8 (.mv (.t 34)) [3, 0, 2, 1]] [
 ap 9 (.mv (.t 38)) [7, 8, 4, 6, 5, 3, 0, 2, 1]]) [2, 7, 8, 9, 25, 26, 27]))) (.region false [
 ao 39 (.bin .add (.t 27) (.c (i64 1))),
 ao 27 (.mv (.t 39))] [2, 7, 8, 9, 25, 26, 27])))
def b127l0 : AC := .loop [2, 7, 8, 9, 25, 26, 27] [32, 208, 240, 368] d127l0
/-- almadraba/lifts.open -/
@[simp] def d127l1 : AC :=
 .seq (.region false [
 ao 44 (.bin .lss (.t 43) (.t 42))] [7, 8, 9, 41, 42, 43, 44]) (.seq (.cond (.t 44) (.skip) (.exit 2)) (.seq (.block 3 (.seq (.region false [
 ao 45 (.mv (.t 43)),
 ao 46 (.idxs 2 (.t 41) (.t 43)),
 ao 47 (.load (some 2) (.t 46)),
 ao 13 (.alloc [(i64 0), (i64 0)]),
 ao 12 (.mv (.t 45)),
 ⟨none, .store 2 (.t 13) (.t 47), none, [], []⟩] [7, 8, 9, 12, 13, 41, 42, 43]) (.region true (spl [
 ao 48 (.mv (.t 7)),
 ao 49 (.mv (.t 12)),
 ao 50 (.faddr 0 (.t 13)),
 ap 51 (.load none (.t 50)) [2],
 ao 52 (.mv (.t 9)),
 ao 53 (.faddr 1 (.t 13)),
 ap 54 (.load none (.t 53)) [5],
 ap 55 (.bin .sub (.t 52) (.t 54)) [4, 6, 5],
 ap 56 (.bin .sub (.c (i64 12)) (.t 55)) [7, 4, 6, 5],
 ap 57 (.mm true (.t 51) (.t 56)) [3, 8, 2, 7, 4, 6, 5],
 ao 58 (.faddr 1 (.t 13)),
 ap 59 (.load none (.t 58)) [10],
 ao 60 (.mv (.t 8)),
 ao 61 (.faddr 0 (.t 13)),
 ap 62 (.load none (.t 61)) [13],
 ap 63 (.bin .sub (.t 60) (.t 62)) [12, 14, 13],
 ap 64 (.bin .sub (.c (i64 12)) (.t 63)) [15, 12, 14, 13],
 ap 65 (.mm false (.t 59) (.t 64)) [11, 16, 10, 15, 12, 14, 13],
 ap 66 (.build [(i64 0), (i64 0)] [(0, 1, (.t 57)), (1, 1, (.t 65))]) [9, 17, 3, 8, 2, 7, 4, 6, 5, 11, 16, 10, 15, 12, 14, 13],
 ap 67 (.nilck (.t 48)) [0],
 ap 68 (.faddr 4 (.t 67)) [19, 0]] [
 ap 69 (.idxa 4 2 (.t 68) (.t 49)) [20, 1, 18, 19, 0, 9, 17, 3, 8, 2, 7, 4, 6, 5, 11, 16, 10, 15, 12, 14, 13],
 ⟨none, .store 2 (.t 69) (.t 66), none, [21, 20, 1, 18, 19, 0, 9, 17, 3, 8, 2, 7, 4, 6, 5, 11, 16, 10, 15, 12, 14, 13], []⟩]) [7, 8, 9, 41, 42, 43]))) (.region false [
 ao 70 (.bin .add (.t 43) (.c (i64 1))),
 ao 43 (.mv (.t 70))] [7, 8, 9, 41, 42, 43])))
def b127l1 : AC := .loop [7, 8, 9, 41, 42, 43] [32, 176, 240, 368] d127l1
/-- almadraba/lifts.open -/
def b127 : AC :=
 .seq (.region false [
 ao 2 (.box (.t 0)),
 ao 4 (.mv (.c .nilp)),
 ao 5 (.mv (.c (i64 0)))] [1, 2]) (.seq (.seq (.region false [
 ao 14 (.load (some 4) (.t 2)),
 ao 15 (.call 55 [(.t 14)]),
 ao 6 (.mv (.t 15))] [1, 2, 6]) (.seq (.region false [
 ao 16 (.mv (.t 6)),
 ao 17 (.bin .neq (.t 16) (.c (i64 0)))] [1, 2, 6, 17]) (.cond (.t 17) (.seq (.region false [
 ao 18 (.mv (.t 6)),
 ao 4 (.mv (.c .nilp)),
 ao 5 (.mv (.t 18))] [4, 5]) (.ret)) (.skip)))) (.seq (.seq (.region false [
 ao 19 (.mv (.t 1)),
 ao 20 (.un .not (.t 19))] [2, 20]) (.cond (.t 20) (.seq (.region false [
 ao 4 (.mv (.c .nilp)),
 ao 5 (.mv (.c (i64 1)))] [4, 5]) (.ret)) (.skip))) (.seq (.region false [
 ao 21 (.load (some 4) (.t 2)),
 ao 22 (.build [(i64 0), (i64 0), (.sl .full 2 []), (.sl .full 2 []), (i64 0), (i64 0), (i64 0), (i64 0), (i64 0), (i64 0), (i64 0), (i64 0)] [(0, 4, (.t 21))]),
 ao 23 (.box (.t 22)),
 ao 7 (.mv (.t 23))] [2, 7]) (.seq (.region false [
 ao 8 (.mv (.c (i64 0))),
 ao 9 (.mv (.c (i64 0)))] [2, 7, 8, 9]) (.seq (.seq (.region false [
 ao 24 (.faddr 2 (.t 2)),
 ao 25 (.load none (.t 24)),
 ao 26 (.len (.t 25)),
 ao 27 (.mv (.c (i64 0)))] [2, 7, 8, 9, 25, 26, 27]) (.block 0 (b127l0))) (.seq (.seq (.region false [
 ao 40 (.faddr 2 (.t 2)),
 ao 41 (.load none (.t 40)),
 ao 42 (.len (.t 41)),
 ao 43 (.mv (.c (i64 0)))] [7, 8, 9, 41, 42, 43]) (.block 2 (b127l1))) (.seq (.region false [
 ao 71 (.mv (.t 7)),
 ao 4 (.mv (.t 71)),
 ao 5 (.mv (.c (i64 0)))] [4, 5]) (.ret))))))))
def a127 : AFn := ⟨2, [.t 4, .t 5], b127, false⟩
def n127 : Ann := ⟨[[1, 2], [1, 2, 6], [1, 2, 6, 17], [4, 5], [2, 20], [4, 5], [2, 7], [2, 7, 8, 9], [2, 7, 8, 9, 25, 26, 27], [2, 7, 8, 9, 25, 26, 27, 28], [2, 7, 8, 9, 11, 25, 26, 27], [2, 7, 8, 9, 25, 26, 27], [2, 7, 8, 9, 25, 26, 27], [7, 8, 9, 41, 42, 43], [7, 8, 9, 41, 42, 43, 44], [7, 8, 9, 12, 13, 41, 42, 43], [7, 8, 9, 41, 42, 43], [7, 8, 9, 41, 42, 43], [4, 5]], [⟨[], [2, 7, 8, 9, 25, 26, 27], [32, 208, 240, 368]⟩, ⟨[], [7, 8, 9, 41, 42, 43], [32, 176, 240, 368]⟩], [], [], [], false, [(4, 368), (71, 368), (48, 368), (7, 368), (5, 240), (18, 240), (16, 240), (6, 240)]⟩
/-- (*almadraba/lifts.sea).cheapest -/
@[simp] def d128l0 : AC :=
 .seq (.region false [
 ao 18 (.bin .lss (.t 17) (.t 16))] [1, 2, 3, 4, 5, 15, 16, 17, 18]) (.seq (.cond (.t 18) (.skip) (.exit 2)) (.seq (.block 3 (.seq (.region false [
 ao 19 (.idxs 1 (.t 15) (.t 17)),
 ao 20 (.load none (.t 19)),
 ao 7 (.mv (.t 20))] [1, 2, 3, 4, 5, 7, 15, 16, 17]) (.region false [
 ao 21 (.mv (.t 5)),
 ao 22 (.load none (.t 1)),
 ao 23 (.nilck (.t 22)),
 ao 24 (.faddr 0 (.t 23)),
 ao 25 (.faddr 3 (.t 24)),
 ao 26 (.load none (.t 25)),
 ao 27 (.mv (.t 7)),
 ao 28 (.idxs 2 (.t 26) (.t 27)),
 ao 29 (.faddr 1 (.t 28)),
 ao 30 (.load none (.t 29)),
 ao 31 (.bin .add (.t 21) (.t 30)),
 ao 5 (.mv (.t 31))] [1, 2, 3, 4, 5, 15, 16, 17]))) (.region false [
 ao 32 (.bin .add (.t 17) (.c (i64 1))),
 ao 17 (.mv (.t 32))] [1, 2, 3, 4, 5, 15, 16, 17])))
def b128l0 : AC := .loop [1, 2, 3, 4, 5, 15, 16, 17] [16, 32, 48, 208] d128l0
/-- (*almadraba/lifts.sea).cheapest -/
def b128l1 : AC :=
 .region false [
 ao 4 (.mv (.t 10))] [1, 2, 3, 4]
/-- (*almadraba/lifts.sea).cheapest -/
def b128l2 : AC :=
 .block 1 (.seq (.seq (.region false [
 ao 11 (.load none (.t 1)),
 ao 12 (.mv (.t 4)),
 ao 13 (.call 152 [(.t 11), (.t 12)]),
 ao 14 (.un .not (.t 13))] [1, 2, 3, 4, 14]) (.cond (.t 14) (.exit 1) (.skip))) (.seq (.region false [
 ao 5 (.mv (.c (i64 0)))] [1, 2, 3, 4, 5]) (.seq (.seq (.region false [
 ao 15 (.mv (.t 4)),
 ao 16 (.len (.t 15)),
 ao 17 (.mv (.c (i64 0)))] [1, 2, 3, 4, 5, 15, 16, 17]) (.block 2 (b128l0))) (.seq (.region false [
 ao 33 (.load none (.t 3)),
 ao 34 (.bin .lss (.t 33) (.c (i64 0))),
 ao 35 (.mv (.t 34)),
 ag 36 (.mv (.t 5)) 35 false [],
 ag 37 (.load none (.t 3)) 35 false [],
 ag 38 (.bin .lss (.t 36) (.t 37)) 35 false [],
 ao 39 (.pick (.t 35) (.c (.bool true)) (.t 38))] [2, 3, 4, 5, 39]) (.cond (.t 39) (.region false [
 ao 40 (.mv (.t 4)),
 ao 41 (.mv (.t 5)),
 ⟨none, .store 1 (.t 2) (.t 40), none, [], []⟩,
 ⟨none, .store 1 (.t 3) (.t 41), none, [], []⟩] [2, 3]) (.skip))))))
/-- (*almadraba/lifts.sea).cheapest -/
def b128 : AC :=
 .seq (.region false [
 ao 1 (.box (.t 0)),
 ao 2 (.alloc [(.sl .full 1 [])]),
 ao 3 (.alloc [(i64 0)])] [1, 2, 3]) (.seq (.region false [
 ⟨none, .store 1 (.t 3) (.c (i64 (-1))), none, [], []⟩] [1, 2, 3]) (.seq (.seq (.region false [
 ao 8 (.load none (.t 1)),
 ao 9 (.mkfn 151 [(.t 8)] [])] [1, 2, 3, 9]) (.block 0 (.rng 2048 [10] b128l1 b128l2 (.t 9)))) (.seq (.region true (spl [
 ao 42 (.load none (.t 2)),
 ⟨(some 43), .load none (.t 3), none, [], [32]⟩,
 ⟨none, .store 1 (.t 2) (.t 42), none, [0], []⟩] [
 ⟨none, .store 1 (.t 3) (.t 43), none, [1, 2, 0], []⟩]) [2, 3]) (.ret))))
def a128 : AFn := ⟨1, [.cell 2 none, .cell 3 none], b128, false⟩
def n128 : Ann := ⟨[[1, 2, 3], [1, 2, 3], [1, 2, 3, 9], [1, 2, 3, 4], [1, 2, 3, 4, 14], [1, 2, 3, 4, 5], [1, 2, 3, 4, 5, 15, 16, 17], [1, 2, 3, 4, 5, 15, 16, 17, 18], [1, 2, 3, 4, 5, 7, 15, 16, 17], [1, 2, 3, 4, 5, 15, 16, 17], [1, 2, 3, 4, 5, 15, 16, 17], [2, 3, 4, 5, 39], [2, 3], [2, 3]], [⟨[], [1, 2, 3, 4, 5, 15, 16, 17], [16, 32, 48, 208]⟩], [2048], [], [], false, []⟩
/-- almadraba/almadrabaref02.Truths -/
@[simp] def d129l2 : AC :=
 .seq (.seq (.region false [
 ao 30 (.mv (.t 7)),
 ao 31 (.mv (.t 4)),
 ao 32 (.len (.t 31)),
 ao 33 (.bin .lss (.t 30) (.t 32))] [1, 3, 4, 5, 6, 7, 33]) (.cond (.t 33) (.skip) (.exit 4))) (.seq (.block 5 (.region false [
 ao 36 (.mv (.t 3)),
 ao 37 (.mv (.t 5)),
 ao 38 (.mv (.t 6)),
 ao 39 (.mv (.t 4)),
 ao 40 (.mv (.t 7)),
 ao 41 (.idxs 1 (.t 39) (.t 40)),
 ao 42 (.load none (.t 41)),
 ao 43 (.build [(i64 0), (i64 0), (.sl .full 1 [])] [(0, 1, (.t 37)), (1, 1, (.t 38)), (2, 1, (.t 42))]),
 ao 44 (.lit [(i64 0), (i64 0), (.sl .full 1 [])] 1 [(0, (.t 43))]),
 ao 45 (.app 3 40 (.t 36) (.t 44)),
 ao 3 (.mv (.t 45))] [1, 3, 4, 5, 6, 7])) (.region false [
 ao 34 (.mv (.t 7)),
 ao 35 (.bin .add (.t 34) (.c (i64 1))),
 ao 7 (.mv (.t 35))] [1, 3, 4, 5, 6, 7]))
def b129l2 : AC := .loop [1, 3, 4, 5, 6, 7] [16, 49, 144] d129l2
/-- almadraba/almadrabaref02.Truths -/
@[simp] def d129l1 : AC :=
 .seq (.seq (.region false [
 ao 23 (.mv (.t 6)),
 ao 24 (.faddr 2 (.t 1)),
 ao 25 (.faddr 1 (.t 24)),
 ao 26 (.load none (.t 25)),
 ao 27 (.bin .leq (.t 23) (.t 26))] [1, 3, 4, 5, 6, 27]) (.cond (.t 27) (.skip) (.exit 2))) (.seq (.block 3 (.seq (.region false [
 ao 7 (.mv (.c (i64 0)))] [1, 3, 4, 5, 6, 7]) (.block 4 (b129l2)))) (.region false [
 ao 28 (.mv (.t 6)),
 ao 29 (.bin .add (.t 28) (.c (i64 1))),
 ao 6 (.mv (.t 29))] [1, 3, 4, 5, 6]))
def b129l1 : AC := .loop [1, 3, 4, 5, 6] [16, 49, 144] d129l1
/-- almadraba/almadrabaref02.Truths -/
@[simp] def d129l0 : AC :=
 .seq (.seq (.region false [
 ao 13 (.mv (.t 5)),
 ao 14 (.faddr 0 (.t 1)),
 ao 15 (.faddr 1 (.t 14)),
 ao 16 (.load none (.t 15)),
 ao 17 (.bin .leq (.t 13) (.t 16))] [1, 3, 4, 5, 17]) (.cond (.t 17) (.skip) (.exit 0))) (.seq (.block 1 (.seq (.region false [
 ao 20 (.faddr 2 (.t 1)),
 ao 21 (.faddr 0 (.t 20)),
 ao 22 (.load none (.t 21)),
 ao 6 (.mv (.t 22))] [1, 3, 4, 5, 6]) (.block 2 (b129l1)))) (.region false [
 ao 18 (.mv (.t 5)),
 ao 19 (.bin .add (.t 18) (.c (i64 1))),
 ao 5 (.mv (.t 19))] [1, 3, 4, 5]))
def b129l0 : AC := .loop [1, 3, 4, 5] [16, 49, 144] d129l0
/-- almadraba/almadrabaref02.Truths -/
def b129 : AC :=
 .seq (.region false [
 ao 1 (.box (.t 0)),
 ao 2 (.mv (.c (.sl .full 3 [])))] [1]) (.seq (.region false [
 ao 3 (.mv (.c (.sl .full 3 [])))] [1, 3]) (.seq (.region false [
 ao 8 (.load (some 7) (.t 1)),
 ao 9 (.call 153 [(.t 8), (.c (.sl .full 1 []))]),
 ao 4 (.mv (.t 9))] [1, 3, 4]) (.seq (.seq (.region false [
 ao 10 (.faddr 0 (.t 1)),
 ao 11 (.faddr 0 (.t 10)),
 ao 12 (.load none (.t 11)),
 ao 5 (.mv (.t 12))] [1, 3, 4, 5]) (.block 0 (.seq (.thaw 3 49 3) (b129l0)))) (.seq (.region false [
 ao 46 (.mv (.t 3)),
 ao 2 (.mv (.t 46))] [2]) (.ret)))))
def a129 : AFn := ⟨1, [.t 2], b129, false⟩
def n129 : Ann := ⟨[[1], [1, 3], [1, 3, 4], [1, 3, 4, 5], [1, 3, 4, 5, 17], [1, 3, 4, 5, 6], [1, 3, 4, 5, 6, 27], [1, 3, 4, 5, 6, 7], [1, 3, 4, 5, 6, 7, 33], [1, 3, 4, 5, 6, 7], [1, 3, 4, 5, 6, 7], [1, 3, 4, 5, 6], [1, 3, 4, 5], [2]], [⟨[.t 3 49 3], [1, 3, 4, 5], [16, 49, 144]⟩, ⟨[], [1, 3, 4, 5, 6], [16, 49, 144]⟩, ⟨[], [1, 3, 4, 5, 6, 7], [16, 49, 144]⟩], [], [], [], false, [(39, 144), (31, 144), (4, 144)]⟩
/-- almadraba/almadrabaref02.more -/
@[simp] def d130l0 : AC :=
 .seq (.seq (.region false [
 ao 9 (.mv (.t 8)),
 ao 10 (.faddr 5 (.t 3)),
 ao 11 (.load none (.t 10)),
 ao 12 (.len (.t 11)),
 ao 13 (.bin .lss (.t 9) (.t 12))] [2, 3, 4, 7, 8, 13]) (.cond (.t 13) (.skip) (.exit 0))) (.seq (.block 1 (.seq (.region true (spl [
 ao 16 (.mv (.t 2)),
 ao 17 (.mv (.t 8)),
 ap 18 (.call 44 [(.t 16), (.t 17)]) [0, 1],
 ap 19 (.mv (.t 18)) [2, 0, 1],
 ag 20 (.load (some 7) (.t 3)) 19 false [3, 2, 0, 1],
 ag 21 (.load (some 3) (.t 4)) 19 false [3, 2, 0, 1],
 ag 22 (.mv (.t 8)) 19 false [3, 2, 0, 1],
 ag 23 (.mv (.t 2)) 19 false [3, 2, 0, 1],
 ag 24 (.call 154 [(.t 20), (.t 21), (.t 22), (.t 23)]) 19 false [4, 5, 6, 7, 3, 2, 0, 1],
 ag 25 (.load (some 7) (.t 3)) 19 false [3, 2, 0, 1],
 ag 26 (.load (some 3) (.t 4)) 19 false [3, 2, 0, 1],
 ag 27 (.mv (.t 8)) 19 false [3, 2, 0, 1]] [
 ag 28 (.call 155 [(.t 25), (.t 26), (.t 27)]) 19 false [9, 10, 11, 8, 4, 5, 6, 7, 3, 2, 0, 1],
 ag 29 (.bin .gtr (.t 24) (.t 28)) 19 false [12, 9, 10, 11, 8, 4, 5, 6, 7, 3, 2, 0, 1],
 ap 30 (.pick (.t 19) (.c (.bool true)) (.t 29)) [13, 12, 9, 10, 11, 8, 4, 5, 6, 7, 3, 2, 0, 1]]) [2, 3, 4, 7, 8, 30]) (.cond (.t 30) (.region false [
 ao 31 (.mv (.t 7)),
 ao 32 (.mv (.t 8)),
 ao 33 (.lit [(i64 0)] 1 [(0, (.t 32))]),
 ao 34 (.app 1 8 (.t 31) (.t 33)),
 ao 7 (.mv (.t 34))] [2, 3, 4, 7, 8]) (.skip)))) (.region false [
 ao 14 (.mv (.t 8)),
 ao 15 (.bin .add (.t 14) (.c (i64 1))),
 ao 8 (.mv (.t 15))] [2, 3, 4, 7, 8]))
def b130l0 : AC := .loop [2, 3, 4, 7, 8] [48, 64, 113] d130l0
/-- almadraba/almadrabaref02.more -/
def b130 : AC :=
 .seq (.region false [
 ao 3 (.box (.t 0)),
 ao 4 (.box (.t 1)),
 ao 6 (.mv (.c (.sl .full 1 [])))] [2, 3, 4]) (.seq (.region false [
 ao 7 (.mv (.c (.sl .full 1 [])))] [2, 3, 4, 7]) (.seq (.seq (.region false [
 ao 8 (.mv (.c (i64 0)))] [2, 3, 4, 7, 8]) (.block 0 (.seq (.thaw 7 113 1) (b130l0)))) (.seq (.region false [
 ao 35 (.mv (.t 7)),
 ao 6 (.mv (.t 35))] [6]) (.ret))))
def a130 : AFn := ⟨3, [.t 6], b130, false⟩
def n130 : Ann := ⟨[[2, 3, 4], [2, 3, 4, 7], [2, 3, 4, 7, 8], [2, 3, 4, 7, 8, 13], [2, 3, 4, 7, 8, 30], [2, 3, 4, 7, 8], [2, 3, 4, 7, 8], [6]], [⟨[.t 7 113 1], [2, 3, 4, 7, 8], [48, 64, 113]⟩], [], [], [], false, [(19, 288)]⟩
/-- almadraba/almadrabaref05.crews -/
@[simp] def d131l0 : AC :=
 .seq (.seq (.region false [
 ao 15 (.mv (.t 6)),
 ao 16 (.faddr 3 (.t 2)),
 ao 17 (.load none (.t 16)),
 ao 18 (.len (.t 17)),
 ao 19 (.bin .lss (.t 15) (.t 18))] [1, 2, 5, 6, 19]) (.cond (.t 19) (.skip) (.exit 0))) (.seq (.block 1 (.seq (.region false [
 ao 22 (.mv (.t 1)),
 ao 23 (.mv (.t 6)),
 ao 24 (.call 44 [(.t 22), (.t 23)]),
 ao 25 (.un .not (.t 24))] [1, 2, 5, 6, 25]) (.cond (.t 25) (.region true (spl [
 ao 26 (.mv (.t 5)),
 ao 27 (.load (some 4) (.t 2)),
 ao 28 (.lit [(i64 0)] 0 []),
 ao 29 (.mv (.t 1)),
 ap 30 (.app 1 8 (.t 28) (.t 29)) [2, 3],
 ao 31 (.mv (.t 6)),
 ap 32 (.lit [(i64 0)] 1 [(0, (.t 31))]) [5],
 ap 33 (.app 1 8 (.t 30) (.t 32)) [6, 4, 5, 2, 3],
 ap 34 (.call 131 [(.t 27), (.t 33)]) [1, 7, 6, 4, 5, 2, 3]] [
 ap 35 (.app 1 24 (.t 26) (.t 34)) [0, 8, 1, 7, 6, 4, 5, 2, 3],
 ap 5 (.mv (.t 35)) [9, 0, 8, 1, 7, 6, 4, 5, 2, 3]]) [1, 2, 5, 6]) (.skip)))) (.region false [
 ao 20 (.mv (.t 6)),
 ao 21 (.bin .add (.t 20) (.c (i64 1))),
 ao 6 (.mv (.t 21))] [1, 2, 5, 6]))
def b131l0 : AC := .loop [1, 2, 5, 6] [32, 81] d131l0
/-- almadraba/almadrabaref05.crews -/
def b131 : AC :=
 .seq (.region false [
 ao 2 (.box (.t 0)),
 ao 4 (.mv (.c (.sl .full 1 [])))] [1, 2]) (.seq (.seq (.region false [
 ao 7 (.mv (.t 1)),
 ao 8 (.len (.t 7)),
 ao 9 (.faddr 2 (.t 2)),
 ao 10 (.load none (.t 9)),
 ao 11 (.len (.t 10)),
 ao 12 (.bin .eql (.t 8) (.t 11))] [1, 2, 12]) (.cond (.t 12) (.seq (.region false [
 ao 13 (.mv (.t 1)),
 ao 14 (.lit [(.sl .full 1 [])] 1 [(0, (.t 13))]),
 ao 4 (.mv (.t 14))] [4]) (.ret)) (.skip))) (.seq (.region false [
 ao 5 (.mv (.c (.sl .full 1 [])))] [1, 2, 5]) (.seq (.seq (.region false [
 ao 6 (.mv (.c (i64 0)))] [1, 2, 5, 6]) (.block 0 (.seq (.thaw 5 81 1) (b131l0)))) (.seq (.region false [
 ao 36 (.mv (.t 5)),
 ao 4 (.mv (.t 36))] [4]) (.ret)))))
def a131 : AFn := ⟨2, [.t 4], b131, false⟩
def n131 : Ann := ⟨[[1, 2], [1, 2, 12], [4], [1, 2, 5], [1, 2, 5, 6], [1, 2, 5, 6, 19], [1, 2, 5, 6, 25], [1, 2, 5, 6], [1, 2, 5, 6], [4]], [⟨[.t 5 81 1], [1, 2, 5, 6], [32, 81]⟩], [], [], [], false, []⟩
/-- almadraba/almadrabaref05.NeedsOf -/
@[simp] def d132l0 : AC :=
 .seq (.seq (.region false [
 ao 5 (.mv (.t 4)),
 ao 6 (.faddr 2 (.t 1)),
 ao 7 (.load none (.t 6)),
 ao 8 (.len (.t 7)),
 ao 9 (.bin .lss (.t 5) (.t 8))] [1, 3, 4, 9]) (.cond (.t 9) (.skip) (.exit 0))) (.seq (.block 1 (.region false [
 ao 12 (.mv (.t 3)),
 ao 13 (.load (some 4) (.t 1)),
 ao 14 (.mv (.t 4)),
 ao 15 (.call 156 [(.t 13), (.t 14)]),
 ao 16 (.lit [(i64 0)] 1 [(0, (.t 15))]),
 ao 17 (.app 1 8 (.t 12) (.t 16)),
 ao 3 (.mv (.t 17))] [1, 3, 4])) (.region false [
 ao 10 (.mv (.t 4)),
 ao 11 (.bin .add (.t 10) (.c (i64 1))),
 ao 4 (.mv (.t 11))] [1, 3, 4]))
def b132l0 : AC := .loop [1, 3, 4] [16, 49] d132l0
/-- almadraba/almadrabaref05.NeedsOf -/
def b132 : AC :=
 .seq (.region false [
 ao 1 (.box (.t 0)),
 ao 2 (.mv (.c (.sl .full 1 [])))] [1]) (.seq (.region false [
 ao 3 (.mv (.c (.sl .full 1 [])))] [1, 3]) (.seq (.seq (.region false [
 ao 4 (.mv (.c (i64 0)))] [1, 3, 4]) (.block 0 (.seq (.thaw 3 49 1) (b132l0)))) (.seq (.region false [
 ao 18 (.mv (.t 3)),
 ao 2 (.mv (.t 18))] [2]) (.ret))))
def a132 : AFn := ⟨1, [.t 2], b132, false⟩
def n132 : Ann := ⟨[[1], [1, 3], [1, 3, 4], [1, 3, 4, 9], [1, 3, 4], [1, 3, 4], [2]], [⟨[.t 3 49 1], [1, 3, 4], [16, 49]⟩], [], [], [], false, []⟩
/-- almadraba/almadrabaref05.Fits -/
@[simp] def d133l0 : AC :=
 .seq (.seq (.region false [
 ao 8 (.mv (.t 7)),
 ao 9 (.mv (.t 1)),
 ao 10 (.len (.t 9)),
 ao 11 (.bin .lss (.t 8) (.t 10))] [1, 2, 3, 7, 11]) (.cond (.t 11) (.skip) (.exit 0))) (.seq (.block 1 (.seq (.region true (spl [
 ao 14 (.faddr 3 (.t 3)),
 ap 15 (.load none (.t 14)) [0],
 ao 16 (.mv (.t 1)),
 ao 17 (.mv (.t 7)),
 ap 18 (.idxs 1 (.t 16) (.t 17)) [2, 3],
 ap 19 (.load none (.t 18)) [4, 2, 3],
 ap 20 (.idxs 2 (.t 15) (.t 19)) [1, 5, 0, 4, 2, 3],
 ap 21 (.faddr 0 (.t 20)) [6, 1, 5, 0, 4, 2, 3],
 ap 22 (.load none (.t 21)) [7, 6, 1, 5, 0, 4, 2, 3],
 ao 23 (.mv (.t 2)),
 ao 24 (.mv (.t 7)),
 ap 25 (.idxs 1 (.t 23) (.t 24)) [9, 10],
 ap 26 (.load none (.t 25)) [11, 9, 10]] [
 ap 27 (.bin .lss (.t 22) (.t 26)) [8, 12, 7, 6, 1, 5, 0, 4, 2, 3, 11, 9, 10]]) [1, 2, 3, 7, 27]) (.cond (.t 27) (.seq (.region false [
 ao 6 (.mv (.c (.bool false)))] [6]) (.ret)) (.skip)))) (.region false [
 ao 12 (.mv (.t 7)),
 ao 13 (.bin .add (.t 12) (.c (i64 1))),
 ao 7 (.mv (.t 13))] [1, 2, 3, 7]))
def b133l0 : AC := .loop [1, 2, 3, 7] [48] d133l0
/-- almadraba/almadrabaref05.Fits -/
def b133 : AC :=
 .seq (.region false [
 ao 3 (.box (.t 0)),
 ao 6 (.mv (.c (.bool false)))] [1, 2, 3]) (.seq (.seq (.region false [
 ao 7 (.mv (.c (i64 0)))] [1, 2, 3, 7]) (.block 0 (b133l0))) (.seq (.region false [
 ao 6 (.mv (.c (.bool true)))] [6]) (.ret)))
def a133 : AFn := ⟨3, [.t 6], b133, false⟩
def n133 : Ann := ⟨[[1, 2, 3], [1, 2, 3, 7], [1, 2, 3, 7, 11], [1, 2, 3, 7, 27], [6], [1, 2, 3, 7], [6]], [⟨[], [1, 2, 3, 7], [48]⟩], [], [], [], false, []⟩
/-- almadraba/almadrabaref05.CostOf -/
@[simp] def d134l0 : AC :=
 .seq (.seq (.region false [
 ao 7 (.mv (.t 6)),
 ao 8 (.mv (.t 1)),
 ao 9 (.len (.t 8)),
 ao 10 (.bin .lss (.t 7) (.t 9))] [1, 2, 5, 6, 10]) (.cond (.t 10) (.skip) (.exit 0))) (.seq (.block 1 (.region true (spl [
 ao 13 (.mv (.t 5)),
 ao 14 (.faddr 3 (.t 2)),
 ap 15 (.load none (.t 14)) [1],
 ao 16 (.mv (.t 1)),
 ao 17 (.mv (.t 6)),
 ap 18 (.idxs 1 (.t 16) (.t 17)) [3, 4],
 ap 19 (.load none (.t 18)) [5, 3, 4],
 ap 20 (.idxs 2 (.t 15) (.t 19)) [2, 6, 1, 5, 3, 4],
 ap 21 (.faddr 1 (.t 20)) [7, 2, 6, 1, 5, 3, 4],
 ap 22 (.load none (.t 21)) [8, 7, 2, 6, 1, 5, 3, 4]] [
 ap 23 (.bin .add (.t 13) (.t 22)) [0, 9, 8, 7, 2, 6, 1, 5, 3, 4],
 ap 5 (.mv (.t 23)) [10, 0, 9, 8, 7, 2, 6, 1, 5, 3, 4]]) [1, 2, 5, 6])) (.region false [
 ao 11 (.mv (.t 6)),
 ao 12 (.bin .add (.t 11) (.c (i64 1))),
 ao 6 (.mv (.t 12))] [1, 2, 5, 6]))
def b134l0 : AC := .loop [1, 2, 5, 6] [32] d134l0
/-- almadraba/almadrabaref05.CostOf -/
def b134 : AC :=
 .seq (.region false [
 ao 2 (.box (.t 0)),
 ao 4 (.mv (.c (i64 0)))] [1, 2]) (.seq (.region false [
 ao 5 (.mv (.c (i64 0)))] [1, 2, 5]) (.seq (.seq (.region false [
 ao 6 (.mv (.c (i64 0)))] [1, 2, 5, 6]) (.block 0 (b134l0))) (.seq (.region false [
 ao 24 (.mv (.t 5)),
 ao 4 (.mv (.t 24))] [4]) (.ret))))
def a134 : AFn := ⟨2, [.t 4], b134, false⟩
def n134 : Ann := ⟨[[1, 2], [1, 2, 5], [1, 2, 5, 6], [1, 2, 5, 6, 10], [1, 2, 5, 6], [1, 2, 5, 6], [4]], [⟨[], [1, 2, 5, 6], [32]⟩], [], [], [], false, []⟩
/-- slices.Index[[]int,int] -/
@[simp] def d135l0 : AC :=
 .seq (.region false [
 ao 9 (.bin .lss (.t 8) (.t 7))] [0, 1, 7, 8, 9]) (.seq (.cond (.t 9) (.skip) (.exit 0)) (.seq (.block 1 (.seq (.region false [
 ao 10 (.mv (.t 8)),
 ao 5 (.mv (.t 10))] [0, 1, 5, 7, 8]) (.seq (.region false [
 ao 11 (.mv (.t 1)),
 ao 12 (.mv (.t 0)),
 ao 13 (.mv (.t 5)),
 ao 14 (.idxs 1 (.t 12) (.t 13)),
 ao 15 (.load none (.t 14)),
 ao 16 (.bin .eql (.t 11) (.t 15))] [0, 1, 5, 7, 8, 16]) (.cond (.t 16) (.seq (.region false [
 ao 17 (.mv (.t 5)),
 ao 4 (.mv (.t 17))] [4]) (.ret)) (.skip))))) (.region false [
 ao 18 (.bin .add (.t 8) (.c (i64 1))),
 ao 8 (.mv (.t 18))] [0, 1, 7, 8])))
def b135l0 : AC := .loop [0, 1, 7, 8] [] d135l0
/-- slices.Index[[]int,int] -/
def b135 : AC :=
 .seq (.region false [
 ao 4 (.mv (.c (i64 0)))] [0, 1]) (.seq (.seq (.region false [
 ao 6 (.mv (.t 0)),
 ao 7 (.len (.t 6)),
 ao 8 (.mv (.c (i64 0)))] [0, 1, 7, 8]) (.block 0 (b135l0))) (.seq (.region false [
 ao 4 (.mv (.c (i64 (-1))))] [4]) (.ret)))
def a135 : AFn := ⟨2, [.t 4], b135, false⟩
def n135 : Ann := ⟨[[0, 1], [0, 1, 7, 8], [0, 1, 7, 8, 9], [0, 1, 5, 7, 8], [0, 1, 5, 7, 8, 16], [4], [0, 1, 7, 8], [4]], [⟨[], [0, 1, 7, 8], []⟩], [], [], [], false, []⟩
/-- slices.IndexFunc[[]int,int] -/
@[simp] def d147l0 : AC :=
 .seq (.region false [
 ao 9 (.bin .lss (.t 8) (.t 7))] [0, 1, 7, 8, 9]) (.seq (.cond (.t 9) (.skip) (.exit 0)) (.seq (.block 1 (.seq (.region false [
 ao 10 (.mv (.t 8)),
 ao 5 (.mv (.t 10))] [0, 1, 5, 7, 8]) (.seq (.region false [
 ao 11 (.mv (.t 1)),
 ao 12 (.mv (.t 0)),
 ao 13 (.mv (.t 5)),
 ao 14 (.idxs 1 (.t 12) (.t 13)),
 ao 15 (.load none (.t 14)),
 ao 16 (.callv (.t 11) [(.t 15)])] [0, 1, 5, 7, 8, 16]) (.cond (.t 16) (.seq (.region false [
 ao 17 (.mv (.t 5)),
 ao 4 (.mv (.t 17))] [4]) (.ret)) (.skip))))) (.region false [
 ao 18 (.bin .add (.t 8) (.c (i64 1))),
 ao 8 (.mv (.t 18))] [0, 1, 7, 8])))
def b147l0 : AC := .loop [0, 1, 7, 8] [] d147l0
/-- slices.IndexFunc[[]int,int] -/
def b147 : AC :=
 .seq (.region false [
 ao 4 (.mv (.c (i64 0)))] [0, 1]) (.seq (.seq (.region false [
 ao 6 (.mv (.t 0)),
 ao 7 (.len (.t 6)),
 ao 8 (.mv (.c (i64 0)))] [0, 1, 7, 8]) (.block 0 (b147l0))) (.seq (.region false [
 ao 4 (.mv (.c (i64 (-1))))] [4]) (.ret)))
def a147 : AFn := ⟨2, [.t 4], b147, false⟩
def n147 : Ann := ⟨[[0, 1], [0, 1, 7, 8], [0, 1, 7, 8, 9], [0, 1, 5, 7, 8], [0, 1, 5, 7, 8, 16], [4], [0, 1, 7, 8], [4]], [⟨[], [0, 1, 7, 8], []⟩], [], [], [], false, []⟩
/-- (almadraba/anchors.set).has -/
def b148 : AC :=
 .seq (.region false [
 ao 4 (.mv (.c (.bool false)))] [0, 1]) (.seq (.region false [
 ao 5 (.mv (.t 0)),
 ao 6 (.mv (.t 1)),
 ao 7 (.bin .shr (.t 5) (.t 6)),
 ao 8 (.bin .and (.t 7) (.c (.int .u64 1))),
 ao 9 (.bin .eql (.t 8) (.c (.int .u64 1))),
 ao 4 (.mv (.t 9))] [4]) (.ret))
def a148 : AFn := ⟨2, [.t 4], b148, false⟩
def n148 : Ann := ⟨[[0, 1], [4]], [], [], [], [], false, []⟩
/-- (almadraba/anchors.row).spare -/
def b149 : AC :=
 .seq (.region false [
 ao 3 (.box (.t 0)),
 ao 6 (.mv (.c (i64 0)))] [1, 2, 3]) (.seq (.region false [
 ao 8 (.faddr 0 (.t 3)),
 ao 9 (.faddr 5 (.t 8)),
 ao 10 (.load none (.t 9)),
 ao 11 (.mv (.t 1)),
 ao 12 (.idxs 2 (.t 10) (.t 11)),
 ao 13 (.load (some 2) (.t 12)),
 ao 7 (.alloc [(i64 0), (i64 0)]),
 ⟨none, .store 2 (.t 7) (.t 13), none, [], []⟩] [1, 2, 3, 7]) (.seq (.region true (spl [
 ao 14 (.faddr 0 (.t 7)),
 ap 15 (.load none (.t 14)) [0],
 ap 16 (.bin .mul (.c (i64 2)) (.t 15)) [1, 0],
 ao 17 (.faddr 7 (.t 3)),
 ap 18 (.faddr 2 (.t 17)) [3],
 ap 19 (.load none (.t 18)) [4, 3],
 ao 20 (.faddr 1 (.t 7)),
 ap 21 (.load none (.t 20)) [6],
 ap 22 (.idxs 1 (.t 19) (.t 21)) [5, 7, 4, 3, 6],
 ap 23 (.load none (.t 22)) [8, 5, 7, 4, 3, 6],
 ap 24 (.bin .mul (.t 16) (.t 23)) [2, 9, 1, 0, 8, 5, 7, 4, 3, 6],
 ao 25 (.load (some 10) (.t 3)),
 ao 26 (.mv (.t 1)),
 ao 27 (.mv (.t 2)),
 ap 28 (.call 163 [(.t 25), (.t 26), (.t 27)]) [11, 12, 13]] [
 ap 29 (.bin .sub (.t 24) (.t 28)) [10, 14, 2, 9, 1, 0, 8, 5, 7, 4, 3, 6, 11, 12, 13],
 ap 6 (.mv (.t 29)) [15, 10, 14, 2, 9, 1, 0, 8, 5, 7, 4, 3, 6, 11, 12, 13]]) [6]) (.ret)))
def a149 : AFn := ⟨3, [.t 6], b149, false⟩
def n149 : Ann := ⟨[[1, 2, 3], [1, 2, 3, 7], [6]], [], [], [], [], false, []⟩
/-- (almadraba/anchors.set).with -/
def b150 : AC :=
 .seq (.region false [
 ao 4 (.mv (.c (.int .u64 0)))] [0, 1]) (.seq (.region false [
 ao 5 (.mv (.t 0)),
 ao 6 (.mv (.t 1)),
 ao 7 (.bin .shl (.c (.int .u64 1)) (.t 6)),
 ao 8 (.bin .or (.t 5) (.t 7)),
 ao 4 (.mv (.t 8))] [4]) (.ret))
def a150 : AFn := ⟨2, [.t 4], b150, false⟩
def n150 : Ann := ⟨[[0, 1], [4]], [], [], [], [], false, []⟩
/-- (*almadraba/lifts.sea).crews -/
def b151 : AC :=
 .seq (.region false [
 ao 2 (.box (.t 0)),
 ao 3 (.box (.t 1))] [2, 3]) (.seq (.region false [
 ao 4 (.alloc [.nilf])] [2, 3, 4]) (.seq (.region false [
 ao 5 (.mkfn 164 [] [(.t 2), (.t 3), (.t 4)]),
 ⟨none, .store 1 (.t 4) (.t 5), none, [], []⟩] [4]) (.region false [
 ao 6 (.load none (.t 4)),
 ao 7 (.callv (.t 6) [(.c (.sl .full 1 []))])] [])))
def a151 : AFn := ⟨2, [], b151, false⟩
def n151 : Ann := ⟨[[2, 3], [2, 3, 4], [4], []], [], [], [], [], false, []⟩
/-- (*almadraba/lifts.sea).holds -/
@[simp] def d152l0 : AC :=
 .seq (.region false [
 ao 10 (.bin .lss (.t 9) (.t 8))] [0, 7, 8, 9, 10]) (.seq (.cond (.t 10) (.skip) (.exit 0)) (.seq (.block 1 (.seq (.region false [
 ao 11 (.mv (.t 9)),
 ao 12 (.idxs 1 (.t 7) (.t 9)),
 ao 13 (.load none (.t 12)),
 ao 5 (.mv (.t 11)),
 ao 6 (.mv (.t 13))] [0, 5, 6, 7, 8, 9]) (.seq (.region true (spl [
 ao 14 (.mv (.t 0)),
 ap 15 (.nilck (.t 14)) [0],
 ap 16 (.faddr 0 (.t 15)) [1, 0],
 ap 17 (.faddr 3 (.t 16)) [2, 1, 0],
 ap 18 (.load none (.t 17)) [3, 2, 1, 0],
 ao 19 (.mv (.t 6)),
 ap 20 (.idxs 2 (.t 18) (.t 19)) [4, 5, 3, 2, 1, 0],
 ap 21 (.faddr 0 (.t 20)) [6, 4, 5, 3, 2, 1, 0],
 ap 22 (.load none (.t 21)) [7, 6, 4, 5, 3, 2, 1, 0],
 ao 23 (.mv (.t 0)),
 ao 24 (.mv (.t 5)),
 ap 25 (.call 165 [(.t 23), (.t 24)]) [9, 10]] [
 ap 26 (.bin .lss (.t 22) (.t 25)) [8, 11, 7, 6, 4, 5, 3, 2, 1, 0, 9, 10]]) [0, 7, 8, 9, 26]) (.cond (.t 26) (.seq (.region false [
 ao 4 (.mv (.c (.bool false)))] [4]) (.ret)) (.skip))))) (.region false [
 ao 27 (.bin .add (.t 9) (.c (i64 1))),
 ao 9 (.mv (.t 27))] [0, 7, 8, 9])))
def b152l0 : AC := .loop [0, 7, 8, 9] [] d152l0
/-- (*almadraba/lifts.sea).holds -/
def b152 : AC :=
 .seq (.region false [
 ao 4 (.mv (.c (.bool false)))] [0, 1]) (.seq (.seq (.region false [
 ao 7 (.mv (.t 1)),
 ao 8 (.len (.t 7)),
 ao 9 (.mv (.c (i64 0)))] [0, 7, 8, 9]) (.block 0 (b152l0))) (.seq (.region false [
 ao 4 (.mv (.c (.bool true)))] [4]) (.ret)))
def a152 : AFn := ⟨2, [.t 4], b152, false⟩
def n152 : Ann := ⟨[[0, 1], [0, 7, 8, 9], [0, 7, 8, 9, 10], [0, 5, 6, 7, 8, 9], [0, 7, 8, 9, 26], [4], [0, 7, 8, 9], [4]], [⟨[], [0, 7, 8, 9], []⟩], [], [], [], false, []⟩
/-- almadraba/almadrabaref02.grips -/
@[simp] def d153l0 : AC :=
 .seq (.seq (.region false [
 ao 24 (.mv (.t 7)),
 ao 25 (.faddr 1 (.t 6)),
 ao 26 (.load none (.t 25)),
 ao 27 (.bin .leq (.t 24) (.t 26))] [1, 2, 5, 6, 7, 27]) (.cond (.t 27) (.skip) (.exit 0))) (.seq (.block 1 (.region true (spl [
 ao 30 (.mv (.t 5)),
 ao 31 (.load (some 7) (.t 2)),
 ao 32 (.lit [(i64 0)] 0 []),
 ao 33 (.mv (.t 1)),
 ap 34 (.app 1 8 (.t 32) (.t 33)) [2, 3],
 ao 35 (.mv (.t 7)),
 ap 36 (.lit [(i64 0)] 1 [(0, (.t 35))]) [5],
 ap 37 (.app 1 8 (.t 34) (.t 36)) [6, 4, 5, 2, 3],
 ap 38 (.call 153 [(.t 31), (.t 37)]) [1, 7, 6, 4, 5, 2, 3]] [
 ap 39 (.app 1 24 (.t 30) (.t 38)) [0, 8, 1, 7, 6, 4, 5, 2, 3],
 ap 5 (.mv (.t 39)) [9, 0, 8, 1, 7, 6, 4, 5, 2, 3]]) [1, 2, 5, 6, 7])) (.region false [
 ao 28 (.mv (.t 7)),
 ao 29 (.bin .add (.t 28) (.c (i64 1))),
 ao 7 (.mv (.t 29))] [1, 2, 5, 6, 7]))
def b153l0 : AC := .loop [1, 2, 5, 6, 7] [32, 81, 96] d153l0
/-- almadraba/almadrabaref02.grips -/
def b153 : AC :=
 .seq (.region false [
 ao 2 (.box (.t 0)),
 ao 4 (.mv (.c (.sl .full 1 [])))] [1, 2]) (.seq (.seq (.region false [
 ao 8 (.mv (.t 1)),
 ao 9 (.len (.t 8)),
 ao 10 (.faddr 4 (.t 2)),
 ao 11 (.load none (.t 10)),
 ao 12 (.len (.t 11)),
 ao 13 (.bin .eql (.t 9) (.t 12))] [1, 2, 13]) (.cond (.t 13) (.seq (.region false [
 ao 14 (.mv (.t 1)),
 ao 15 (.lit [(.sl .full 1 [])] 1 [(0, (.t 14))]),
 ao 4 (.mv (.t 15))] [4]) (.ret)) (.skip))) (.seq (.region false [
 ao 5 (.mv (.c (.sl .full 1 [])))] [1, 2, 5]) (.seq (.region false [
 ao 16 (.faddr 4 (.t 2)),
 ao 17 (.load none (.t 16)),
 ao 18 (.mv (.t 1)),
 ao 19 (.len (.t 18)),
 ao 20 (.idxs 2 (.t 17) (.t 19)),
 ao 21 (.load (some 2) (.t 20)),
 ao 6 (.alloc [(i64 0), (i64 0)]),
 ⟨none, .store 2 (.t 6) (.t 21), none, [], []⟩] [1, 2, 5, 6]) (.seq (.seq (.region false [
 ao 22 (.faddr 0 (.t 6)),
 ao 23 (.load none (.t 22)),
 ao 7 (.mv (.t 23))] [1, 2, 5, 6, 7]) (.block 0 (.seq (.thaw 5 81 1) (b153l0)))) (.seq (.region false [
 ao 40 (.mv (.t 5)),
 ao 4 (.mv (.t 40))] [4]) (.ret))))))
def a153 : AFn := ⟨2, [.t 4], b153, false⟩
def n153 : Ann := ⟨[[1, 2], [1, 2, 13], [4], [1, 2, 5], [1, 2, 5, 6], [1, 2, 5, 6, 7], [1, 2, 5, 6, 7, 27], [1, 2, 5, 6, 7], [1, 2, 5, 6, 7], [4]], [⟨[.t 5 81 1], [1, 2, 5, 6, 7], [32, 81, 96]⟩], [], [], [], false, []⟩
/-- almadraba/almadrabaref02.Bears -/
def b154 : AC :=
 .seq (.region false [
 ao 4 (.box (.t 0)),
 ao 5 (.box (.t 1)),
 ao 8 (.mv (.c (i64 0)))] [2, 3, 4, 5]) (.seq (.region false [
 ao 9 (.mv (.c (i64 0)))] [2, 3, 4, 5, 9]) (.seq (.seq (.region false [
 ao 10 (.mv (.t 2)),
 ao 11 (.bin .gtr (.t 10) (.c (i64 0)))] [2, 3, 4, 5, 9, 11]) (.cond (.t 11) (.seq (.region true (spl [
 ao 12 (.mv (.t 9)),
 ao 13 (.faddr 6 (.t 4)),
 ap 14 (.load none (.t 13)) [1],
 ao 15 (.mv (.t 2)),
 ap 16 (.bin .sub (.t 15) (.c (i64 1))) [3],
 ap 17 (.idxs 5 (.t 14) (.t 16)) [2, 4, 1, 3],
 ap 18 (.load (some 5) (.t 17)) [5, 2, 4, 1, 3],
 ao 19 (.faddr 0 (.t 5)),
 ap 20 (.load none (.t 19)) [7],
 ao 21 (.faddr 1 (.t 5)),
 ap 22 (.load none (.t 21)) [9],
 ap 23 (.call 166 [(.t 18), (.t 20), (.t 22)]) [6, 8, 10, 5, 2, 4, 1, 3, 7, 9]] [
 ap 24 (.bin .add (.t 12) (.t 23)) [0, 11, 6, 8, 10, 5, 2, 4, 1, 3, 7, 9],
 ap 9 (.mv (.t 24)) [12, 0, 11, 6, 8, 10, 5, 2, 4, 1, 3, 7, 9]]) [2, 3, 4, 5, 9]) (.seq (.region false [
 ao 25 (.mv (.t 3)),
 ao 26 (.mv (.t 2)),
 ao 27 (.bin .sub (.t 26) (.c (i64 1))),
 ao 28 (.call 44 [(.t 25), (.t 27)])] [2, 3, 4, 5, 9, 28]) (.cond (.t 28) (.region true (spl [
 ao 29 (.mv (.t 9)),
 ao 30 (.faddr 6 (.t 4)),
 ap 31 (.load none (.t 30)) [1],
 ao 32 (.mv (.t 2)),
 ap 33 (.bin .sub (.t 32) (.c (i64 1))) [3],
 ap 34 (.idxs 5 (.t 31) (.t 33)) [2, 4, 1, 3],
 ap 35 (.load (some 5) (.t 34)) [5, 2, 4, 1, 3],
 ao 36 (.faddr 0 (.t 5)),
 ap 37 (.load none (.t 36)) [7],
 ao 38 (.faddr 1 (.t 5)),
 ap 39 (.load none (.t 38)) [9],
 ap 40 (.call 166 [(.t 35), (.t 37), (.t 39)]) [6, 8, 10, 5, 2, 4, 1, 3, 7, 9]] [
 ap 41 (.bin .add (.t 29) (.t 40)) [0, 11, 6, 8, 10, 5, 2, 4, 1, 3, 7, 9],
 ap 9 (.mv (.t 41)) [12, 0, 11, 6, 8, 10, 5, 2, 4, 1, 3, 7, 9]]) [2, 3, 4, 5, 9]) (.skip)))) (.skip))) (.seq (.seq (.region false [
 ao 42 (.mv (.t 2)),
 ao 43 (.faddr 5 (.t 4)),
 ao 44 (.load none (.t 43)),
 ao 45 (.len (.t 44)),
 ao 46 (.bin .sub (.t 45) (.c (i64 1))),
 ao 47 (.bin .lss (.t 42) (.t 46))] [2, 3, 4, 5, 9, 47]) (.cond (.t 47) (.seq (.region true (spl [
 ao 48 (.mv (.t 9)),
 ao 49 (.faddr 6 (.t 4)),
 ap 50 (.load none (.t 49)) [1],
 ao 51 (.mv (.t 2)),
 ap 52 (.idxs 5 (.t 50) (.t 51)) [2, 3, 1],
 ap 53 (.load (some 5) (.t 52)) [4, 2, 3, 1],
 ao 54 (.faddr 0 (.t 5)),
 ap 55 (.load none (.t 54)) [6],
 ao 56 (.faddr 1 (.t 5)),
 ap 57 (.load none (.t 56)) [8],
 ap 58 (.call 166 [(.t 53), (.t 55), (.t 57)]) [5, 7, 9, 4, 2, 3, 1, 6, 8]] [
 ap 59 (.bin .add (.t 48) (.t 58)) [0, 10, 5, 7, 9, 4, 2, 3, 1, 6, 8],
 ap 9 (.mv (.t 59)) [11, 0, 10, 5, 7, 9, 4, 2, 3, 1, 6, 8]]) [2, 3, 4, 5, 9]) (.seq (.region false [
 ao 60 (.mv (.t 3)),
 ao 61 (.mv (.t 2)),
 ao 62 (.bin .add (.t 61) (.c (i64 1))),
 ao 63 (.call 44 [(.t 60), (.t 62)])] [2, 4, 5, 9, 63]) (.cond (.t 63) (.region true (spl [
 ao 64 (.mv (.t 9)),
 ao 65 (.faddr 6 (.t 4)),
 ap 66 (.load none (.t 65)) [1],
 ao 67 (.mv (.t 2)),
 ap 68 (.idxs 5 (.t 66) (.t 67)) [2, 3, 1],
 ap 69 (.load (some 5) (.t 68)) [4, 2, 3, 1],
 ao 70 (.faddr 0 (.t 5)),
 ap 71 (.load none (.t 70)) [6],
 ao 72 (.faddr 1 (.t 5)),
 ap 73 (.load none (.t 72)) [8],
 ap 74 (.call 166 [(.t 69), (.t 71), (.t 73)]) [5, 7, 9, 4, 2, 3, 1, 6, 8]] [
 ap 75 (.bin .add (.t 64) (.t 74)) [0, 10, 5, 7, 9, 4, 2, 3, 1, 6, 8],
 ap 9 (.mv (.t 75)) [11, 0, 10, 5, 7, 9, 4, 2, 3, 1, 6, 8]]) [9]) (.skip)))) (.skip))) (.seq (.region false [
 ao 76 (.mv (.t 9)),
 ao 8 (.mv (.t 76))] [8]) (.ret)))))
def a154 : AFn := ⟨4, [.t 8], b154, false⟩
def n154 : Ann := ⟨[[2, 3, 4, 5], [2, 3, 4, 5, 9], [2, 3, 4, 5, 9, 11], [2, 3, 4, 5, 9], [2, 3, 4, 5, 9, 28], [2, 3, 4, 5, 9], [2, 3, 4, 5, 9, 47], [2, 3, 4, 5, 9], [2, 4, 5, 9, 63], [9], [8]], [], [], [], [], false, []⟩
/-- almadraba/almadrabaref02.Can -/
def b155 : AC :=
 .seq (.region false [
 ao 3 (.box (.t 0)),
 ao 4 (.box (.t 1)),
 ao 6 (.mv (.c (i64 0)))] [2, 3, 4]) (.seq (.region true (spl [
 ao 7 (.faddr 5 (.t 3)),
 ap 8 (.load none (.t 7)) [0],
 ao 9 (.mv (.t 2)),
 ap 10 (.idxs 2 (.t 8) (.t 9)) [1, 2, 0],
 ap 11 (.faddr 0 (.t 10)) [3, 1, 2, 0],
 ap 12 (.load none (.t 11)) [4, 3, 1, 2, 0],
 ap 13 (.bin .mul (.c (i64 2)) (.t 12)) [5, 4, 3, 1, 2, 0],
 ao 14 (.faddr 2 (.t 4)),
 ap 15 (.load none (.t 14)) [7],
 ao 16 (.faddr 5 (.t 3)),
 ap 17 (.load none (.t 16)) [9],
 ao 18 (.mv (.t 2)),
 ap 19 (.idxs 2 (.t 17) (.t 18)) [10, 11, 9],
 ap 20 (.faddr 1 (.t 19)) [12, 10, 11, 9],
 ap 21 (.load none (.t 20)) [13, 12, 10, 11, 9],
 ap 22 (.idxs 1 (.t 15) (.t 21)) [8, 14, 7, 13, 12, 10, 11, 9],
 ap 23 (.load none (.t 22)) [15, 8, 14, 7, 13, 12, 10, 11, 9]] [
 ap 24 (.bin .mul (.t 13) (.t 23)) [6, 16, 5, 4, 3, 1, 2, 0, 15, 8, 14, 7, 13, 12, 10, 11, 9],
 ap 6 (.mv (.t 24)) [17, 6, 16, 5, 4, 3, 1, 2, 0, 15, 8, 14, 7, 13, 12, 10, 11, 9]]) [6]) (.ret))
def a155 : AFn := ⟨3, [.t 6], b155, false⟩
def n155 : Ann := ⟨[[2, 3, 4], [6]], [], [], [], [], false, []⟩
/-- almadraba/almadrabaref05.NeedOf -/
@[simp] def d156l0 : AC :=
 .seq (.seq (.region true (spl [
 ao 6 (.mv (.t 5)),
 ap 7 (.bin .mul (.c (i64 12)) (.t 6)) [0],
 ao 8 (.faddr 0 (.t 2)),
 ap 9 (.faddr 1 (.t 8)) [2],
 ap 10 (.load none (.t 9)) [3, 2],
 ao 11 (.load (some 4) (.t 2)),
 ao 12 (.mv (.t 1)),
 ap 13 (.call 167 [(.t 11), (.t 12)]) [5, 6],
 ap 14 (.field none 1 (.t 13)) [7, 5, 6],
 ap 15 (.bin .mul (.t 10) (.t 14)) [4, 8, 3, 2, 7, 5, 6]] [
 ap 16 (.bin .lss (.t 7) (.t 15)) [1, 9, 0, 4, 8, 3, 2, 7, 5, 6]]) [1, 2, 5, 16]) (.cond (.t 16) (.skip) (.exit 0))) (.block 1 (.region false [
 ao 17 (.mv (.t 5)),
 ao 18 (.bin .add (.t 17) (.c (i64 1))),
 ao 5 (.mv (.t 18))] [1, 2, 5]))
def b156l0 : AC := .loop [1, 2, 5] [32] d156l0
/-- almadraba/almadrabaref05.NeedOf -/
def b156 : AC :=
 .seq (.region false [
 ao 2 (.box (.t 0)),
 ao 4 (.mv (.c (i64 0)))] [1, 2]) (.seq (.region false [
 ao 5 (.mv (.c (i64 0)))] [1, 2, 5]) (.seq (.block 0 (b156l0)) (.seq (.region false [
 ao 19 (.mv (.t 5)),
 ao 4 (.mv (.t 19))] [4]) (.ret))))
def a156 : AFn := ⟨2, [.t 4], b156, false⟩
def n156 : Ann := ⟨[[1, 2], [1, 2, 5], [1, 2, 5, 16], [1, 2, 5], [4]], [⟨[], [1, 2, 5], [32]⟩], [], [], [], false, []⟩
/-- (almadraba/anchors.row).bears -/
def b163 : AC :=
 .seq (.region false [
 ao 3 (.box (.t 0)),
 ao 5 (.box (.t 2)),
 ao 6 (.mv (.c (i64 0)))] [1, 3, 5]) (.seq (.region false [
 ao 7 (.alloc [(i64 0)]),
 ⟨none, .store 1 (.t 7) (.c (i64 0)), none, [], []⟩] [1, 3, 5, 7]) (.seq (.region false [
 ao 9 (.mkfn 169 [] [(.t 3), (.t 5), (.t 7)]),
 ao 8 (.mv (.t 9))] [1, 7, 8]) (.seq (.region false [
 ao 10 (.mv (.t 8)),
 ao 11 (.mv (.t 1)),
 ao 12 (.bin .sub (.t 11) (.c (i64 1))),
 ao 13 (.mv (.t 1)),
 ao 14 (.bin .sub (.t 13) (.c (i64 1))),
 ao 15 (.callv (.t 10) [(.t 12), (.t 14)])] [1, 7, 8]) (.seq (.region false [
 ao 16 (.mv (.t 8)),
 ao 17 (.mv (.t 1)),
 ao 18 (.mv (.t 1)),
 ao 19 (.bin .add (.t 18) (.c (i64 1))),
 ao 20 (.callv (.t 16) [(.t 17), (.t 19)])] [7]) (.seq (.region false [
 ao 21 (.load none (.t 7)),
 ao 6 (.mv (.t 21))] [6]) (.ret))))))
def a163 : AFn := ⟨3, [.t 6], b163, false⟩
def n163 : Ann := ⟨[[1, 3, 5], [1, 3, 5, 7], [1, 7, 8], [1, 7, 8], [7], [6]], [], [], [], [], false, []⟩
/-- (*almadraba/lifts.sea).crews$1 -/
@[simp] def d164l0 : AC :=
 .seq (.region false [
 ao 26 (.bin .lss (.t 25) (.t 24))] [0, 3, 24, 25, 26]) (.seq (.cond (.t 26) (.skip) (.exit 0)) (.seq (.block 1 (.seq (.region false [
 ao 27 (.mv (.t 25)),
 ao 6 (.mv (.t 27))] [0, 3, 6, 24, 25]) (.seq (.region true (spl [
 ao 28 (.mv (.t 0)),
 ao 29 (.mv (.t 6)),
 ap 30 (.call 115 [(.t 28), (.t 29)]) [0, 1],
 ap 31 (.un .not (.t 30)) [2, 0, 1],
 ap 32 (.mv (.t 31)) [3, 2, 0, 1],
 ag 33 (.load none (.t 3)) 32 true [4, 3, 2, 0, 1],
 ag 34 (.mv (.t 0)) 32 true [4, 3, 2, 0, 1],
 ag 35 (.mv (.t 0)) 32 true [4, 3, 2, 0, 1],
 ag 36 (.len (.t 35)) 32 true [7, 4, 3, 2, 0, 1],
 ag 37 (.mv (.t 0)) 32 true [4, 3, 2, 0, 1],
 ag 38 (.len (.t 37)) 32 true [9, 4, 3, 2, 0, 1],
 ag 39 (.slice 1 (.t 34) none (some (.t 36)) (some (.t 38))) 32 true [6, 8, 10, 7, 9, 4, 3, 2, 0, 1],
 ag 40 (.mv (.t 6)) 32 true [4, 3, 2, 0, 1],
 ag 41 (.lit [(i64 0)] 1 [(0, (.t 40))]) 32 true [12, 4, 3, 2, 0, 1],
 ag 42 (.app 1 8 (.t 39) (.t 41)) 32 true [11, 13, 6, 8, 10, 7, 9, 12, 4, 3, 2, 0, 1]] [
 ag 43 (.callv (.t 33) [(.t 42)]) 32 true [5, 14, 11, 13, 6, 8, 10, 7, 9, 12, 4, 3, 2, 0, 1],
 ag 44 (.un .not (.t 43)) 32 true [15, 5, 14, 11, 13, 6, 8, 10, 7, 9, 12, 4, 3, 2, 0, 1],
 ap 45 (.pick (.t 32) (.t 44) (.c (.bool false))) [16, 15, 5, 14, 11, 13, 6, 8, 10, 7, 9, 12, 4, 3, 2, 0, 1]]) [0, 3, 24, 25, 45]) (.cond (.t 45) (.seq (.region false [
 ao 5 (.mv (.c (.bool false)))] [5]) (.ret)) (.skip))))) (.region false [
 ao 46 (.bin .add (.t 25) (.c (i64 1))),
 ao 25 (.mv (.t 46))] [0, 3, 24, 25])))
def b164l0 : AC := .loop [0, 3, 24, 25] [288] d164l0
/-- (*almadraba/lifts.sea).crews$1 -/
def b164 : AC :=
 .seq (.region false [
 ao 5 (.mv (.c (.bool false)))] [0, 1, 2, 3]) (.seq (.seq (.region false [
 ao 7 (.mv (.t 0)),
 ao 8 (.len (.t 7)),
 ao 9 (.load none (.t 1)),
 ao 10 (.nilck (.t 9)),
 ao 11 (.faddr 0 (.t 10)),
 ao 12 (.faddr 2 (.t 11)),
 ao 13 (.load none (.t 12)),
 ao 14 (.len (.t 13)),
 ao 15 (.bin .eql (.t 8) (.t 14))] [0, 1, 2, 3, 15]) (.cond (.t 15) (.seq (.region false [
 ao 16 (.load none (.t 2)),
 ao 17 (.mv (.t 0)),
 ao 18 (.callv (.t 16) [(.t 17)]),
 ao 5 (.mv (.t 18))] [5]) (.ret)) (.skip))) (.seq (.seq (.region false [
 ao 19 (.load none (.t 1)),
 ao 20 (.nilck (.t 19)),
 ao 21 (.faddr 0 (.t 20)),
 ao 22 (.faddr 3 (.t 21)),
 ao 23 (.load none (.t 22)),
 ao 24 (.len (.t 23)),
 ao 25 (.mv (.c (i64 0)))] [0, 3, 24, 25]) (.block 0 (b164l0))) (.seq (.region false [
 ao 5 (.mv (.c (.bool true)))] [5]) (.ret))))
def a164 : AFn := ⟨4, [.t 5], b164, false⟩
def n164 : Ann := ⟨[[0, 1, 2, 3], [0, 1, 2, 3, 15], [5], [0, 3, 24, 25], [0, 3, 24, 25, 26], [0, 3, 6, 24, 25], [0, 3, 24, 25, 45], [5], [0, 3, 24, 25], [5]], [⟨[], [0, 3, 24, 25], [288]⟩], [], [], [], false, []⟩
/-- (*almadraba/lifts.sea).need -/
def b165 : AC :=
 .seq (.region false [
 ao 4 (.mv (.c (i64 0)))] [0, 1]) (.seq (.region true (spl [
 ao 5 (.mv (.t 0)),
 ap 6 (.nilck (.t 5)) [0],
 ap 7 (.faddr 0 (.t 6)) [1, 0],
 ap 8 (.faddr 0 (.t 7)) [2, 1, 0],
 ap 9 (.faddr 1 (.t 8)) [3, 2, 1, 0],
 ap 10 (.load none (.t 9)) [4, 3, 2, 1, 0],
 ao 11 (.mv (.t 0)),
 ao 12 (.mv (.t 1)),
 ap 13 (.nilck (.t 11)) [6],
 ap 14 (.faddr 4 (.t 13)) [8, 6],
 ap 15 (.idxa 4 2 (.t 14) (.t 12)) [9, 7, 8, 6],
 ap 16 (.faddr 1 (.t 15)) [10, 9, 7, 8, 6],
 ap 17 (.load none (.t 16)) [11, 10, 9, 7, 8, 6]] [
 ap 18 (.bin .mul (.t 10) (.t 17)) [5, 12, 4, 3, 2, 1, 0, 11, 10, 9, 7, 8, 6],
 ap 19 (.bin .add (.t 18) (.c (i64 12))) [13, 5, 12, 4, 3, 2, 1, 0, 11, 10, 9, 7, 8, 6],
 ap 20 (.bin .sub (.t 19) (.c (i64 1))) [14, 13, 5, 12, 4, 3, 2, 1, 0, 11, 10, 9, 7, 8, 6],
 ap 21 (.bin .quo (.t 20) (.c (i64 12))) [15, 14, 13, 5, 12, 4, 3, 2, 1, 0, 11, 10, 9, 7, 8, 6],
 ap 4 (.mv (.t 21)) [16, 15, 14, 13, 5, 12, 4, 3, 2, 1, 0, 11, 10, 9, 7, 8, 6]]) [4]) (.ret))
def a165 : AFn := ⟨2, [.t 4], b165, false⟩
def n165 : Ann := ⟨[[0, 1], [4]], [], [], [], [], false, []⟩
/-- almadraba/almadrabaref02.LoadOf -/
def b166 : AC :=
 .seq (.region false [
 ao 3 (.box (.t 0)),
 ao 6 (.mv (.c (i64 0)))] [1, 2, 3]) (.seq (.region false [
 ao 7 (.faddr 0 (.t 3)),
 ao 8 (.load none (.t 7)),
 ao 9 (.mv (.t 1)),
 ao 10 (.bin .mul (.t 8) (.t 9)),
 ao 11 (.faddr 1 (.t 3)),
 ao 12 (.load none (.t 11)),
 ao 13 (.mv (.t 2)),
 ao 14 (.bin .mul (.t 12) (.t 13)),
 ao 15 (.bin .add (.t 10) (.t 14)),
 ao 6 (.mv (.t 15))] [6]) (.ret))
def a166 : AFn := ⟨3, [.t 6], b166, false⟩
def n166 : Ann := ⟨[[1, 2, 3], [6]], [], [], [], [], false, []⟩
/-- almadraba/almadrabaref05.ShareOf -/
@[simp] def d167l0 : AC :=
 .seq (.seq (.region false [
 ao 23 (.mv (.t 7)),
 ao 24 (.mv (.t 5)),
 ao 25 (.len (.t 24)),
 ao 26 (.bin .lss (.t 23) (.t 25))] [1, 4, 5, 6, 7, 26]) (.cond (.t 26) (.skip) (.exit 0))) (.seq (.block 1 (.region true (spl [
 ao 29 (.faddr 0 (.t 6)),
 ap 30 (.load none (.t 29)) [0],
 ao 31 (.mv (.t 5)),
 ao 32 (.mv (.t 7)),
 ap 33 (.idxs 1 (.t 31) (.t 32)) [2, 3],
 ap 34 (.load none (.t 33)) [4, 2, 3],
 ao 35 (.mv (.t 1)),
 ap 36 (.idxs 1 (.t 34) (.t 35)) [5, 6, 4, 2, 3],
 ap 37 (.load none (.t 36)) [7, 5, 6, 4, 2, 3],
 ap 38 (.mm false (.t 30) (.t 37)) [1, 8, 0, 7, 5, 6, 4, 2, 3],
 ao 39 (.faddr 1 (.t 6)),
 ap 40 (.load none (.t 39)) [10],
 ao 41 (.mv (.t 5)),
 ao 42 (.mv (.t 7)),
 ap 43 (.idxs 1 (.t 41) (.t 42)) [12, 13],
 ap 44 (.load none (.t 43)) [14, 12, 13],
 ao 45 (.mv (.t 1)),
 ap 46 (.idxs 1 (.t 44) (.t 45)) [15, 16, 14, 12, 13],
 ap 47 (.load none (.t 46)) [17, 15, 16, 14, 12, 13],
 ap 48 (.mm true (.t 40) (.t 47)) [11, 18, 10, 17, 15, 16, 14, 12, 13]] [
 ap 49 (.build [(i64 0), (i64 0)] [(0, 1, (.t 38)), (1, 1, (.t 48))]) [9, 19, 1, 8, 0, 7, 5, 6, 4, 2, 3, 11, 18, 10, 17, 15, 16, 14, 12, 13],
 ⟨none, .store 2 (.t 6) (.t 49), none, [20, 9, 19, 1, 8, 0, 7, 5, 6, 4, 2, 3, 11, 18, 10, 17, 15, 16, 14, 12, 13], []⟩]) [1, 4, 5, 6, 7])) (.region false [
 ao 27 (.mv (.t 7)),
 ao 28 (.bin .add (.t 27) (.c (i64 1))),
 ao 7 (.mv (.t 28))] [1, 4, 5, 6, 7]))
def b167l0 : AC := .loop [1, 4, 5, 6, 7] [32, 64, 96, 144] d167l0
/-- almadraba/almadrabaref05.ShareOf -/
def b167 : AC :=
 .seq (.region false [
 ao 2 (.box (.t 0)),
 ao 4 (.alloc [(i64 0), (i64 0)])] [1, 2, 4]) (.seq (.region false [
 ao 8 (.load (some 4) (.t 2)),
 ao 9 (.call 171 [(.t 8), (.c (.sl .full 1 []))]),
 ao 5 (.mv (.t 9))] [1, 4, 5]) (.seq (.region true (spl [
 ao 10 (.mv (.t 5)),
 ap 11 (.idxs 1 (.t 10) (.c (i64 0))) [0],
 ap 12 (.load none (.t 11)) [1, 0],
 ao 13 (.mv (.t 1)),
 ap 14 (.idxs 1 (.t 12) (.t 13)) [2, 3, 1, 0],
 ap 15 (.load none (.t 14)) [4, 2, 3, 1, 0],
 ao 16 (.mv (.t 5)),
 ap 17 (.idxs 1 (.t 16) (.c (i64 0))) [6],
 ap 18 (.load none (.t 17)) [7, 6],
 ao 19 (.mv (.t 1)),
 ap 20 (.idxs 1 (.t 18) (.t 19)) [8, 9, 7, 6],
 ap 21 (.load none (.t 20)) [10, 8, 9, 7, 6],
 ap 22 (.build [(i64 0), (i64 0)] [(0, 1, (.t 15)), (1, 1, (.t 21))]) [5, 11, 4, 2, 3, 1, 0, 10, 8, 9, 7, 6],
 ao 6 (.alloc [(i64 0), (i64 0)])] [
 ⟨none, .store 2 (.t 6) (.t 22), none, [12, 13, 5, 11, 4, 2, 3, 1, 0, 10, 8, 9, 7, 6], []⟩]) [1, 4, 5, 6]) (.seq (.seq (.region false [
 ao 7 (.mv (.c (i64 0)))] [1, 4, 5, 6, 7]) (.block 0 (b167l0))) (.seq (.region false [
 ao 50 (.load (some 2) (.t 6)),
 ⟨none, .store 2 (.t 4) (.t 50), none, [], []⟩] [4]) (.ret)))))
def a167 : AFn := ⟨2, [.cell 4 (some 2)], b167, false⟩
def n167 : Ann := ⟨[[1, 2, 4], [1, 4, 5], [1, 4, 5, 6], [1, 4, 5, 6, 7], [1, 4, 5, 6, 7, 26], [1, 4, 5, 6, 7], [1, 4, 5, 6, 7], [4]], [⟨[], [1, 4, 5, 6, 7], [32, 64, 96, 144]⟩], [], [], [], false, [(41, 144), (31, 144), (24, 144), (16, 144), (10, 144), (5, 144)]⟩
/-- (almadraba/anchors.row).bears$1 -/
def b169 : AC :=
 .seq (.seq (.region false [
 ao 8 (.mv (.t 0)),
 ao 9 (.bin .lss (.t 8) (.c (i64 0))),
 ao 10 (.mv (.t 9)),
 ag 11 (.mv (.t 0)) 10 false [],
 ag 12 (.faddr 0 (.t 2)) 10 false [],
 ag 13 (.faddr 6 (.t 12)) 10 false [],
 ag 14 (.load none (.t 13)) 10 false [],
 ag 15 (.len (.t 14)) 10 false [],
 ag 16 (.bin .geq (.t 11) (.t 15)) 10 false [],
 ao 17 (.pick (.t 10) (.c (.bool true)) (.t 16))] [0, 1, 2, 3, 4, 17]) (.cond (.t 17) (.ret) (.skip))) (.seq (.region true (spl [
 ao 18 (.faddr 0 (.t 2)),
 ap 19 (.faddr 6 (.t 18)) [0],
 ap 20 (.load none (.t 19)) [1, 0],
 ao 21 (.mv (.t 0)),
 ap 22 (.idxs 5 (.t 20) (.t 21)) [2, 3, 1, 0],
 ap 23 (.load (some 5) (.t 22)) [4, 2, 3, 1, 0],
 ao 24 (.faddr 7 (.t 2)),
 ap 25 (.faddr 0 (.t 24)) [6],
 ap 26 (.load none (.t 25)) [7, 6],
 ao 27 (.faddr 7 (.t 2)),
 ap 28 (.faddr 1 (.t 27)) [9],
 ap 29 (.load none (.t 28)) [10, 9]] [
 ap 30 (.call 170 [(.t 23), (.t 26), (.t 29)]) [5, 8, 11, 4, 2, 3, 1, 0, 7, 6, 10, 9],
 ap 7 (.mv (.t 30)) [12, 5, 8, 11, 4, 2, 3, 1, 0, 7, 6, 10, 9]]) [1, 3, 4, 7]) (.seq (.seq (.region false [
 ao 31 (.load none (.t 3)),
 ao 32 (.mv (.t 1)),
 ao 33 (.call 148 [(.t 31), (.t 32)])] [4, 7, 33]) (.cond (.t 33) (.region false [
 ao 34 (.mv (.t 7)),
 ao 35 (.bin .mul (.t 34) (.c (i64 2))),
 ao 7 (.mv (.t 35))] [4, 7]) (.skip))) (.region false [
 ao 36 (.load none (.t 4)),
 ao 37 (.mv (.t 7)),
 ao 38 (.bin .add (.t 36) (.t 37)),
 ⟨none, .store 1 (.t 4) (.t 38), none, [], []⟩] [])))
def a169 : AFn := ⟨5, [], b169, false⟩
def n169 : Ann := ⟨[[0, 1, 2, 3, 4, 17], [1, 3, 4, 7], [4, 7, 33], [4, 7], []], [], [], [], [], false, [(37, 480), (34, 480), (7, 480)]⟩
/-- almadraba/anchors.load -/
def b170 : AC :=
 .seq (.region false [
 ao 3 (.box (.t 0)),
 ao 6 (.mv (.c (i64 0)))] [1, 2, 3]) (.seq (.region false [
 ao 7 (.faddr 0 (.t 3)),
 ao 8 (.load none (.t 7)),
 ao 9 (.mv (.t 1)),
 ao 10 (.bin .mul (.t 8) (.t 9)),
 ao 11 (.faddr 1 (.t 3)),
 ao 12 (.load none (.t 11)),
 ao 13 (.mv (.t 2)),
 ao 14 (.bin .mul (.t 12) (.t 13)),
 ao 15 (.bin .add (.t 10) (.t 14)),
 ao 6 (.mv (.t 15))] [6]) (.ret))
def a170 : AFn := ⟨3, [.t 6], b170, false⟩
def n170 : Ann := ⟨[[1, 2, 3], [6]], [], [], [], [], false, []⟩
/-- almadraba/almadrabaref05.partings -/
@[simp] def d171l0 : AC :=
 .seq (.seq (.region false [
 ao 27 (.mv (.t 7)),
 ao 28 (.faddr 1 (.t 6)),
 ao 29 (.load none (.t 28)),
 ao 30 (.bin .leq (.t 27) (.t 29))] [1, 2, 5, 6, 7, 30]) (.cond (.t 30) (.skip) (.exit 0))) (.seq (.block 1 (.region true (spl [
 ao 33 (.mv (.t 5)),
 ao 34 (.load (some 4) (.t 2)),
 ao 35 (.lit [(i64 0)] 0 []),
 ao 36 (.mv (.t 1)),
 ap 37 (.app 1 8 (.t 35) (.t 36)) [2, 3],
 ao 38 (.mv (.t 7)),
 ap 39 (.lit [(i64 0)] 1 [(0, (.t 38))]) [5],
 ap 40 (.app 1 8 (.t 37) (.t 39)) [6, 4, 5, 2, 3],
 ap 41 (.call 171 [(.t 34), (.t 40)]) [1, 7, 6, 4, 5, 2, 3]] [
 ap 42 (.app 1 24 (.t 33) (.t 41)) [0, 8, 1, 7, 6, 4, 5, 2, 3],
 ap 5 (.mv (.t 42)) [9, 0, 8, 1, 7, 6, 4, 5, 2, 3]]) [1, 2, 5, 6, 7])) (.region false [
 ao 31 (.mv (.t 7)),
 ao 32 (.bin .add (.t 31) (.c (i64 1))),
 ao 7 (.mv (.t 32))] [1, 2, 5, 6, 7]))
def b171l0 : AC := .loop [1, 2, 5, 6, 7] [32, 81, 96, 256] d171l0
/-- almadraba/almadrabaref05.partings -/
def b171 : AC :=
 .seq (.region false [
 ao 2 (.box (.t 0)),
 ao 4 (.mv (.c (.sl .full 1 [])))] [1, 2]) (.seq (.seq (.region false [
 ao 8 (.mv (.t 1)),
 ao 9 (.len (.t 8)),
 ao 10 (.faddr 2 (.t 2)),
 ao 11 (.load none (.t 10)),
 ao 12 (.len (.t 11)),
 ao 13 (.bin .eql (.t 9) (.t 12))] [1, 2, 13]) (.cond (.t 13) (.seq (.seq (.region false [
 ao 14 (.load (some 4) (.t 2)),
 ao 15 (.mv (.t 1)),
 ao 16 (.call 172 [(.t 14), (.t 15)])] [1, 16]) (.cond (.t 16) (.seq (.region false [
 ao 17 (.mv (.t 1)),
 ao 18 (.lit [(.sl .full 1 [])] 1 [(0, (.t 17))]),
 ao 4 (.mv (.t 18))] [4]) (.ret)) (.skip))) (.seq (.region false [
 ao 4 (.mv (.c (.sl .full 1 [])))] [4]) (.ret))) (.skip))) (.seq (.region false [
 ao 5 (.mv (.c (.sl .full 1 [])))] [1, 2, 5]) (.seq (.region false [
 ao 19 (.faddr 2 (.t 2)),
 ao 20 (.load none (.t 19)),
 ao 21 (.mv (.t 1)),
 ao 22 (.len (.t 21)),
 ao 23 (.idxs 2 (.t 20) (.t 22)),
 ao 24 (.load (some 2) (.t 23)),
 ao 6 (.alloc [(i64 0), (i64 0)]),
 ⟨none, .store 2 (.t 6) (.t 24), none, [], []⟩] [1, 2, 5, 6]) (.seq (.seq (.region false [
 ao 25 (.faddr 0 (.t 6)),
 ao 26 (.load none (.t 25)),
 ao 7 (.mv (.t 26))] [1, 2, 5, 6, 7]) (.block 0 (.seq (.thaw 5 81 1) (b171l0)))) (.seq (.region false [
 ao 43 (.mv (.t 5)),
 ao 4 (.mv (.t 43))] [4]) (.ret))))))
def a171 : AFn := ⟨2, [.t 4], b171, false⟩
def n171 : Ann := ⟨[[1, 2], [1, 2, 13], [1, 16], [4], [4], [1, 2, 5], [1, 2, 5, 6], [1, 2, 5, 6, 7], [1, 2, 5, 6, 7, 30], [1, 2, 5, 6, 7], [1, 2, 5, 6, 7], [4]], [⟨[.t 5 81 1], [1, 2, 5, 6, 7], [32, 81, 96, 256]⟩], [], [], [], false, []⟩
/-- almadraba/almadrabaref05.AreParts -/
@[simp] def d172l0 : AC :=
 .seq (.seq (.region false [
 ao 12 (.mv (.t 5)),
 ao 13 (.mv (.t 1)),
 ao 14 (.len (.t 13)),
 ao 15 (.bin .lss (.t 12) (.t 14))] [1, 2, 5, 15]) (.cond (.t 15) (.skip) (.exit 0))) (.seq (.block 1 (.seq (.region true (spl [
 ao 18 (.mv (.t 1)),
 ao 19 (.mv (.t 5)),
 ap 20 (.idxs 1 (.t 18) (.t 19)) [0, 1],
 ap 21 (.load none (.t 20)) [2, 0, 1],
 ao 22 (.faddr 2 (.t 2)),
 ap 23 (.load none (.t 22)) [4],
 ao 24 (.mv (.t 5)),
 ap 25 (.idxs 2 (.t 23) (.t 24)) [5, 6, 4],
 ap 26 (.faddr 0 (.t 25)) [7, 5, 6, 4],
 ap 27 (.load none (.t 26)) [8, 7, 5, 6, 4],
 ao 28 (.faddr 2 (.t 2)),
 ap 29 (.load none (.t 28)) [10],
 ao 30 (.mv (.t 5)),
 ap 31 (.idxs 2 (.t 29) (.t 30)) [11, 12, 10],
 ap 32 (.faddr 1 (.t 31)) [13, 11, 12, 10],
 ap 33 (.load none (.t 32)) [14, 13, 11, 12, 10]] [
 ap 34 (.call 106 [(.t 21), (.t 27), (.t 33)]) [3, 9, 15, 2, 0, 1, 8, 7, 5, 6, 4, 14, 13, 11, 12, 10],
 ap 35 (.un .not (.t 34)) [16, 3, 9, 15, 2, 0, 1, 8, 7, 5, 6, 4, 14, 13, 11, 12, 10]]) [1, 2, 5, 35]) (.cond (.t 35) (.seq (.region false [
 ao 4 (.mv (.c (.bool false)))] [4]) (.ret)) (.skip)))) (.region false [
 ao 16 (.mv (.t 5)),
 ao 17 (.bin .add (.t 16) (.c (i64 1))),
 ao 5 (.mv (.t 17))] [1, 2, 5]))
def b172l0 : AC := .loop [1, 2, 5] [32, 592] d172l0
/-- almadraba/almadrabaref05.AreParts -/
def b172 : AC :=
 .seq (.region false [
 ao 2 (.box (.t 0)),
 ao 4 (.mv (.c (.bool false)))] [1, 2]) (.seq (.seq (.region false [
 ao 6 (.mv (.t 1)),
 ao 7 (.len (.t 6)),
 ao 8 (.faddr 2 (.t 2)),
 ao 9 (.load none (.t 8)),
 ao 10 (.len (.t 9)),
 ao 11 (.bin .neq (.t 7) (.t 10))] [1, 2, 11]) (.cond (.t 11) (.seq (.region false [
 ao 4 (.mv (.c (.bool false)))] [4]) (.ret)) (.skip))) (.seq (.seq (.region false [
 ao 5 (.mv (.c (i64 0)))] [1, 2, 5]) (.block 0 (b172l0))) (.seq (.region false [
 ao 36 (.mv (.t 1)),
 ao 37 (.call 173 [(.t 36)]),
 ao 38 (.bin .eql (.t 37) (.c (i64 12))),
 ao 4 (.mv (.t 38))] [4]) (.ret))))
def a172 : AFn := ⟨2, [.t 4], b172, false⟩
def n172 : Ann := ⟨[[1, 2], [1, 2, 11], [4], [1, 2, 5], [1, 2, 5, 15], [1, 2, 5, 35], [4], [1, 2, 5], [4]], [⟨[], [1, 2, 5], [32, 592]⟩], [], [], [], false, []⟩
/-- almadraba/almadrabaref01.Sum -/
@[simp] def d173l0 : AC :=
 .seq (.seq (.region false [
 ao 5 (.mv (.t 4)),
 ao 6 (.mv (.t 0)),
 ao 7 (.len (.t 6)),
 ao 8 (.bin .lss (.t 5) (.t 7))] [0, 3, 4, 8]) (.cond (.t 8) (.skip) (.exit 0))) (.seq (.block 1 (.region false [
 ao 11 (.mv (.t 3)),
 ao 12 (.mv (.t 0)),
 ao 13 (.mv (.t 4)),
 ao 14 (.idxs 1 (.t 12) (.t 13)),
 ao 15 (.load none (.t 14)),
 ao 16 (.bin .add (.t 11) (.t 15)),
 ao 3 (.mv (.t 16))] [0, 3, 4])) (.region false [
 ao 9 (.mv (.t 4)),
 ao 10 (.bin .add (.t 9) (.c (i64 1))),
 ao 4 (.mv (.t 10))] [0, 3, 4]))
def b173l0 : AC := .loop [0, 3, 4] [] d173l0
/-- almadraba/almadrabaref01.Sum -/
def b173 : AC :=
 .seq (.region false [
 ao 2 (.mv (.c (i64 0)))] [0]) (.seq (.region false [
 ao 3 (.mv (.c (i64 0)))] [0, 3]) (.seq (.seq (.region false [
 ao 4 (.mv (.c (i64 0)))] [0, 3, 4]) (.block 0 (b173l0))) (.seq (.region false [
 ao 17 (.mv (.t 3)),
 ao 2 (.mv (.t 17))] [2]) (.ret))))
def a173 : AFn := ⟨1, [.t 2], b173, false⟩
def n173 : Ann := ⟨[[0], [0, 3], [0, 3, 4], [0, 3, 4, 8], [0, 3, 4], [0, 3, 4], [2]], [⟨[], [0, 3, 4], []⟩], [], [], [], false, []⟩
end Go.Proofs.YtekgicoibcgecaaGreat
