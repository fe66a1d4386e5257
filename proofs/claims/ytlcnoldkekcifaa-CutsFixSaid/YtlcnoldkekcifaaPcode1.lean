/-
  MADE BY PROGRAM (mkt.py, out of what Gen.lean prints): the functions' code for the evaluator.
-/
import Derived.Test.YtlcnoldkekcifaaAb7
set_option linter.unusedSimpArgs false
set_option linter.unusedVariables false
namespace Go.Proofs.Ytlcnoldkekcifaa
open Go.Ab
def b11 : AC :=
 .seq (.region false [
 ao 4 (.mv (.c (.bool false)))] [0, 1]) (.seq (.seq (.region false [
 ao 18 (.mv (.t 0)),
 ao 19 (.len (.t 18)),
 ao 20 (.bin .gtr (.t 19) (.c (i64 40)))] [0, 1, 20]) (.cond (.t 20) (.seq (.region false [
 ao 21 (.call 17 []),
 ao 4 (.mv (.t 21))] [4]) (.ret)) (.skip))) (.seq (.region false [
 ao 22 (.mv (.t 0)),
 ao 23 (.call 27 [(.t 22)]),
 ao 5 (.mv (.t 23))] [0, 1, 5]) (.seq (.seq (.freeze [368]) (.region false [
 ao 25 (.mv (.t 5)),
 ao 26 (.call 46 [(.t 25)]),
 ao 24 (.mv (.t 26)),
 ao 27 (.ext (.t 24) 0),
 ao 28 (.ext (.t 24) 1),
 ao 6 (.mv (.t 27)),
 ao 7 (.mv (.t 28))] [0, 1, 5, 6, 7])) (.seq (.region false [
 ao 30 (.mv (.t 0)),
 ao 31 (.call 47 [(.t 30)]),
 ao 29 (.mv (.t 31)),
 ao 32 (.ext (.t 29) 0),
 ao 33 (.ext (.t 29) 1),
 ao 8 (.mv (.t 32)),
 ao 9 (.mv (.t 33))] [0, 1, 5, 6, 7, 8, 9]) (.seq (.region false [
 ao 35 (.mv (.t 5)),
 ao 36 (.call 39 [(.t 35)]),
 ao 34 (.mv (.t 36)),
 ao 37 (.ext (.t 34) 0),
 ao 38 (.ext (.t 34) 1),
 ao 10 (.mv (.t 37)),
 ao 11 (.mv (.t 38))] [0, 1, 5, 6, 7, 8, 9, 10, 11]) (.seq (.region false [
 ao 40 (.mv (.t 0)),
 ao 41 (.call 48 [(.t 40)]),
 ao 39 (.mv (.t 41)),
 ao 42 (.ext (.t 39) 0),
 ao 43 (.ext (.t 39) 1),
 ao 12 (.mv (.t 42)),
 ao 13 (.mv (.t 43))] [0, 1, 5, 6, 7, 8, 9, 10, 11, 12, 13]) (.seq (.region false [
 ao 45 (.mv (.t 5)),
 ao 46 (.mv (.t 1)),
 ao 47 (.call 42 [(.t 45), (.t 46)]),
 ao 44 (.mv (.t 47)),
 ao 48 (.ext (.t 44) 0),
 ao 49 (.ext (.t 44) 1),
 ao 14 (.mv (.t 48)),
 ao 15 (.mv (.t 49))] [0, 1, 5, 6, 7, 8, 9, 10, 11, 12, 13, 14, 15]) (.seq (.region false [
 ao 51 (.mv (.t 0)),
 ao 52 (.mv (.t 1)),
 ao 53 (.call 49 [(.t 51), (.t 52)]),
 ao 50 (.mv (.t 53)),
 ao 54 (.ext (.t 50) 0),
 ao 55 (.ext (.t 50) 1),
 ao 16 (.mv (.t 54)),
 ao 17 (.mv (.t 55))] [0, 5, 6, 7, 8, 9, 10, 11, 12, 13, 14, 15, 16, 17]) (.seq (.region false [
 ao 56 (.mv (.t 6)),
 ao 57 (.mv (.t 8)),
 ao 58 (.bin .eql (.t 56) (.t 57)),
 ao 59 (.mv (.t 58)),
 ag 60 (.mv (.t 7)) 59 true [],
 ag 61 (.mv (.t 9)) 59 true [],
 ag 62 (.bin .eql (.t 60) (.t 61)) 59 true [],
 ao 63 (.pick (.t 59) (.t 62) (.c (.bool false))),
 ao 64 (.mv (.t 63)),
 ag 65 (.mv (.t 10)) 64 true [],
 ag 66 (.mv (.t 12)) 64 true [],
 ag 67 (.call 31 [(.t 65), (.t 66)]) 64 true [],
 ao 68 (.pick (.t 64) (.t 67) (.c (.bool false))),
 ao 69 (.mv (.t 68)),
 ag 70 (.mv (.t 11)) 69 true [],
 ag 71 (.mv (.t 13)) 69 true [],
 ag 72 (.bin .eql (.t 70) (.t 71)) 69 true [],
 ao 73 (.pick (.t 69) (.t 72) (.c (.bool false))),
 ao 74 (.mv (.t 73)),
 ag 75 (.mv (.t 14)) 74 true [],
 ag 76 (.mv (.t 16)) 74 true [],
 ag 77 (.bin .eql (.t 75) (.t 76)) 74 true [],
 ao 78 (.pick (.t 74) (.t 77) (.c (.bool false))),
 ao 79 (.mv (.t 78)),
 ag 80 (.mv (.t 15)) 79 true [],
 ag 81 (.mv (.t 17)) 79 true [],
 ag 82 (.bin .eql (.t 80) (.t 81)) 79 true [],
 ao 83 (.pick (.t 79) (.t 82) (.c (.bool false))),
 ao 84 (.mv (.t 83)),
 ag 85 (.mv (.t 5)) 84 true [],
 ag 86 (.mv (.t 0)) 84 true [],
 ag 87 (.call 35 [(.t 85), (.t 86)]) 84 true [],
 ao 88 (.pick (.t 84) (.t 87) (.c (.bool false))),
 ao 89 (.mv (.t 88)),
 ag 90 (.call 17 []) 89 true [],
 ao 91 (.pick (.t 89) (.t 90) (.c (.bool false))),
 ao 4 (.mv (.t 91))] [4]) (.ret))))))))))
def a11 : AFn := ⟨2, [.t 4], b11, false⟩
def n11 : Ann := ⟨[[0, 1], [0, 1, 20], [4], [0, 1, 5], [0, 1, 5, 6, 7], [0, 1, 5, 6, 7, 8, 9], [0, 1, 5, 6, 7, 8, 9, 10, 11], [0, 1, 5, 6, 7, 8, 9, 10, 11, 12, 13], [0, 1, 5, 6, 7, 8, 9, 10, 11, 12, 13, 14, 15], [0, 5, 6, 7, 8, 9, 10, 11, 12, 13, 14, 15, 16, 17], [4]], [], [], [[], [], [], [], [368], [], [], [], [], [], []], [], false, [(85, 368), (81, 848), (80, 752), (76, 848), (75, 752), (71, 656), (70, 576), (66, 656), (65, 576), (61, 496), (60, 416), (57, 496), (56, 416), (17, 848), (16, 848), (55, 848), (54, 848), (50, 848), (15, 752), (14, 752), (49, 752), (48, 752), (44, 752), (45, 368), (13, 656), (12, 656), (43, 656), (42, 656), (39, 656), (11, 576), (10, 576), (38, 576), (37, 576), (34, 576), (35, 368), (9, 496), (8, 496), (33, 496), (32, 496), (29, 496), (7, 416), (6, 416), (28, 416), (27, 416), (24, 416), (25, 368), (5, 368), (4, 336)]⟩
def b16 : AC :=
 .seq (.region false [
 ao 4 (.mv (.c (.bool false)))] [0, 1]) (.seq (.region false [
 ao 5 (.mv (.t 1)),
 ao 6 (.mv (.t 0)),
 ao 7 (.len (.t 6)),
 ao 8 (.bin .sub (.t 7) (.c (i64 1))),
 ao 9 (.call 59 [(.t 5), (.c (i64 0)), (.t 8)]),
 ao 4 (.mv (.t 9))] [4]) (.ret))
def a16 : AFn := ⟨2, [.t 4], b16, false⟩
def n16 : Ann := ⟨[[0, 1], [4]], [], [], [], [], false, [(4, 144)]⟩
def b17 : AC :=
 .seq (.region false [
 ao 0 (.mv (.c (.bool false)))] []) (.seq (.region false [
 ao 16 (.call 60 []),
 ao 15 (.mv (.t 16)),
 ao 17 (.ext (.t 15) 0),
 ao 18 (.ext (.t 15) 1),
 ao 1 (.mv (.t 17)),
 ao 2 (.mv (.t 18))] [1, 2]) (.seq (.seq (.freeze [256, 1256, 2256, 3256, 4256, 5256, 6256, 7256, 8256]) (.region false [
 ao 20 (.mv (.t 1)),
 ao 21 (.call 18 [(.t 20), (.c (i64 4))]),
 ao 19 (.mv (.t 21)),
 ao 22 (.ext (.t 19) 0),
 ao 23 (.ext (.t 19) 1),
 ao 3 (.alloc [(i64 0), (i64 0)]),
 ⟨none, .store 2 (.t 3) (.t 22), none, [], []⟩,
 ao 4 (.mv (.t 23))] [1, 2, 3, 4])) (.seq (.region false [
 ao 25 (.mv (.t 1)),
 ao 26 (.lit [(i64 0)] 2 [(0, (.c (i64 0))), (1, (.c (i64 1)))]),
 ao 27 (.call 28 [(.t 25), (.t 26)]),
 ao 24 (.mv (.t 27)),
 ao 28 (.ext (.t 24) 0),
 ao 29 (.ext (.t 24) 1),
 ao 5 (.alloc [(i64 0), (i64 0)]),
 ⟨none, .store 2 (.t 5) (.t 28), none, [], []⟩,
 ao 6 (.mv (.t 29))] [1, 2, 3, 4, 5, 6]) (.seq (.region false [
 ao 31 (.mv (.t 1)),
 ao 32 (.call 29 [(.t 31)]),
 ao 30 (.mv (.t 32)),
 ao 33 (.ext (.t 30) 0),
 ao 34 (.ext (.t 30) 1),
 ao 7 (.mv (.t 33)),
 ao 8 (.mv (.t 34))] [1, 2, 3, 4, 5, 6, 7, 8]) (.seq (.region false [
 ao 36 (.mv (.t 2)),
 ao 37 (.call 46 [(.t 36)]),
 ao 35 (.mv (.t 37)),
 ao 38 (.ext (.t 35) 0),
 ao 39 (.ext (.t 35) 1),
 ao 9 (.mv (.t 38)),
 ao 10 (.mv (.t 39))] [1, 2, 3, 4, 5, 6, 7, 8, 9, 10]) (.seq (.region false [
 ao 41 (.mv (.t 2)),
 ao 42 (.call 39 [(.t 41)]),
 ao 40 (.mv (.t 42)),
 ao 43 (.ext (.t 40) 0),
 ao 44 (.ext (.t 40) 1),
 ao 11 (.mv (.t 43)),
 ao 12 (.mv (.t 44))] [1, 3, 4, 5, 6, 7, 8, 9, 10, 11, 12]) (.seq (.region false [
 ao 46 (.mv (.t 1)),
 ao 47 (.lit [(i64 0)] 1 [(0, (.c (i64 0)))]),
 ao 48 (.call 32 [(.t 46), (.c (.sl .full 1 [])), (.t 47)]),
 ao 45 (.mv (.t 48)),
 ao 49 (.ext (.t 45) 0),
 ao 50 (.ext (.t 45) 1),
 ao 13 (.mv (.t 49)),
 ao 14 (.mv (.t 50))] [3, 4, 5, 6, 7, 8, 9, 10, 11, 12, 13, 14]) (.seq (.region false [
 ao 51 (.mv (.t 4)),
 ao 52 (.bin .eql (.t 51) (.c (i64 0))),
 ao 53 (.mv (.t 52)),
 ag 54 (.mv (.t 6)) 53 true [],
 ag 55 (.bin .eql (.t 54) (.c (i64 0))) 53 true [],
 ao 56 (.pick (.t 53) (.t 55) (.c (.bool false))),
 ao 57 (.mv (.t 56)),
 ag 58 (.mv (.t 8)) 57 true [],
 ag 59 (.bin .eql (.t 58) (.c (i64 0))) 57 true [],
 ao 60 (.pick (.t 57) (.t 59) (.c (.bool false))),
 ao 61 (.mv (.t 60)),
 ag 62 (.mv (.t 10)) 61 true [],
 ag 63 (.bin .eql (.t 62) (.c (i64 0))) 61 true [],
 ao 64 (.pick (.t 61) (.t 63) (.c (.bool false))),
 ao 65 (.mv (.t 64)),
 ag 66 (.mv (.t 12)) 65 true [],
 ag 67 (.bin .eql (.t 66) (.c (i64 0))) 65 true [],
 ao 68 (.pick (.t 65) (.t 67) (.c (.bool false))),
 ao 69 (.mv (.t 68)),
 ag 70 (.mv (.t 14)) 69 true [],
 ag 71 (.bin .eql (.t 70) (.c (i64 0))) 69 true [],
 ao 72 (.pick (.t 69) (.t 71) (.c (.bool false))),
 ao 73 (.mv (.t 72)),
 ag 74 (.load (some 2) (.t 3)) 73 true [],
 ag 75 (.build [(i64 0), (i64 0)] [(0, 1, (.c (i64 0))), (1, 1, (.c (i64 6)))]) 73 true [],
 ag 76 (.eqa [true, true] false (.t 74) (.t 75)) 73 true [],
 ao 77 (.pick (.t 73) (.t 76) (.c (.bool false))),
 ao 78 (.mv (.t 77)),
 ag 79 (.load (some 2) (.t 5)) 78 true [],
 ag 80 (.build [(i64 0), (i64 0)] [(0, 1, (.c (i64 72))), (1, 1, (.c (i64 87)))]) 78 true [],
 ag 81 (.eqa [true, true] false (.t 79) (.t 80)) 78 true [],
 ao 82 (.pick (.t 78) (.t 81) (.c (.bool false))),
 ao 83 (.mv (.t 82)),
 ag 84 (.mv (.t 7)) 83 true [],
 ag 85 (.lit [(i64 0)] 2 [(0, (.c (i64 0))), (1, (.c (i64 1)))]) 83 true [],
 ag 86 (.call 31 [(.t 84), (.t 85)]) 83 true [],
 ao 87 (.pick (.t 83) (.t 86) (.c (.bool false))),
 ao 88 (.mv (.t 87)),
 ag 89 (.mv (.t 9)) 88 true [],
 ag 90 (.bin .eql (.t 89) (.c (i64 2))) 88 true [],
 ao 91 (.pick (.t 88) (.t 90) (.c (.bool false))),
 ao 92 (.mv (.t 91)),
 ag 93 (.mv (.t 11)) 92 true [],
 ag 94 (.lit [(i64 0)] 5 [(0, (.c (i64 19))), (1, (.c (i64 6))), (2, (.c (i64 10))), (3, (.c (i64 6))), (4, (.c (i64 0)))]) 92 true [],
 ag 95 (.call 31 [(.t 93), (.t 94)]) 92 true [],
 ao 96 (.pick (.t 92) (.t 95) (.c (.bool false))),
 ao 97 (.mv (.t 96)),
 ag 98 (.mv (.t 13)) 97 true [],
 ag 99 (.bin .eql (.t 98) (.c (i64 2))) 97 true [],
 ao 100 (.pick (.t 97) (.t 99) (.c (.bool false))),
 ao 0 (.mv (.t 100))] [0]) (.ret)))))))))
def a17 : AFn := ⟨0, [.t 0], b17, false⟩
def n17 : Ann := ⟨[[], [1, 2], [1, 2, 3, 4], [1, 2, 3, 4, 5, 6], [1, 2, 3, 4, 5, 6, 7, 8], [1, 2, 3, 4, 5, 6, 7, 8, 9, 10], [1, 3, 4, 5, 6, 7, 8, 9, 10, 11, 12], [3, 4, 5, 6, 7, 8, 9, 10, 11, 12, 13, 14], [0]], [], [], [[], [], [256, 1256, 2256, 3256, 4256, 5256, 6256, 7256, 8256], [], [], [], [], [], []], [], false, [(98, 768), (93, 672), (89, 592), (84, 512), (70, 768), (66, 672), (62, 592), (58, 512), (54, 432), (51, 336), (14, 768), (13, 768), (50, 768), (49, 768), (45, 768), (46, 256), (12, 672), (11, 672), (44, 672), (43, 672), (40, 672), (41, 256), (10, 592), (9, 592), (39, 592), (38, 592), (35, 592), (36, 256), (8, 512), (7, 512), (34, 512), (33, 512), (30, 512), (31, 256), (6, 432), (29, 432), (28, 432), (24, 432), (25, 256), (4, 336), (23, 336), (22, 336), (19, 336), (20, 256), (2, 256), (1, 256), (18, 256), (17, 256), (15, 256)]⟩
def b18 : AC :=
 .seq (.region false [
 ao 3 (.box (.t 1)),
 ao 4 (.alloc [(i64 0), (i64 0)]),
 ao 5 (.mv (.c (i64 0)))] [0, 3, 4]) (.seq (.region false [
 ao 7 (.mv (.t 0)),
 ao 6 (.mv (.t 7))] [3, 4, 6]) (.seq (.region false [
 ao 8 (.mv (.t 6)),
 ao 9 (.mv (.t 6)),
 ao 10 (.load none (.t 3)),
 ao 11 (.call 62 [(.t 9), (.t 10)]),
 ao 12 (.mkfn 63 [] [(.t 3)]),
 ao 13 (.call 61 [(.t 8), (.t 11), (.t 12)]),
 ao 14 (.ext (.t 13) 0),
 ao 15 (.ext (.t 13) 1),
 ⟨none, .store 2 (.t 4) (.t 14), none, [], []⟩,
 ao 5 (.mv (.t 15))] [4, 5]) (.ret)))
def a18 : AFn := ⟨2, [.cell 4 (some 2), .t 5], b18, false⟩
def n18 : Ann := ⟨[[0, 3, 4], [3, 4, 6], [4, 5]], [], [], [], [], false, [(5, 208), (15, 208), (14, 208)]⟩
def b27 : AC :=
 .seq (.region false [
 ao 2 (.mv (.c (.sl .full 6 [])))] [0]) (.seq (.region false [
 ao 3 (.lit [(i64 0), (i64 0), (i64 0), (i64 0), (i64 0), (i64 0)] 0 []),
 ao 4 (.mv (.t 0)),
 ao 5 (.appm 6 48 (.t 3) (.t 4)),
 ao 2 (.mv (.t 5))] [2]) (.ret))
def a27 : AFn := ⟨1, [.t 2], b27, true⟩
def n27 : Ann := ⟨[[0], [2]], [], [], [], [5], true, []⟩
def b28 : AC :=
 .seq (.region false [
 ao 4 (.alloc [(i64 0), (i64 0)]),
 ao 5 (.mv (.c (i64 0)))] [0, 1, 4]) (.seq (.region false [
 ao 8 (.mv (.t 0)),
 ao 6 (.mv (.t 8))] [1, 4, 6]) (.seq (.seq (.region false [
 ao 9 (.mv (.t 6)),
 ao 10 (.call 67 [(.t 9), (.c (.bool true))]),
 ao 7 (.mv (.t 10))] [1, 4, 6, 7]) (.seq (.region false [
 ao 11 (.mv (.t 7)),
 ao 12 (.bin .neq (.t 11) (.c (i64 0)))] [1, 4, 6, 7, 12]) (.cond (.t 12) (.seq (.region false [
 ao 13 (.build [(i64 0), (i64 0)] []),
 ao 14 (.mv (.t 7)),
 ⟨none, .store 2 (.t 4) (.t 13), none, [], []⟩,
 ao 5 (.mv (.t 14))] [4, 5]) (.ret)) (.skip)))) (.seq (.region false [
 ao 15 (.mv (.t 6)),
 ao 16 (.mv (.t 6)),
 ao 17 (.mv (.t 1)),
 ao 18 (.call 68 [(.t 16), (.t 17)]),
 ao 19 (.mv (.t 6)),
 ao 20 (.mv (.t 1)),
 ao 21 (.call 69 [(.t 19), (.t 20)]),
 ao 22 (.call 61 [(.t 15), (.t 18), (.t 21)]),
 ao 23 (.ext (.t 22) 0),
 ao 24 (.ext (.t 22) 1),
 ⟨none, .store 2 (.t 4) (.t 23), none, [], []⟩,
 ao 5 (.mv (.t 24))] [4, 5]) (.ret))))
def a28 : AFn := ⟨2, [.cell 4 (some 2), .t 5], b28, false⟩
def n28 : Ann := ⟨[[0, 1, 4], [1, 4, 6], [1, 4, 6, 7], [1, 4, 6, 7, 12], [4, 5], [4, 5]], [], [], [], [], false, [(24, 352), (23, 352), (5, 160), (14, 160), (11, 160), (7, 160)]⟩
def b29 : AC :=
 .seq (.region false [
 ao 2 (.mv (.c (.sl .full 1 []))),
 ao 3 (.mv (.c (i64 0)))] [0]) (.seq (.region false [
 ao 9 (.mv (.t 0)),
 ao 4 (.mv (.t 9))] [4]) (.seq (.seq (.region false [
 ao 10 (.mv (.t 4)),
 ao 11 (.call 67 [(.t 10), (.c (.bool true))]),
 ao 5 (.mv (.t 11))] [4, 5]) (.seq (.region false [
 ao 12 (.mv (.t 5)),
 ao 13 (.bin .neq (.t 12) (.c (i64 0)))] [4, 5, 13]) (.cond (.t 13) (.seq (.region false [
 ao 14 (.mv (.t 5)),
 ao 2 (.mv (.c (.sl .full 1 []))),
 ao 3 (.mv (.t 14))] [2, 3]) (.ret)) (.skip)))) (.seq (.region false [
 ao 16 (.mv (.t 4)),
 ao 17 (.call 70 [(.t 16)]),
 ao 15 (.mv (.t 17)),
 ao 18 (.ext (.t 15) 0),
 ao 19 (.ext (.t 15) 1),
 ao 20 (.ext (.t 15) 2),
 ao 6 (.mv (.t 18)),
 ao 7 (.mv (.t 19)),
 ao 8 (.mv (.t 20))] [6, 8]) (.seq (.seq (.region false [
 ao 21 (.mv (.t 8)),
 ao 22 (.un .not (.t 21))] [6, 22]) (.cond (.t 22) (.seq (.region false [
 ao 2 (.mv (.c (.sl .full 1 []))),
 ao 3 (.mv (.c (i64 3)))] [2, 3]) (.ret)) (.skip))) (.seq (.region false [
 ao 23 (.mv (.t 6)),
 ao 2 (.mv (.t 23)),
 ao 3 (.mv (.c (i64 0)))] [2, 3]) (.ret))))))
def a29 : AFn := ⟨1, [.t 2, .t 3], b29, false⟩
def n29 : Ann := ⟨[[0], [4], [4, 5], [4, 5, 13], [2, 3], [6, 8], [6, 22], [2, 3], [2, 3]], [], [], [], [], false, [(2, 272), (23, 272), (21, 272), (8, 272), (7, 272), (6, 272), (20, 272), (19, 272), (18, 272), (15, 272), (3, 176), (14, 176), (12, 176), (5, 176)]⟩
@[simp] def d31l0 : AC :=
 .seq (.seq (.region false [
 ao 11 (.mv (.t 5)),
 ao 12 (.mv (.t 0)),
 ao 13 (.len (.t 12)),
 ao 14 (.bin .lss (.t 11) (.t 13))] [0, 1, 5, 14]) (.cond (.t 14) (.skip) (.exit 0))) (.seq (.block 1 (.seq (.region true (spl [
 ao 17 (.mv (.t 0)),
 ao 18 (.mv (.t 5)),
 ap 19 (.idxs 1 (.t 17) (.t 18)) [0, 1],
 ap 20 (.load none (.t 19)) [2, 0, 1],
 ao 21 (.mv (.t 1)),
 ao 22 (.mv (.t 5)),
 ap 23 (.idxs 1 (.t 21) (.t 22)) [4, 5],
 ap 24 (.load none (.t 23)) [6, 4, 5]] [
 ap 25 (.bin .neq (.t 20) (.t 24)) [3, 7, 2, 0, 1, 6, 4, 5]]) [0, 1, 5, 25]) (.cond (.t 25) (.seq (.region false [
 ao 4 (.mv (.c (.bool false)))] [4]) (.ret)) (.skip)))) (.region false [
 ao 15 (.mv (.t 5)),
 ao 16 (.bin .add (.t 15) (.c (i64 1))),
 ao 5 (.mv (.t 16))] [0, 1, 5]))
def b31l0 : AC := .loop [0, 1, 5] [] d31l0
def b31 : AC :=
 .seq (.region false [
 ao 4 (.mv (.c (.bool false)))] [0, 1]) (.seq (.seq (.region false [
 ao 6 (.mv (.t 0)),
 ao 7 (.len (.t 6)),
 ao 8 (.mv (.t 1)),
 ao 9 (.len (.t 8)),
 ao 10 (.bin .neq (.t 7) (.t 9))] [0, 1, 10]) (.cond (.t 10) (.seq (.region false [
 ao 4 (.mv (.c (.bool false)))] [4]) (.ret)) (.skip))) (.seq (.seq (.region false [
 ao 5 (.mv (.c (i64 0)))] [0, 1, 5]) (.block 0 (b31l0))) (.seq (.region false [
 ao 4 (.mv (.c (.bool true)))] [4]) (.ret))))
def a31 : AFn := ⟨2, [.t 4], b31, false⟩
def n31 : Ann := ⟨[[0, 1], [0, 1, 10], [4], [0, 1, 5], [0, 1, 5, 14], [0, 1, 5, 25], [4], [0, 1, 5], [4]], [⟨[], [0, 1, 5], []⟩], [], [], [], false, []⟩
def b32 : AC :=
 .seq (.region false [
 ao 6 (.mv (.c (i64 0))),
 ao 7 (.mv (.c (i64 0)))] [0, 1, 2]) (.seq (.region false [
 ao 14 (.mv (.t 0)),
 ao 8 (.mv (.t 14))] [1, 2, 8]) (.seq (.seq (.region false [
 ao 15 (.mv (.t 8)),
 ao 16 (.call 67 [(.t 15), (.c (.bool true))]),
 ao 9 (.mv (.t 16))] [1, 2, 8, 9]) (.seq (.region false [
 ao 17 (.mv (.t 9)),
 ao 18 (.bin .neq (.t 17) (.c (i64 0)))] [1, 2, 8, 9, 18]) (.cond (.t 18) (.seq (.region false [
 ao 19 (.mv (.t 9)),
 ao 6 (.mv (.c (i64 0))),
 ao 7 (.mv (.t 19))] [6, 7]) (.ret)) (.skip)))) (.seq (.region false [
 ao 20 (.mv (.t 8)),
 ao 21 (.mv (.t 1)),
 ao 22 (.call 69 [(.t 20), (.t 21)]),
 ao 23 (.mv (.t 8)),
 ao 24 (.mv (.t 2)),
 ao 25 (.call 69 [(.t 23), (.t 24)]),
 ao 10 (.alloc [.nilf]),
 ao 11 (.alloc [.nilf]),
 ⟨none, .store 1 (.t 10) (.t 22), none, [], []⟩,
 ⟨none, .store 1 (.t 11) (.t 25), none, [], []⟩] [1, 2, 8, 10, 11]) (.seq (.region false [
 ao 27 (.mv (.t 8)),
 ao 28 (.mv (.t 8)),
 ao 29 (.mv (.t 1)),
 ao 30 (.call 68 [(.t 28), (.t 29)]),
 ao 31 (.mv (.t 30)),
 ag 32 (.mv (.t 8)) 31 true [],
 ag 33 (.mv (.t 2)) 31 true [],
 ag 34 (.call 68 [(.t 32), (.t 33)]) 31 true [],
 ao 35 (.pick (.t 31) (.t 34) (.c (.bool false))),
 ao 36 (.mkfn 71 [] [(.t 10), (.t 11)]),
 ao 37 (.call 61 [(.t 27), (.t 35), (.t 36)]),
 ao 26 (.mv (.t 37)),
 ao 38 (.ext (.t 26) 0),
 ao 39 (.ext (.t 26) 1),
 ao 12 (.alloc [(i64 0), (i64 0)]),
 ⟨none, .store 2 (.t 12) (.t 38), none, [], []⟩,
 ao 13 (.mv (.t 39))] [12, 13]) (.seq (.block 0 (.seq (.region false [
 ao 41 (.mv (.t 13)),
 ao 42 (.bin .neq (.t 41) (.c (i64 0))),
 ao 40 (.mv (.t 42))] [12, 13, 40]) (.cond (.t 40) (.seq (.region false [
 ao 43 (.mv (.t 13)),
 ao 6 (.mv (.c (i64 0))),
 ao 7 (.mv (.t 43))] [6, 7]) (.ret)) (.seq (.region false [
 ao 45 (.faddr 0 (.t 12)),
 ao 46 (.load none (.t 45)),
 ao 47 (.bin .gtr (.t 46) (.c (i64 0))),
 ao 44 (.mv (.t 47))] [12, 44]) (.cond (.t 44) (.seq (.region false [
 ao 6 (.mv (.c (i64 1))),
 ao 7 (.mv (.c (i64 0)))] [6, 7]) (.ret)) (.seq (.region false [
 ao 49 (.faddr 1 (.t 12)),
 ao 50 (.load none (.t 49)),
 ao 51 (.bin .leq (.t 50) (.c (i64 0))),
 ao 48 (.mv (.t 51))] [48]) (.cond (.t 48) (.seq (.region false [
 ao 6 (.mv (.c (i64 2))),
 ao 7 (.mv (.c (i64 0)))] [6, 7]) (.ret)) (.skip)))))))) (.seq (.region false [
 ao 6 (.mv (.c (i64 3))),
 ao 7 (.mv (.c (i64 0)))] [6, 7]) (.ret)))))))
def a32 : AFn := ⟨3, [.t 6, .t 7], b32, false⟩
def n32 : Ann := ⟨[[0, 1, 2], [1, 2, 8], [1, 2, 8, 9], [1, 2, 8, 9, 18], [6, 7], [1, 2, 8, 10, 11], [12, 13], [12, 13, 40], [6, 7], [12, 44], [6, 7], [48], [6, 7], [6, 7]], [], [], [], [], false, [(43, 592), (41, 592), (13, 592), (39, 592), (38, 592), (26, 592), (31, 480), (7, 256), (19, 256), (17, 256), (9, 256)]⟩
@[simp] def d35l0 : AC :=
 .seq (.seq (.region false [
 ao 11 (.mv (.t 5)),
 ao 12 (.mv (.t 0)),
 ao 13 (.len (.t 12)),
 ao 14 (.bin .lss (.t 11) (.t 13))] [0, 1, 5, 14]) (.cond (.t 14) (.skip) (.exit 0))) (.seq (.block 1 (.seq (.region true (spl [
 ao 17 (.mv (.t 0)),
 ao 18 (.mv (.t 5)),
 ap 19 (.idxs 6 (.t 17) (.t 18)) [0, 1],
 ap 20 (.load (some 6) (.t 19)) [2, 0, 1],
 ao 21 (.mv (.t 1)),
 ao 22 (.mv (.t 5)),
 ap 23 (.idxs 6 (.t 21) (.t 22)) [4, 5],
 ap 24 (.load (some 6) (.t 23)) [6, 4, 5]] [
 ap 25 (.eqa [true, true, true, true, true, true] true (.t 20) (.t 24)) [3, 7, 2, 0, 1, 6, 4, 5]]) [0, 1, 5, 25]) (.cond (.t 25) (.seq (.region false [
 ao 4 (.mv (.c (.bool false)))] [4]) (.ret)) (.skip)))) (.region false [
 ao 15 (.mv (.t 5)),
 ao 16 (.bin .add (.t 15) (.c (i64 1))),
 ao 5 (.mv (.t 16))] [0, 1, 5]))
def b35l0 : AC := .loop [0, 1, 5] [] d35l0
def b35 : AC :=
 .seq (.region false [
 ao 4 (.mv (.c (.bool false)))] [0, 1]) (.seq (.seq (.region false [
 ao 6 (.mv (.t 0)),
 ao 7 (.len (.t 6)),
 ao 8 (.mv (.t 1)),
 ao 9 (.len (.t 8)),
 ao 10 (.bin .neq (.t 7) (.t 9))] [0, 1, 10]) (.cond (.t 10) (.seq (.region false [
 ao 4 (.mv (.c (.bool false)))] [4]) (.ret)) (.skip))) (.seq (.seq (.region false [
 ao 5 (.mv (.c (i64 0)))] [0, 1, 5]) (.block 0 (b35l0))) (.seq (.region false [
 ao 4 (.mv (.c (.bool true)))] [4]) (.ret))))
def a35 : AFn := ⟨2, [.t 4], b35, false⟩
def n35 : Ann := ⟨[[0, 1], [0, 1, 10], [4], [0, 1, 5], [0, 1, 5, 14], [0, 1, 5, 25], [4], [0, 1, 5], [4]], [⟨[], [0, 1, 5], []⟩], [], [], [], false, []⟩
@[simp] def d39l1 : AC :=
 .seq (.seq (.region false [
 ao 24 (.load none (.t 4)),
 ao 25 (.mkfn 80 [] [(.t 7), (.t 4)]),
 ao 26 (.call 79 [(.t 24), (.t 25)]),
 ao 27 (.mv (.t 5)),
 ao 28 (.bin .neq (.t 26) (.t 27))] [4, 5, 7, 18, 19, 28]) (.cond (.t 28) (.skip) (.exit 2))) (.block 3 (.region false [
 ao 29 (.load none (.t 7)),
 ao 30 (.load none (.t 7)),
 ao 31 (.len (.t 30)),
 ao 32 (.bin .sub (.t 31) (.c (i64 1))),
 ao 33 (.idxs 1 (.t 29) (.t 32)),
 ao 34 (.load none (.t 33)),
 ao 35 (.bin .add (.t 34) (.c (i64 1))),
 ao 36 (.idxs 1 (.t 29) (.t 32)),
 ⟨none, .store 1 (.t 36) (.t 35), none, [], []⟩] [4, 5, 7, 18, 19]))
def b39l1 : AC := .loop [4, 5, 7, 18, 19] [64, 112, 114, 176, 352, 368] d39l1
@[simp] def d39l0 : AC :=
 .seq (.region false [
 ao 20 (.bin .lss (.t 19) (.t 18))] [4, 5, 7, 18, 19, 20]) (.seq (.cond (.t 20) (.skip) (.exit 0)) (.seq (.block 1 (.seq (.region false [
 ao 21 (.load none (.t 7)),
 ao 22 (.lit [(i64 0)] 1 [(0, (.c (i64 0)))]),
 ao 23 (.app 1 8 (.t 21) (.t 22)),
 ⟨none, .store 1 (.t 7) (.t 23), none, [], []⟩] [4, 5, 7, 18, 19]) (.block 2 (b39l1)))) (.region false [
 ao 37 (.bin .add (.t 19) (.c (i64 1))),
 ao 19 (.mv (.t 37))] [4, 5, 7, 18, 19])))
def b39l0 : AC := .loop [4, 5, 7, 18, 19] [64, 112, 114, 176] d39l0
def b39 : AC :=
 .seq (.region false [
 ao 2 (.mv (.c (.sl .full 1 []))),
 ao 3 (.mv (.c (i64 0)))] [0]) (.seq (.region false [
 ao 8 (.mv (.t 0)),
 ao 4 (.alloc [(.sl .full 6 [])]),
 ⟨none, .store 1 (.t 4) (.t 8), none, [], []⟩] [4]) (.seq (.region false [
 ao 10 (.load none (.t 4)),
 ao 11 (.call 78 [(.t 10), (.c (.bool true))]),
 ao 9 (.mv (.t 11)),
 ao 12 (.ext (.t 9) 0),
 ao 13 (.ext (.t 9) 1),
 ao 5 (.mv (.t 12)),
 ao 6 (.mv (.t 13))] [4, 5, 6]) (.seq (.seq (.region false [
 ao 14 (.mv (.t 6)),
 ao 15 (.bin .neq (.t 14) (.c (i64 0)))] [4, 5, 6, 15]) (.cond (.t 15) (.seq (.region false [
 ao 16 (.mv (.t 6)),
 ao 2 (.mv (.c (.sl .full 1 []))),
 ao 3 (.mv (.t 16))] [2, 3]) (.ret)) (.skip))) (.seq (.region false [
 ao 7 (.alloc [(.sl .full 1 [])])] [4, 5, 7]) (.seq (.seq (.region false [
 ao 17 (.load none (.t 4)),
 ao 18 (.len (.t 17)),
 ao 19 (.mv (.c (i64 0)))] [4, 5, 7, 18, 19]) (.block 0 (.seq (.thawc 7 0 114 101) (b39l0)))) (.seq (.seq (.freeze [114]) (.region false [
 ao 38 (.load none (.t 7)),
 ao 2 (.mv (.t 38)),
 ao 3 (.mv (.c (i64 0)))] [2, 3])) (.ret)))))))
def a39 : AFn := ⟨1, [.t 2, .t 3], b39, false⟩
def n39 : Ann := ⟨[[0], [4], [4, 5, 6], [4, 5, 6, 15], [2, 3], [4, 5, 7], [4, 5, 7, 18, 19], [4, 5, 7, 18, 19, 20], [4, 5, 7, 18, 19], [4, 5, 7, 18, 19, 28], [4, 5, 7, 18, 19], [4, 5, 7, 18, 19], [2, 3]], [⟨[.c 7 0 114 101], [4, 5, 7, 18, 19], [64, 112, 114, 176]⟩, ⟨[], [4, 5, 7, 18, 19], [64, 112, 114, 176, 352, 368]⟩], [], [[], [], [], [], [], [], [], [], [], [], [], [], [114]], [], false, [(27, 176), (3, 176), (16, 176), (14, 176), (6, 176), (5, 176), (13, 176), (12, 176), (9, 176)]⟩
def b42 : AC :=
 .seq (.region false [
 ao 3 (.box (.t 1)),
 ao 4 (.mv (.c (i64 0))),
 ao 5 (.mv (.c (i64 0)))] [0, 3]) (.seq (.region false [
 ao 10 (.mv (.t 0)),
 ao 6 (.alloc [(.sl .full 6 [])]),
 ⟨none, .store 1 (.t 6) (.t 10), none, [], []⟩] [3, 6]) (.seq (.region true (spl [
 ao 12 (.load none (.t 6)),
 ao 13 (.load none (.t 6)),
 ao 14 (.load none (.t 3)),
 ap 15 (.call 62 [(.t 13), (.t 14)]) [1, 2],
 ap 16 (.call 78 [(.t 12), (.t 15)]) [0, 3, 1, 2],
 ap 11 (.mv (.t 16)) [4, 0, 3, 1, 2],
 ap 17 (.ext (.t 11) 0) [5, 4, 0, 3, 1, 2],
 ⟨(some 18), .ext (.t 11) 1, none, [5, 4, 0, 3, 1, 2], [112]⟩,
 ao 7 (.alloc [(i64 0)]),
 ⟨none, .store 1 (.t 7) (.t 17), none, [6, 8, 5, 4, 0, 3, 1, 2], []⟩] [
 ap 8 (.mv (.t 18)) [7, 9, 6, 8, 5, 4, 0, 3, 1, 2]]) [3, 6, 7, 8]) (.seq (.seq (.region false [
 ao 19 (.mv (.t 8)),
 ao 20 (.bin .neq (.t 19) (.c (i64 0)))] [3, 6, 7, 8, 20]) (.cond (.t 20) (.seq (.region false [
 ao 21 (.mv (.t 8)),
 ao 4 (.mv (.c (i64 0))),
 ao 5 (.mv (.t 21))] [4, 5]) (.ret)) (.skip))) (.seq (.region false [
 ao 22 (.mkfn 83 [] [(.t 6), (.t 3), (.t 7)]),
 ao 9 (.mv (.t 22))] [9]) (.seq (.block 0 (.seq (.region false [
 ao 24 (.mv (.t 9)),
 ao 25 (.callv (.t 24) [(.c (.bool false))]),
 ao 26 (.un .not (.t 25)),
 ao 23 (.mv (.t 26))] [9, 23]) (.cond (.t 23) (.seq (.region false [
 ao 4 (.mv (.c (i64 1))),
 ao 5 (.mv (.c (i64 0)))] [4, 5]) (.ret)) (.seq (.region false [
 ao 28 (.mv (.t 9)),
 ao 29 (.callv (.t 28) [(.c (.bool true))]),
 ao 30 (.un .not (.t 29)),
 ao 27 (.mv (.t 30))] [27]) (.cond (.t 27) (.seq (.region false [
 ao 4 (.mv (.c (i64 2))),
 ao 5 (.mv (.c (i64 0)))] [4, 5]) (.ret)) (.skip)))))) (.seq (.region false [
 ao 4 (.mv (.c (i64 3))),
 ao 5 (.mv (.c (i64 0)))] [4, 5]) (.ret)))))))
def a42 : AFn := ⟨2, [.t 4, .t 5], b42, false⟩
def n42 : Ann := ⟨[[0, 3], [3, 6], [3, 6, 7, 8], [3, 6, 7, 8, 20], [4, 5], [9], [9, 23], [4, 5], [27], [4, 5], [4, 5]], [], [], [], [], false, [(5, 256), (21, 256), (19, 256), (8, 256), (18, 256), (17, 256), (11, 256)]⟩
def b43 : AC :=
 .seq (.region false [
 ao 6 (.mv (.c (.bool false)))] [0, 1, 2]) (.seq (.region false [
 ao 7 (.mv (.t 1)),
 ao 8 (.mv (.t 0)),
 ao 9 (.bin .leq (.t 7) (.t 8)),
 ao 10 (.mv (.t 9)),
 ag 11 (.mv (.t 0)) 10 true [],
 ag 12 (.mv (.t 2)) 10 true [],
 ag 13 (.bin .leq (.t 11) (.t 12)) 10 true [],
 ao 14 (.pick (.t 10) (.t 13) (.c (.bool false))),
 ao 6 (.mv (.t 14))] [6]) (.ret))
def a43 : AFn := ⟨3, [.t 6], b43, false⟩
def n43 : Ann := ⟨[[0, 1, 2], [6]], [], [], [], [], false, []⟩
def b46 : AC :=
 .seq (.region false [
 ao 2 (.mv (.c (i64 0))),
 ao 3 (.mv (.c (i64 0)))] [0]) (.seq (.region false [
 ao 4 (.mv (.t 0)),
 ao 5 (.call 78 [(.t 4), (.c (.bool true))]),
 ao 6 (.ext (.t 5) 0),
 ao 7 (.ext (.t 5) 1),
 ao 2 (.mv (.t 6)),
 ao 3 (.mv (.t 7))] [2, 3]) (.ret))
def a46 : AFn := ⟨1, [.t 2, .t 3], b46, false⟩
def n46 : Ann := ⟨[[0], [2, 3]], [], [], [], [], false, [(3, 80), (2, 80), (7, 80), (6, 80)]⟩
def b47 : AC :=
 .seq (.region false [
 ao 2 (.mv (.c (i64 0))),
 ao 3 (.mv (.c (i64 0)))] [0]) (.seq (.seq (.region false [
 ao 5 (.mv (.t 0)),
 ao 6 (.call 86 [(.t 5), (.c (.bool true))]),
 ao 4 (.mv (.t 6))] [0, 4]) (.seq (.region false [
 ao 7 (.mv (.t 4)),
 ao 8 (.bin .neq (.t 7) (.c (i64 0)))] [0, 4, 8]) (.cond (.t 8) (.seq (.region false [
 ao 9 (.mv (.t 4)),
 ao 2 (.mv (.c (i64 0))),
 ao 3 (.mv (.t 9))] [2, 3]) (.ret)) (.skip)))) (.seq (.region false [
 ao 10 (.mv (.t 0)),
 ao 11 (.mv (.t 0)),
 ao 12 (.call 87 [(.t 11)]),
 ao 13 (.call 65 [(.t 10), (.t 12)]),
 ao 2 (.mv (.t 13)),
 ao 3 (.mv (.c (i64 0)))] [2, 3]) (.ret)))
def a47 : AFn := ⟨1, [.t 2, .t 3], b47, false⟩
def n47 : Ann := ⟨[[0], [0, 4], [0, 4, 8], [2, 3], [2, 3]], [], [], [], [], false, [(2, 208), (3, 96), (9, 96), (7, 96), (4, 96)]⟩
@[simp] def d48l1 : AC :=
 .seq (.seq (.region false [
 ao 31 (.mv (.t 10)),
 ao 32 (.bin .lss (.t 31) (.c (i64 30)))] [0, 5, 6, 7, 8, 9, 10, 32]) (.cond (.t 32) (.skip) (.exit 2))) (.seq (.block 3 (.seq (.region false [
 ao 35 (.mv (.t 5)),
 ao 36 (.mv (.t 8)),
 ao 37 (.call 88 []),
 ao 38 (.idxs 1 (.t 35) (.t 36)),
 ⟨none, .store 1 (.t 38) (.t 37), none, [], []⟩] [0, 5, 6, 7, 8, 9, 10]) (.seq (.region true (spl [
 ao 39 (.mv (.t 5)),
 ao 40 (.mv (.t 8)),
 ap 41 (.idxs 1 (.t 39) (.t 40)) [0, 1],
 ap 42 (.load none (.t 41)) [2, 0, 1],
 ao 43 (.mv (.t 10)),
 ao 44 (.mv (.t 9)),
 ao 45 (.mv (.t 10)),
 ap 46 (.idxs 1 (.t 44) (.t 45)) [5, 6],
 ap 47 (.load none (.t 46)) [7, 5, 6]] [
 ap 48 (.idxs 1 (.t 42) (.t 43)) [3, 4, 8, 2, 0, 1, 7, 5, 6],
 ⟨none, .store 1 (.t 48) (.t 47), none, [9, 3, 4, 8, 2, 0, 1, 7, 5, 6], []⟩]) [0, 5, 6, 7, 8, 9, 10]) (.seq (.seq (.freeze [592]) (.region false [
 ao 49 (.mv (.t 0)),
 ao 50 (.mv (.t 5)),
 ao 51 (.call 65 [(.t 49), (.t 50)]),
 ao 52 (.mv (.t 6)),
 ao 53 (.bin .eql (.t 51) (.t 52))] [0, 5, 6, 7, 8, 9, 10, 53])) (.cond (.t 53) (.exit 2) (.skip)))))) (.region false [
 ao 33 (.mv (.t 10)),
 ao 34 (.bin .add (.t 33) (.c (i64 1))),
 ao 10 (.mv (.t 34))] [0, 5, 6, 7, 8, 9, 10]))
def b48l1 : AC := .loop [0, 5, 6, 7, 8, 9, 10] [113, 272] d48l1
@[simp] def d48l0 : AC :=
 .seq (.seq (.region false [
 ao 21 (.mv (.t 8)),
 ao 22 (.mv (.t 0)),
 ao 23 (.len (.t 22)),
 ao 24 (.bin .lss (.t 21) (.t 23))] [0, 5, 6, 7, 8, 24]) (.cond (.t 24) (.skip) (.exit 0))) (.seq (.block 1 (.seq (.region false [
 ao 27 (.mv (.t 5)),
 ao 28 (.mv (.t 8)),
 ao 29 (.idxs 1 (.t 27) (.t 28)),
 ao 30 (.load none (.t 29)),
 ao 9 (.mv (.t 30))] [0, 5, 6, 7, 8, 9]) (.seq (.region false [
 ao 10 (.mv (.c (i64 0)))] [0, 5, 6, 7, 8, 9, 10]) (.seq (.block 2 (b48l1)) (.seq (.region false [
 ao 54 (.mv (.t 5)),
 ao 55 (.mv (.t 8)),
 ao 56 (.call 88 []),
 ao 57 (.idxs 1 (.t 54) (.t 55)),
 ⟨none, .store 1 (.t 57) (.t 56), none, [], []⟩] [0, 5, 6, 7, 8, 9, 10]) (.seq (.region true (spl [
 ao 58 (.mv (.t 5)),
 ao 59 (.mv (.t 8)),
 ap 60 (.idxs 1 (.t 58) (.t 59)) [0, 1],
 ap 61 (.load none (.t 60)) [2, 0, 1],
 ao 62 (.mv (.t 10)),
 ao 63 (.mv (.t 9)),
 ao 64 (.mv (.t 10)),
 ap 65 (.idxs 1 (.t 63) (.t 64)) [5, 6],
 ap 66 (.load none (.t 65)) [7, 5, 6]] [
 ap 67 (.idxs 1 (.t 61) (.t 62)) [3, 4, 8, 2, 0, 1, 7, 5, 6],
 ⟨none, .store 1 (.t 67) (.t 66), none, [9, 3, 4, 8, 2, 0, 1, 7, 5, 6], []⟩]) [0, 5, 6, 7, 8, 10]) (.seq (.freeze [896]) (.region false [
 ao 68 (.mv (.t 7)),
 ao 69 (.mv (.t 10)),
 ao 70 (.lit [(i64 0)] 1 [(0, (.t 69))]),
 ao 71 (.app 1 8 (.t 68) (.t 70)),
 ao 7 (.mv (.t 71))] [0, 5, 6, 7, 8])))))))) (.region false [
 ao 25 (.mv (.t 8)),
 ao 26 (.bin .add (.t 25) (.c (i64 1))),
 ao 8 (.mv (.t 26))] [0, 5, 6, 7, 8]))
def b48l0 : AC := .loop [0, 5, 6, 7, 8] [113, 272] d48l0
def b48 : AC :=
 .seq (.region false [
 ao 2 (.mv (.c (.sl .full 1 []))),
 ao 3 (.mv (.c (i64 0)))] [0]) (.seq (.seq (.region false [
 ao 11 (.mv (.t 0)),
 ao 12 (.call 86 [(.t 11), (.c (.bool true))]),
 ao 4 (.mv (.t 12))] [0, 4]) (.seq (.region false [
 ao 13 (.mv (.t 4)),
 ao 14 (.bin .neq (.t 13) (.c (i64 0)))] [0, 4, 14]) (.cond (.t 14) (.seq (.region false [
 ao 15 (.mv (.t 4)),
 ao 2 (.mv (.c (.sl .full 1 []))),
 ao 3 (.mv (.t 15))] [2, 3]) (.ret)) (.skip)))) (.seq (.region false [
 ao 16 (.mv (.t 0)),
 ao 17 (.call 87 [(.t 16)]),
 ao 5 (.mv (.t 17))] [0, 5]) (.seq (.seq (.freeze [1272, 2272, 3272, 4272, 5272, 6272, 7272, 8272]) (.region false [
 ao 18 (.mv (.t 0)),
 ao 19 (.mv (.t 5)),
 ao 20 (.call 65 [(.t 18), (.t 19)]),
 ao 6 (.mv (.t 20))] [0, 5, 6])) (.seq (.region false [
 ao 7 (.mv (.c (.sl .full 1 [])))] [0, 5, 6, 7]) (.seq (.seq (.region false [
 ao 8 (.mv (.c (i64 0)))] [0, 5, 6, 7, 8]) (.block 0 (.seq (.thaw 7 113 1) (b48l0)))) (.seq (.region false [
 ao 72 (.mv (.t 7)),
 ao 2 (.mv (.t 72)),
 ao 3 (.mv (.c (i64 0)))] [2, 3]) (.ret)))))))
def a48 : AFn := ⟨1, [.t 2, .t 3], b48, false⟩
def n48 : Ann := ⟨[[0], [0, 4], [0, 4, 14], [2, 3], [0, 5], [0, 5, 6], [0, 5, 6, 7], [0, 5, 6, 7, 8], [0, 5, 6, 7, 8, 24], [0, 5, 6, 7, 8, 9], [0, 5, 6, 7, 8, 9, 10], [0, 5, 6, 7, 8, 9, 10, 32], [0, 5, 6, 7, 8, 9, 10], [0, 5, 6, 7, 8, 9, 10], [0, 5, 6, 7, 8, 9, 10, 53], [0, 5, 6, 7, 8, 9, 10], [0, 5, 6, 7, 8, 9, 10], [0, 5, 6, 7, 8, 10], [0, 5, 6, 7, 8], [0, 5, 6, 7, 8], [2, 3]], [⟨[.t 7 113 1], [0, 5, 6, 7, 8], [113, 272]⟩, ⟨[], [0, 5, 6, 7, 8, 9, 10], [113, 272]⟩], [], [[], [], [], [], [], [1272, 2272, 3272, 4272, 5272, 6272, 7272, 8272], [], [], [], [], [], [], [], [], [592], [], [], [], [896], [], []], [], false, [(58, 272), (54, 272), (52, 320), (50, 272), (39, 272), (35, 272), (27, 272), (6, 320), (19, 272), (5, 272), (3, 192), (15, 192), (13, 192), (4, 192)]⟩
@[simp] def d49l0 : AC :=
 .seq (.seq (.region false [
 ao 27 (.mv (.t 10)),
 ao 28 (.bin .leq (.t 27) (.c (i64 30)))] [0, 1, 7, 8, 9, 10, 28]) (.cond (.t 28) (.skip) (.exit 0))) (.seq (.block 1 (.seq (.region false [
 ao 31 (.mv (.t 8)),
 ao 32 (.mv (.t 1)),
 ao 33 (.idxs 1 (.t 31) (.t 32)),
 ao 34 (.load none (.t 33)),
 ao 35 (.mv (.t 10)),
 ao 36 (.idxs 1 (.t 34) (.t 35)),
 ao 37 (.load none (.t 36)),
 ao 38 (.bin .gtr (.t 37) (.c (i64 0)))] [0, 1, 7, 8, 9, 10, 38]) (.cond (.t 38) (.region false [
 ao 39 (.mv (.t 8)),
 ao 40 (.mv (.t 1)),
 ao 41 (.idxs 1 (.t 39) (.t 40)),
 ao 42 (.load none (.t 41)),
 ao 43 (.mv (.t 10)),
 ao 44 (.idxs 1 (.t 42) (.t 43)),
 ⟨none, .store 1 (.t 44) (.c (i64 1099511627776)), none, [], []⟩] [0, 1, 7, 8, 9, 10]) (.region false [
 ao 45 (.mv (.t 9)),
 ao 46 (.mv (.t 1)),
 ao 47 (.idxs 1 (.t 45) (.t 46)),
 ao 48 (.load none (.t 47)),
 ao 49 (.mv (.t 10)),
 ao 50 (.idxs 1 (.t 48) (.t 49)),
 ⟨none, .store 1 (.t 50) (.c (i64 1099511627776)), none, [], []⟩] [0, 1, 7, 8, 9, 10])))) (.region false [
 ao 29 (.mv (.t 10)),
 ao 30 (.bin .add (.t 29) (.c (i64 1))),
 ao 10 (.mv (.t 30))] [0, 1, 7, 8, 9, 10]))
def b49l0 : AC := .loop [0, 1, 7, 8, 9, 10] [384, 416, 1384, 1416, 2384, 2416, 3384, 3416, 4384, 4416, 5384, 5416, 6384, 6416, 7384, 7416, 8384, 8416] d49l0
def b49 : AC :=
 .seq (.region false [
 ao 4 (.mv (.c (i64 0))),
 ao 5 (.mv (.c (i64 0)))] [0, 1]) (.seq (.seq (.region false [
 ao 11 (.mv (.t 0)),
 ao 12 (.mv (.t 0)),
 ao 13 (.mv (.t 1)),
 ao 14 (.call 16 [(.t 12), (.t 13)]),
 ao 15 (.call 86 [(.t 11), (.t 14)]),
 ao 6 (.mv (.t 15))] [0, 1, 6]) (.seq (.region false [
 ao 16 (.mv (.t 6)),
 ao 17 (.bin .neq (.t 16) (.c (i64 0)))] [0, 1, 6, 17]) (.cond (.t 17) (.seq (.region false [
 ao 18 (.mv (.t 6)),
 ao 4 (.mv (.c (i64 0))),
 ao 5 (.mv (.t 18))] [4, 5]) (.ret)) (.skip)))) (.seq (.region false [
 ao 19 (.mv (.t 0)),
 ao 20 (.mv (.t 0)),
 ao 21 (.call 87 [(.t 20)]),
 ao 22 (.call 65 [(.t 19), (.t 21)]),
 ao 7 (.mv (.t 22))] [0, 1, 7]) (.seq (.region false [
 ao 23 (.mv (.t 0)),
 ao 24 (.call 87 [(.t 23)]),
 ao 25 (.mv (.t 0)),
 ao 26 (.call 87 [(.t 25)]),
 ao 8 (.mv (.t 24)),
 ao 9 (.mv (.t 26))] [0, 1, 7, 8, 9]) (.seq (.seq (.region false [
 ao 10 (.mv (.c (i64 0)))] [0, 1, 7, 8, 9, 10]) (.block 0 (b49l0))) (.seq (.block 2 (.seq (.region false [
 ao 52 (.mv (.t 0)),
 ao 53 (.mv (.t 8)),
 ao 54 (.call 65 [(.t 52), (.t 53)]),
 ao 55 (.mv (.t 7)),
 ao 56 (.bin .gtr (.t 54) (.t 55)),
 ao 51 (.mv (.t 56))] [0, 7, 9, 51]) (.cond (.t 51) (.seq (.region false [
 ao 4 (.mv (.c (i64 1))),
 ao 5 (.mv (.c (i64 0)))] [4, 5]) (.ret)) (.seq (.region false [
 ao 58 (.mv (.t 0)),
 ao 59 (.mv (.t 9)),
 ao 60 (.call 65 [(.t 58), (.t 59)]),
 ao 61 (.mv (.t 7)),
 ao 62 (.bin .gtr (.t 60) (.t 61)),
 ao 57 (.mv (.t 62))] [57]) (.cond (.t 57) (.seq (.region false [
 ao 4 (.mv (.c (i64 2))),
 ao 5 (.mv (.c (i64 0)))] [4, 5]) (.ret)) (.skip)))))) (.seq (.region false [
 ao 4 (.mv (.c (i64 3))),
 ao 5 (.mv (.c (i64 0)))] [4, 5]) (.ret)))))))
def a49 : AFn := ⟨2, [.t 4, .t 5], b49, false⟩
def n49 : Ann := ⟨[[0, 1], [0, 1, 6], [0, 1, 6, 17], [4, 5], [0, 1, 7], [0, 1, 7, 8, 9], [0, 1, 7, 8, 9, 10], [0, 1, 7, 8, 9, 10, 28], [0, 1, 7, 8, 9, 10, 38], [0, 1, 7, 8, 9, 10], [0, 1, 7, 8, 9, 10], [0, 1, 7, 8, 9, 10], [0, 7, 9, 51], [4, 5], [57], [4, 5], [4, 5]], [⟨[], [0, 1, 7, 8, 9, 10], [384, 416, 1384, 1416, 2384, 2416, 3384, 3416, 4384, 4416, 5384, 5416, 6384, 6416, 7384, 7416, 8384, 8416]⟩], [], [], [], false, [(61, 352), (59, 416), (55, 352), (53, 384), (45, 416), (39, 384), (31, 384), (9, 416), (8, 384), (7, 352), (5, 240), (18, 240), (16, 240), (6, 240)]⟩
@[simp] def d55l0 : AC :=
 .seq (.seq (.region false [
 ao 6 (.mv (.t 5)),
 ao 7 (.mv (.t 0)),
 ao 8 (.len (.t 7)),
 ao 9 (.bin .lss (.t 6) (.t 8))] [0, 1, 5, 9]) (.cond (.t 9) (.skip) (.exit 0))) (.seq (.block 1 (.seq (.region false [
 ao 12 (.mv (.t 0)),
 ao 13 (.mv (.t 5)),
 ao 14 (.idxs 6 (.t 12) (.t 13)),
 ao 15 (.faddr 0 (.t 14)),
 ao 16 (.load none (.t 15)),
 ao 17 (.mv (.t 1)),
 ao 18 (.bin .eql (.t 16) (.t 17))] [0, 1, 5, 18]) (.cond (.t 18) (.seq (.region false [
 ao 4 (.mv (.c (.bool true)))] [4]) (.ret)) (.skip)))) (.region false [
 ao 10 (.mv (.t 5)),
 ao 11 (.bin .add (.t 10) (.c (i64 1))),
 ao 5 (.mv (.t 11))] [0, 1, 5]))
def b55l0 : AC := .loop [0, 1, 5] [] d55l0
def b55 : AC :=
 .seq (.region false [
 ao 4 (.mv (.c (.bool false)))] [0, 1]) (.seq (.seq (.region false [
 ao 5 (.mv (.c (i64 0)))] [0, 1, 5]) (.block 0 (b55l0))) (.seq (.region false [
 ao 4 (.mv (.c (.bool false)))] [4]) (.ret)))
def a55 : AFn := ⟨2, [.t 4], b55, false⟩
def n55 : Ann := ⟨[[0, 1], [0, 1, 5], [0, 1, 5, 9], [0, 1, 5, 18], [4], [0, 1, 5], [4]], [⟨[], [0, 1, 5], []⟩], [], [], [], false, []⟩
@[simp] def d58l0 : AC :=
 .seq (.seq (.region false [
 ao 8 (.mv (.t 3)),
 ao 9 (.mv (.t 0)),
 ao 10 (.len (.t 9)),
 ao 11 (.bin .lss (.t 8) (.t 10))] [0, 3, 11]) (.cond (.t 11) (.skip) (.exit 0))) (.seq (.block 1 (.seq (.region false [
 ao 14 (.mv (.t 0)),
 ao 15 (.mv (.t 3)),
 ao 16 (.idxs 6 (.t 14) (.t 15)),
 ao 17 (.load (some 6) (.t 16)),
 ao 4 (.alloc [(i64 0), (i64 0), (i64 0), (i64 0), (i64 0), (i64 0)]),
 ⟨none, .store 6 (.t 4) (.t 17), none, [], []⟩] [0, 3, 4]) (.seq (.region false [
 ao 18 (.faddr 0 (.t 4)),
 ao 19 (.load none (.t 18)),
 ao 20 (.mv (.t 3)),
 ao 21 (.bin .sub (.t 20) (.c (i64 1))),
 ao 22 (.call 59 [(.t 19), (.c (i64 (-1))), (.t 21)]),
 ao 23 (.un .not (.t 22)),
 ao 24 (.mv (.t 23)),
 ag 25 (.faddr 1 (.t 4)) 24 false [],
 ag 26 (.load (some 2) (.t 25)) 24 false [],
 ag 27 (.call 97 [(.t 26)]) 24 false [],
 ag 28 (.un .not (.t 27)) 24 false [],
 ao 29 (.pick (.t 24) (.c (.bool true)) (.t 28)),
 ao 30 (.mv (.t 29)),
 ag 31 (.faddr 3 (.t 4)) 30 false [],
 ag 32 (.load (some 2) (.t 31)) 30 false [],
 ag 33 (.call 97 [(.t 32)]) 30 false [],
 ag 34 (.un .not (.t 33)) 30 false [],
 ao 35 (.pick (.t 30) (.c (.bool true)) (.t 34)),
 ao 36 (.mv (.t 35)),
 ag 37 (.faddr 5 (.t 4)) 36 false [],
 ag 38 (.load none (.t 37)) 36 false [],
 ag 39 (.call 59 [(.t 38), (.c (i64 0)), (.c (i64 99))]) 36 false [],
 ag 40 (.un .not (.t 39)) 36 false [],
 ao 41 (.pick (.t 36) (.c (.bool true)) (.t 40))] [0, 3, 41]) (.cond (.t 41) (.seq (.region false [
 ao 2 (.mv (.c (i64 70)))] [2]) (.ret)) (.skip))))) (.region false [
 ao 12 (.mv (.t 3)),
 ao 13 (.bin .add (.t 12) (.c (i64 1))),
 ao 3 (.mv (.t 13))] [0, 3]))
def b58l0 : AC := .loop [0, 3] [] d58l0
def b58 : AC :=
 .seq (.region false [
 ao 2 (.mv (.c (i64 0)))] [0]) (.seq (.seq (.region false [
 ao 5 (.mv (.t 0)),
 ao 6 (.len (.t 5)),
 ao 7 (.bin .gtr (.t 6) (.c (i64 8)))] [0, 7]) (.cond (.t 7) (.seq (.region false [
 ao 2 (.mv (.c (i64 70)))] [2]) (.ret)) (.skip))) (.seq (.seq (.region false [
 ao 3 (.mv (.c (i64 0)))] [0, 3]) (.block 0 (b58l0))) (.seq (.region false [
 ao 2 (.mv (.c (i64 0)))] [2]) (.ret))))
def a58 : AFn := ⟨1, [.t 2], b58, false⟩
def n58 : Ann := ⟨[[0], [0, 7], [2], [0, 3], [0, 3, 11], [0, 3, 4], [0, 3, 41], [2], [0, 3], [2]], [⟨[], [0, 3], []⟩], [], [], [], false, []⟩
def b59 : AC :=
 .seq (.region false [
 ao 6 (.mv (.c (.bool false)))] [0, 1, 2]) (.seq (.region false [
 ao 7 (.mv (.t 0)),
 ao 8 (.mv (.t 1)),
 ao 9 (.mv (.t 2)),
 ao 10 (.call 43 [(.t 7), (.t 8), (.t 9)]),
 ao 6 (.mv (.t 10))] [6]) (.ret))
def a59 : AFn := ⟨3, [.t 6], b59, false⟩
def n59 : Ann := ⟨[[0, 1, 2], [6]], [], [], [], [], false, [(6, 160)]⟩
def b60 : AC :=
 .seq (.region false [
 ao 0 (.mv (.c (.sl .full 6 []))),
 ao 1 (.mv (.c (.sl .full 6 [])))] []) (.seq (.region false [
 ao 2 (.call 98 [(.c (i64 (-1))), (.c (i64 20)), (.c (i64 24)), (.c (i64 1)), (.c (i64 3)), (.c (i64 2))]),
 ao 3 (.call 98 [(.c (i64 0)), (.c (i64 8)), (.c (i64 12)), (.c (i64 0)), (.c (i64 2)), (.c (i64 3))]),
 ao 4 (.call 98 [(.c (i64 0)), (.c (i64 9)), (.c (i64 10)), (.c (i64 0)), (.c (i64 0)), (.c (i64 4))]),
 ao 5 (.call 98 [(.c (i64 1)), (.c (i64 6)), (.c (i64 7)), (.c (i64 0)), (.c (i64 0)), (.c (i64 6))]),
 ao 6 (.call 98 [(.c (i64 1)), (.c (i64 0)), (.c (i64 30)), (.c (i64 0)), (.c (i64 0)), (.c (i64 1))]),
 ao 7 (.lit [(i64 0), (i64 0), (i64 0), (i64 0), (i64 0), (i64 0)] 5 [(0, (.t 2)), (1, (.t 3)), (2, (.t 4)), (3, (.t 5)), (4, (.t 6))]),
 ao 0 (.mv (.t 7))] [0]) (.seq (.region false [
 ao 8 (.lit [(i64 0), (i64 0), (i64 0), (i64 0), (i64 0), (i64 0)] 0 []),
 ao 9 (.mv (.t 0)),
 ao 10 (.appm 6 48 (.t 8) (.t 9)),
 ao 1 (.mv (.t 10))] [0, 1]) (.seq (.region false [
 ao 11 (.mv (.t 1)),
 ao 12 (.call 98 [(.c (i64 0)), (.c (i64 0)), (.c (i64 5)), (.c (i64 0)), (.c (i64 2)), (.c (i64 3))]),
 ao 13 (.idxs 6 (.t 11) (.c (i64 1))),
 ⟨none, .store 6 (.t 13) (.t 12), none, [], []⟩] [0, 1]) (.seq (.seq (.freeze [160]) (.region false [
 ao 14 (.mv (.t 0)),
 ao 15 (.mv (.t 1)),
 ao 0 (.mv (.t 14)),
 ao 1 (.mv (.t 15))] [0, 1])) (.ret)))))
def a60 : AFn := ⟨0, [.t 0, .t 1], b60, true⟩
def n60 : Ann := ⟨[[], [0], [0, 1], [0, 1], [0, 1]], [], [], [[], [], [], [], [160]], [10], true, []⟩
def b61 : AC :=
 .seq (.region false [
 ao 6 (.alloc [(i64 0), (i64 0)]),
 ao 7 (.mv (.c (i64 0)))] [0, 1, 2, 6]) (.seq (.seq (.region false [
 ao 11 (.mv (.t 0)),
 ao 12 (.mv (.t 1)),
 ao 13 (.call 67 [(.t 11), (.t 12)]),
 ao 8 (.mv (.t 13))] [0, 2, 6, 8]) (.seq (.region false [
 ao 14 (.mv (.t 8)),
 ao 15 (.bin .neq (.t 14) (.c (i64 0)))] [0, 2, 6, 8, 15]) (.cond (.t 15) (.seq (.region false [
 ao 16 (.build [(i64 0), (i64 0)] []),
 ao 17 (.mv (.t 8)),
 ⟨none, .store 2 (.t 6) (.t 16), none, [], []⟩,
 ao 7 (.mv (.t 17))] [6, 7]) (.ret)) (.skip)))) (.seq (.region false [
 ao 19 (.mv (.t 0)),
 ao 20 (.mv (.t 2)),
 ao 21 (.call 99 [(.t 19), (.t 20)]),
 ao 18 (.mv (.t 21)),
 ao 22 (.ext (.t 18) 0),
 ao 23 (.ext (.t 18) 1),
 ao 9 (.alloc [(i64 0), (i64 0)]),
 ⟨none, .store 2 (.t 9) (.t 22), none, [], []⟩,
 ao 10 (.mv (.t 23))] [6, 9, 10]) (.seq (.seq (.region false [
 ao 24 (.mv (.t 10)),
 ao 25 (.un .not (.t 24))] [6, 9, 25]) (.cond (.t 25) (.seq (.region false [
 ao 26 (.build [(i64 0), (i64 0)] []),
 ⟨none, .store 2 (.t 6) (.t 26), none, [], []⟩,
 ao 7 (.mv (.c (i64 3)))] [6, 7]) (.ret)) (.skip))) (.seq (.region false [
 ao 27 (.load (some 2) (.t 9)),
 ⟨none, .store 2 (.t 6) (.t 27), none, [], []⟩,
 ao 7 (.mv (.c (i64 0)))] [6, 7]) (.ret)))))
def a61 : AFn := ⟨3, [.cell 6 (some 2), .t 7], b61, false⟩
def n61 : Ann := ⟨[[0, 1, 2, 6], [0, 2, 6, 8], [0, 2, 6, 8, 15], [6, 7], [6, 9, 10], [6, 9, 25], [6, 7], [6, 7]], [], [], [], [], false, [(24, 336), (10, 336), (23, 336), (22, 336), (18, 336), (7, 208), (17, 208), (14, 208), (8, 208)]⟩
def b62 : AC :=
 .seq (.region false [
 ao 4 (.mv (.c (.bool false)))] [0, 1]) (.seq (.region false [
 ao 5 (.mv (.t 1)),
 ao 6 (.mv (.t 0)),
 ao 7 (.len (.t 6)),
 ao 8 (.bin .sub (.t 7) (.c (i64 1))),
 ao 9 (.call 94 [(.t 5), (.c (i64 0)), (.t 8)]),
 ao 4 (.mv (.t 9))] [4]) (.ret))
def a62 : AFn := ⟨2, [.t 4], b62, false⟩
def n62 : Ann := ⟨[[0, 1], [4]], [], [], [], [], false, [(4, 144)]⟩
def b63 : AC :=
 .seq (.region false [
 ao 3 (.mv (.c (i64 0)))] [0, 1]) (.seq (.seq (.region false [
 ao 4 (.mv (.t 0)),
 ao 5 (.load none (.t 1)),
 ao 6 (.bin .eql (.t 4) (.t 5))] [6]) (.cond (.t 6) (.seq (.region false [
 ao 3 (.mv (.c (i64 1)))] [3]) (.ret)) (.skip))) (.seq (.region false [
 ao 3 (.mv (.c (i64 0)))] [3]) (.ret)))
def a63 : AFn := ⟨2, [.t 3], b63, false⟩
def n63 : Ann := ⟨[[0, 1], [6], [3], [3]], [], [], [], [], false, []⟩
def b64 : AC :=
 .seq (.region false [
 ao 2 (.mv (.c (.bool false)))] [0]) (.seq (.region false [
 ao 3 (.mv (.t 0)),
 ao 4 (.bin .lss (.t 3) (.c (i64 549755813888))),
 ao 2 (.mv (.t 4))] [2]) (.ret))
def a64 : AFn := ⟨1, [.t 2], b64, false⟩
def n64 : Ann := ⟨[[0], [2]], [], [], [], [], false, []⟩
@[simp] def d65l1 : AC :=
 .seq (.seq (.region false [
 ao 29 (.mv (.t 9)),
 ao 30 (.mv (.t 0)),
 ao 31 (.len (.t 30)),
 ao 32 (.bin .lss (.t 29) (.t 31))] [0, 1, 5, 6, 7, 8, 9, 32]) (.cond (.t 32) (.skip) (.exit 2))) (.seq (.block 3 (.seq (.region false [
 ao 35 (.mv (.t 0)),
 ao 36 (.mv (.t 9)),
 ao 37 (.idxs 6 (.t 35) (.t 36)),
 ao 38 (.faddr 0 (.t 37)),
 ao 39 (.load none (.t 38)),
 ao 40 (.mv (.t 7)),
 ao 41 (.bin .eql (.t 39) (.t 40))] [0, 1, 5, 6, 7, 8, 9, 41]) (.cond (.t 41) (.region false [
 ao 42 (.mv (.t 8)),
 ao 43 (.mv (.t 6)),
 ao 44 (.mv (.t 9)),
 ao 45 (.idxs 1 (.t 43) (.t 44)),
 ao 46 (.load none (.t 45)),
 ao 47 (.call 100 [(.t 42), (.t 46)]),
 ao 8 (.mv (.t 47))] [0, 1, 5, 6, 7, 8, 9]) (.skip)))) (.region false [
 ao 33 (.mv (.t 9)),
 ao 34 (.bin .add (.t 33) (.c (i64 1))),
 ao 9 (.mv (.t 34))] [0, 1, 5, 6, 7, 8, 9]))
def b65l1 : AC := .loop [0, 1, 5, 6, 7, 8, 9] [256] d65l1
@[simp] def d65l3 : AC :=
 .seq (.seq (.region false [
 ao 79 (.mv (.t 0)),
 ao 80 (.mv (.t 7)),
 ao 81 (.call 55 [(.t 79), (.t 80)]),
 ao 82 (.mv (.t 81)),
 ag 83 (.mv (.t 11)) 82 true [],
 ag 84 (.mv (.t 0)) 82 true [],
 ag 85 (.mv (.t 7)) 82 true [],
 ag 86 (.idxs 6 (.t 84) (.t 85)) 82 true [],
 ag 87 (.faddr 3 (.t 86)) 82 true [],
 ag 88 (.faddr 1 (.t 87)) 82 true [],
 ag 89 (.load none (.t 88)) 82 true [],
 ag 90 (.bin .leq (.t 83) (.t 89)) 82 true [],
 ao 91 (.pick (.t 82) (.t 90) (.c (.bool false))),
 ao 92 (.mv (.t 91)),
 ag 93 (.mv (.t 11)) 92 true [],
 ag 94 (.mv (.t 10)) 92 true [],
 ag 95 (.bin .leq (.t 93) (.t 94)) 92 true [],
 ao 96 (.pick (.t 92) (.t 95) (.c (.bool false)))] [0, 1, 5, 6, 7, 8, 10, 11, 96]) (.cond (.t 96) (.skip) (.exit 6))) (.seq (.block 7 (.region true (spl [
 ao 99 (.mv (.t 6)),
 ao 100 (.mv (.t 7)),
 ap 101 (.idxs 1 (.t 99) (.t 100)) [0, 1],
 ap 102 (.load none (.t 101)) [2, 0, 1],
 ao 103 (.mv (.t 10)),
 ao 104 (.mv (.t 6)),
 ao 105 (.mv (.t 7)),
 ap 106 (.idxs 1 (.t 104) (.t 105)) [5, 6],
 ap 107 (.load none (.t 106)) [7, 5, 6],
 ao 108 (.mv (.t 10)),
 ap 109 (.idxs 1 (.t 107) (.t 108)) [8, 9, 7, 5, 6],
 ap 110 (.load none (.t 109)) [10, 8, 9, 7, 5, 6],
 ao 111 (.mv (.t 1)),
 ao 112 (.mv (.t 7)),
 ap 113 (.idxs 1 (.t 111) (.t 112)) [12, 13],
 ap 114 (.load none (.t 113)) [14, 12, 13],
 ao 115 (.mv (.t 10)),
 ap 116 (.idxs 1 (.t 114) (.t 115)) [15, 16, 14, 12, 13],
 ap 117 (.load none (.t 116)) [17, 15, 16, 14, 12, 13],
 ao 118 (.mv (.t 8)),
 ao 119 (.mv (.t 10)),
 ao 120 (.mv (.t 11)),
 ap 121 (.bin .sub (.t 119) (.t 120)) [20, 21],
 ap 122 (.idxs 1 (.t 118) (.t 121)) [19, 22, 20, 21],
 ap 123 (.load none (.t 122)) [23, 19, 22, 20, 21],
 ap 124 (.bin .add (.t 117) (.t 123)) [18, 24, 17, 15, 16, 14, 12, 13, 23, 19, 22, 20, 21],
 ap 125 (.mm false (.t 110) (.t 124)) [11, 25, 10, 8, 9, 7, 5, 6, 18, 24, 17, 15, 16, 14, 12, 13, 23, 19, 22, 20, 21]] [
 ap 126 (.idxs 1 (.t 102) (.t 103)) [3, 4, 26, 2, 0, 1, 11, 25, 10, 8, 9, 7, 5, 6, 18, 24, 17, 15, 16, 14, 12, 13, 23, 19, 22, 20, 21],
 ⟨none, .store 1 (.t 126) (.t 125), none, [27, 3, 4, 26, 2, 0, 1, 11, 25, 10, 8, 9, 7, 5, 6, 18, 24, 17, 15, 16, 14, 12, 13, 23, 19, 22, 20, 21], []⟩]) [0, 1, 5, 6, 7, 8, 10, 11])) (.region false [
 ao 97 (.mv (.t 11)),
 ao 98 (.bin .add (.t 97) (.c (i64 1))),
 ao 11 (.mv (.t 98))] [0, 1, 5, 6, 7, 8, 10, 11]))
def b65l3 : AC := .loop [0, 1, 5, 6, 7, 8, 10, 11] [256, 800] d65l3
@[simp] def d65l2 : AC :=
 .seq (.seq (.region false [
 ao 52 (.mv (.t 10)),
 ao 53 (.bin .leq (.t 52) (.c (i64 30)))] [0, 1, 5, 6, 7, 8, 10, 53]) (.cond (.t 53) (.skip) (.exit 4))) (.seq (.block 5 (.seq (.seq (.region false [
 ao 56 (.mv (.t 0)),
 ao 57 (.mv (.t 7)),
 ao 58 (.call 55 [(.t 56), (.t 57)]),
 ao 59 (.un .not (.t 58))] [0, 1, 5, 6, 7, 8, 10, 59]) (.cond (.t 59) (.region true (spl [
 ao 60 (.mv (.t 6)),
 ao 61 (.mv (.t 7)),
 ap 62 (.idxs 1 (.t 60) (.t 61)) [0, 1],
 ap 63 (.load none (.t 62)) [2, 0, 1],
 ao 64 (.mv (.t 10)),
 ao 65 (.mv (.t 1)),
 ao 66 (.mv (.t 7)),
 ap 67 (.idxs 1 (.t 65) (.t 66)) [5, 6],
 ap 68 (.load none (.t 67)) [7, 5, 6],
 ao 69 (.mv (.t 10)),
 ap 70 (.idxs 1 (.t 68) (.t 69)) [8, 9, 7, 5, 6],
 ap 71 (.load none (.t 70)) [10, 8, 9, 7, 5, 6]] [
 ap 72 (.idxs 1 (.t 63) (.t 64)) [3, 4, 11, 2, 0, 1, 10, 8, 9, 7, 5, 6],
 ⟨none, .store 1 (.t 72) (.t 71), none, [12, 3, 4, 11, 2, 0, 1, 10, 8, 9, 7, 5, 6], []⟩]) [0, 1, 5, 6, 7, 8, 10]) (.skip))) (.seq (.region false [
 ao 73 (.mv (.t 0)),
 ao 74 (.mv (.t 7)),
 ao 75 (.idxs 6 (.t 73) (.t 74)),
 ao 76 (.faddr 3 (.t 75)),
 ao 77 (.faddr 0 (.t 76)),
 ao 78 (.load none (.t 77)),
 ao 11 (.mv (.t 78))] [0, 1, 5, 6, 7, 8, 10, 11]) (.block 6 (b65l3))))) (.region false [
 ao 54 (.mv (.t 10)),
 ao 55 (.bin .add (.t 54) (.c (i64 1))),
 ao 10 (.mv (.t 55))] [0, 1, 5, 6, 7, 8, 10]))
def b65l2 : AC := .loop [0, 1, 5, 6, 7, 8, 10] [256, 800] d65l2
@[simp] def d65l4 : AC :=
 .seq (.seq (.region false [
 ao 133 (.mv (.t 13)),
 ao 134 (.bin .leq (.t 133) (.c (i64 30)))] [0, 1, 5, 6, 7, 12, 13, 134]) (.cond (.t 134) (.skip) (.exit 8))) (.seq (.block 9 (.region false [
 ao 137 (.mv (.t 12)),
 ao 138 (.mv (.t 6)),
 ao 139 (.mv (.t 7)),
 ao 140 (.idxs 1 (.t 138) (.t 139)),
 ao 141 (.load none (.t 140)),
 ao 142 (.mv (.t 13)),
 ao 143 (.idxs 1 (.t 141) (.t 142)),
 ao 144 (.load none (.t 143)),
 ao 145 (.mm false (.t 137) (.t 144)),
 ao 12 (.mv (.t 145))] [0, 1, 5, 6, 7, 12, 13])) (.region false [
 ao 135 (.mv (.t 13)),
 ao 136 (.bin .add (.t 135) (.c (i64 1))),
 ao 13 (.mv (.t 136))] [0, 1, 5, 6, 7, 12, 13]))
def b65l4 : AC := .loop [0, 1, 5, 6, 7, 12, 13] [256] d65l4
@[simp] def d65l0 : AC :=
 .seq (.seq (.region false [
 ao 20 (.mv (.t 7)),
 ao 21 (.bin .geq (.t 20) (.c (i64 0)))] [0, 1, 5, 6, 7, 21]) (.cond (.t 21) (.skip) (.exit 0))) (.seq (.block 1 (.seq (.region false [
 ao 24 (.call 88 []),
 ao 8 (.mv (.t 24))] [0, 1, 5, 6, 7, 8]) (.seq (.region false [
 ao 25 (.mv (.t 8)),
 ao 26 (.idxs 1 (.t 25) (.c (i64 0))),
 ⟨none, .store 1 (.t 26) (.c (i64 0)), none, [], []⟩] [0, 1, 5, 6, 7, 8]) (.seq (.seq (.seq (.freeze [384]) (.region false [
 ao 27 (.mv (.t 7)),
 ao 28 (.bin .add (.t 27) (.c (i64 1))),
 ao 9 (.mv (.t 28))] [0, 1, 5, 6, 7, 8, 9])) (.block 2 (b65l1))) (.seq (.region false [
 ao 48 (.mv (.t 6)),
 ao 49 (.mv (.t 7)),
 ao 50 (.call 88 []),
 ao 51 (.idxs 1 (.t 48) (.t 49)),
 ⟨none, .store 1 (.t 51) (.t 50), none, [], []⟩] [0, 1, 5, 6, 7, 8]) (.seq (.seq (.region false [
 ao 10 (.mv (.c (i64 0)))] [0, 1, 5, 6, 7, 8, 10]) (.block 4 (b65l2))) (.seq (.seq (.freeze [800]) (.region false [
 ao 127 (.mv (.t 0)),
 ao 128 (.mv (.t 7)),
 ao 129 (.idxs 6 (.t 127) (.t 128)),
 ao 130 (.faddr 0 (.t 129)),
 ao 131 (.load none (.t 130)),
 ao 132 (.bin .eql (.t 131) (.c (i64 (-1))))] [0, 1, 5, 6, 7, 132])) (.cond (.t 132) (.seq (.region false [
 ao 12 (.mv (.c (i64 1099511627776)))] [0, 1, 5, 6, 7, 12]) (.seq (.seq (.region false [
 ao 13 (.mv (.c (i64 0)))] [0, 1, 5, 6, 7, 12, 13]) (.block 8 (b65l4))) (.region false [
 ao 146 (.mv (.t 5)),
 ao 147 (.mv (.t 12)),
 ao 148 (.bin .add (.t 146) (.t 147)),
 ao 5 (.mv (.t 148))] [0, 1, 5, 6, 7]))) (.skip))))))))) (.region false [
 ao 22 (.mv (.t 7)),
 ao 23 (.bin .sub (.t 22) (.c (i64 1))),
 ao 7 (.mv (.t 23))] [0, 1, 5, 6, 7]))
def b65l0 : AC := .loop [0, 1, 5, 6, 7] [256] d65l0
def b65 : AC :=
 .seq (.region false [
 ao 4 (.mv (.c (i64 0)))] [0, 1]) (.seq (.region false [
 ao 5 (.mv (.c (i64 0)))] [0, 1, 5]) (.seq (.region false [
 ao 14 (.mv (.t 0)),
 ao 15 (.len (.t 14)),
 ao 16 (.mksl [(.sl .full 1 [])] 24 (.t 15) (.t 15)),
 ao 6 (.mv (.t 16))] [0, 1, 5, 6]) (.seq (.seq (.region false [
 ao 17 (.mv (.t 0)),
 ao 18 (.len (.t 17)),
 ao 19 (.bin .sub (.t 18) (.c (i64 1))),
 ao 7 (.mv (.t 19))] [0, 1, 5, 6, 7]) (.block 0 (b65l0))) (.seq (.region false [
 ao 149 (.mv (.t 5)),
 ao 4 (.mv (.t 149))] [4]) (.ret)))))
def a65 : AFn := ⟨2, [.t 4], b65, false⟩
def n65 : Ann := ⟨[[0, 1], [0, 1, 5], [0, 1, 5, 6], [0, 1, 5, 6, 7], [0, 1, 5, 6, 7, 21], [0, 1, 5, 6, 7, 8], [0, 1, 5, 6, 7, 8], [0, 1, 5, 6, 7, 8, 9], [0, 1, 5, 6, 7, 8, 9, 32], [0, 1, 5, 6, 7, 8, 9, 41], [0, 1, 5, 6, 7, 8, 9], [0, 1, 5, 6, 7, 8, 9], [0, 1, 5, 6, 7, 8], [0, 1, 5, 6, 7, 8, 10], [0, 1, 5, 6, 7, 8, 10, 53], [0, 1, 5, 6, 7, 8, 10, 59], [0, 1, 5, 6, 7, 8, 10], [0, 1, 5, 6, 7, 8, 10, 11], [0, 1, 5, 6, 7, 8, 10, 11, 96], [0, 1, 5, 6, 7, 8, 10, 11], [0, 1, 5, 6, 7, 8, 10, 11], [0, 1, 5, 6, 7, 8, 10], [0, 1, 5, 6, 7, 132], [0, 1, 5, 6, 7, 12], [0, 1, 5, 6, 7, 12, 13], [0, 1, 5, 6, 7, 12, 13, 134], [0, 1, 5, 6, 7, 12, 13], [0, 1, 5, 6, 7, 12, 13], [0, 1, 5, 6, 7], [0, 1, 5, 6, 7], [4]], [⟨[], [0, 1, 5, 6, 7], [256]⟩, ⟨[], [0, 1, 5, 6, 7, 8, 9], [256]⟩, ⟨[], [0, 1, 5, 6, 7, 8, 10], [256, 800]⟩, ⟨[], [0, 1, 5, 6, 7, 8, 10, 11], [256, 800]⟩, ⟨[], [0, 1, 5, 6, 7, 12, 13], [256]⟩], [], [[], [], [], [], [], [], [], [384], [], [], [], [], [], [], [], [], [], [], [], [], [], [], [800], [], [], [], [], [], [], [], []], [], false, [(118, 384), (82, 1296), (42, 384), (25, 384), (8, 384)]⟩
def b67 : AC :=
 .seq (.region false [
 ao 4 (.mv (.c (i64 0)))] [0, 1]) (.seq (.seq (.region false [
 ao 6 (.mv (.t 0)),
 ao 7 (.call 102 [(.t 6)]),
 ao 5 (.mv (.t 7))] [1, 5]) (.seq (.region false [
 ao 8 (.mv (.t 5)),
 ao 9 (.bin .neq (.t 8) (.c (i64 0)))] [1, 5, 9]) (.cond (.t 9) (.seq (.region false [
 ao 10 (.mv (.t 5)),
 ao 4 (.mv (.t 10))] [4]) (.ret)) (.skip)))) (.seq (.seq (.region false [
 ao 11 (.mv (.t 1)),
 ao 12 (.un .not (.t 11))] [12]) (.cond (.t 12) (.seq (.region false [
 ao 4 (.mv (.c (i64 1)))] [4]) (.ret)) (.skip))) (.seq (.region false [
 ao 4 (.mv (.c (i64 0)))] [4]) (.ret))))
def a67 : AFn := ⟨2, [.t 4], b67, false⟩
def n67 : Ann := ⟨[[0, 1], [1, 5], [1, 5, 9], [4], [12], [4], [4]], [], [], [], [], false, [(4, 112), (10, 112), (8, 112), (5, 112)]⟩
@[simp] def d68l0 : AC :=
 .seq (.region false [
 ao 10 (.bin .lss (.t 9) (.t 8))] [0, 1, 7, 8, 9, 10]) (.seq (.cond (.t 10) (.skip) (.exit 0)) (.seq (.block 1 (.seq (.region false [
 ao 11 (.mv (.t 9)),
 ao 12 (.idxs 1 (.t 7) (.t 9)),
 ao 13 (.load none (.t 12)),
 ao 5 (.mv (.t 11)),
 ao 6 (.mv (.t 13))] [0, 1, 5, 6, 7, 8, 9]) (.seq (.region true (spl [
 ao 14 (.mv (.t 0)),
 ao 15 (.mv (.t 6)),
 ap 16 (.call 62 [(.t 14), (.t 15)]) [0, 1],
 ap 17 (.un .not (.t 16)) [2, 0, 1],
 ap 18 (.mv (.t 17)) [3, 2, 0, 1],
 ag 19 (.mv (.t 0)) 18 false [4, 3, 2, 0, 1],
 ag 20 (.mv (.t 6)) 18 false [4, 3, 2, 0, 1],
 ag 21 (.call 95 [(.t 19), (.t 20)]) 18 false [5, 6, 4, 3, 2, 0, 1],
 ag 22 (.un .not (.t 21)) 18 false [7, 5, 6, 4, 3, 2, 0, 1],
 ap 23 (.pick (.t 18) (.c (.bool true)) (.t 22)) [8, 7, 5, 6, 4, 3, 2, 0, 1],
 ap 24 (.mv (.t 23)) [9, 8, 7, 5, 6, 4, 3, 2, 0, 1],
 ag 25 (.mv (.t 5)) 24 false [10, 9, 8, 7, 5, 6, 4, 3, 2, 0, 1],
 ag 26 (.bin .gtr (.t 25) (.c (i64 0))) 24 false [11, 10, 9, 8, 7, 5, 6, 4, 3, 2, 0, 1],
 ag 27 (.mv (.t 26)) 24 false [12, 11, 10, 9, 8, 7, 5, 6, 4, 3, 2, 0, 1],
 ag 28 (.mv (.t 6)) 27 true [13, 12, 11, 10, 9, 8, 7, 5, 6, 4, 3, 2, 0, 1],
 ag 29 (.mv (.t 1)) 27 true [13, 12, 11, 10, 9, 8, 7, 5, 6, 4, 3, 2, 0, 1],
 ag 30 (.mv (.t 5)) 27 true [13, 12, 11, 10, 9, 8, 7, 5, 6, 4, 3, 2, 0, 1],
 ag 31 (.bin .sub (.t 30) (.c (i64 1))) 27 true [16, 13, 12, 11, 10, 9, 8, 7, 5, 6, 4, 3, 2, 0, 1],
 ag 32 (.idxs 1 (.t 29) (.t 31)) 27 true [15, 17, 16, 13, 12, 11, 10, 9, 8, 7, 5, 6, 4, 3, 2, 0, 1],
 ag 33 (.load none (.t 32)) 27 true [18, 15, 17, 16, 13, 12, 11, 10, 9, 8, 7, 5, 6, 4, 3, 2, 0, 1],
 ag 34 (.bin .leq (.t 28) (.t 33)) 27 true [14, 19, 18, 15, 17, 16, 13, 12, 11, 10, 9, 8, 7, 5, 6, 4, 3, 2, 0, 1],
 ag 35 (.pick (.t 27) (.t 34) (.c (.bool false))) 24 false [20, 14, 19, 18, 15, 17, 16, 13, 12, 11, 10, 9, 8, 7, 5, 6, 4, 3, 2, 0, 1],
 ap 36 (.pick (.t 24) (.c (.bool true)) (.t 35)) [21, 20, 14, 19, 18, 15, 17, 16, 13, 12, 11, 10, 9, 8, 7, 5, 6, 4, 3, 2, 0, 1],
 ap 37 (.mv (.t 36)) [22, 21, 20, 14, 19, 18, 15, 17, 16, 13, 12, 11, 10, 9, 8, 7, 5, 6, 4, 3, 2, 0, 1],
 ag 38 (.mv (.t 0)) 37 false [23, 22, 21, 20, 14, 19, 18, 15, 17, 16, 13, 12, 11, 10, 9, 8, 7, 5, 6, 4, 3, 2, 0, 1],
 ag 39 (.mv (.t 6)) 37 false [23, 22, 21, 20, 14, 19, 18, 15, 17, 16, 13, 12, 11, 10, 9, 8, 7, 5, 6, 4, 3, 2, 0, 1],
 ag 40 (.idxs 6 (.t 38) (.t 39)) 37 false [24, 25, 23, 22, 21, 20, 14, 19, 18, 15, 17, 16, 13, 12, 11, 10, 9, 8, 7, 5, 6, 4, 3, 2, 0, 1],
 ag 41 (.faddr 0 (.t 40)) 37 false [26, 24, 25, 23, 22, 21, 20, 14, 19, 18, 15, 17, 16, 13, 12, 11, 10, 9, 8, 7, 5, 6, 4, 3, 2, 0, 1],
 ag 42 (.load none (.t 41)) 37 false [27, 26, 24, 25, 23, 22, 21, 20, 14, 19, 18, 15, 17, 16, 13, 12, 11, 10, 9, 8, 7, 5, 6, 4, 3, 2, 0, 1],
 ag 43 (.bin .neq (.t 42) (.c (i64 (-1)))) 37 false [28, 27, 26, 24, 25, 23, 22, 21, 20, 14, 19, 18, 15, 17, 16, 13, 12, 11, 10, 9, 8, 7, 5, 6, 4, 3, 2, 0, 1],
 ag 44 (.mv (.t 43)) 37 false [29, 28, 27, 26, 24, 25, 23, 22, 21, 20, 14, 19, 18, 15, 17, 16, 13, 12, 11, 10, 9, 8, 7, 5, 6, 4, 3, 2, 0, 1],
 ag 45 (.mv (.t 1)) 44 true [30, 29, 28, 27, 26, 24, 25, 23, 22, 21, 20, 14, 19, 18, 15, 17, 16, 13, 12, 11, 10, 9, 8, 7, 5, 6, 4, 3, 2, 0, 1],
 ag 46 (.mv (.t 5)) 44 true [30, 29, 28, 27, 26, 24, 25, 23, 22, 21, 20, 14, 19, 18, 15, 17, 16, 13, 12, 11, 10, 9, 8, 7, 5, 6, 4, 3, 2, 0, 1],
 ag 47 (.slice 1 (.t 45) none (some (.t 46)) none) 44 true [31, 32, 30, 29, 28, 27, 26, 24, 25, 23, 22, 21, 20, 14, 19, 18, 15, 17, 16, 13, 12, 11, 10, 9, 8, 7, 5, 6, 4, 3, 2, 0, 1],
 ag 48 (.mv (.t 0)) 44 true [30, 29, 28, 27, 26, 24, 25, 23, 22, 21, 20, 14, 19, 18, 15, 17, 16, 13, 12, 11, 10, 9, 8, 7, 5, 6, 4, 3, 2, 0, 1],
 ag 49 (.mv (.t 6)) 44 true [30, 29, 28, 27, 26, 24, 25, 23, 22, 21, 20, 14, 19, 18, 15, 17, 16, 13, 12, 11, 10, 9, 8, 7, 5, 6, 4, 3, 2, 0, 1],
 ag 50 (.idxs 6 (.t 48) (.t 49)) 44 true [34, 35, 30, 29, 28, 27, 26, 24, 25, 23, 22, 21, 20, 14, 19, 18, 15, 17, 16, 13, 12, 11, 10, 9, 8, 7, 5, 6, 4, 3, 2, 0, 1],
 ag 51 (.faddr 0 (.t 50)) 44 true [36, 34, 35, 30, 29, 28, 27, 26, 24, 25, 23, 22, 21, 20, 14, 19, 18, 15, 17, 16, 13, 12, 11, 10, 9, 8, 7, 5, 6, 4, 3, 2, 0, 1],
 ag 52 (.load none (.t 51)) 44 true [37, 36, 34, 35, 30, 29, 28, 27, 26, 24, 25, 23, 22, 21, 20, 14, 19, 18, 15, 17, 16, 13, 12, 11, 10, 9, 8, 7, 5, 6, 4, 3, 2, 0, 1]] [
 ag 53 (.call 103 [(.t 47), (.t 52)]) 44 true [33, 38, 31, 32, 37, 36, 34, 35, 30, 29, 28, 27, 26, 24, 25, 23, 22, 21, 20, 14, 19, 18, 15, 17, 16, 13, 12, 11, 10, 9, 8, 7, 5, 6, 4, 3, 2, 0, 1],
 ag 54 (.un .not (.t 53)) 44 true [39, 33, 38, 31, 32, 37, 36, 34, 35, 30, 29, 28, 27, 26, 24, 25, 23, 22, 21, 20, 14, 19, 18, 15, 17, 16, 13, 12, 11, 10, 9, 8, 7, 5, 6, 4, 3, 2, 0, 1],
 ag 55 (.pick (.t 44) (.t 54) (.c (.bool false))) 37 false [40, 39, 33, 38, 31, 32, 37, 36, 34, 35, 30, 29, 28, 27, 26, 24, 25, 23, 22, 21, 20, 14, 19, 18, 15, 17, 16, 13, 12, 11, 10, 9, 8, 7, 5, 6, 4, 3, 2, 0, 1],
 ap 56 (.pick (.t 37) (.c (.bool true)) (.t 55)) [41, 40, 39, 33, 38, 31, 32, 37, 36, 34, 35, 30, 29, 28, 27, 26, 24, 25, 23, 22, 21, 20, 14, 19, 18, 15, 17, 16, 13, 12, 11, 10, 9, 8, 7, 5, 6, 4, 3, 2, 0, 1]]) [0, 1, 7, 8, 9, 56]) (.cond (.t 56) (.seq (.region false [
 ao 4 (.mv (.c (.bool false)))] [4]) (.ret)) (.skip))))) (.region false [
 ao 57 (.bin .add (.t 9) (.c (i64 1))),
 ao 9 (.mv (.t 57))] [0, 1, 7, 8, 9])))
def b68l0 : AC := .loop [0, 1, 7, 8, 9] [] d68l0
def b68 : AC :=
 .seq (.region false [
 ao 4 (.mv (.c (.bool false)))] [0, 1]) (.seq (.seq (.region false [
 ao 7 (.mv (.t 1)),
 ao 8 (.len (.t 7)),
 ao 9 (.mv (.c (i64 0)))] [0, 1, 7, 8, 9]) (.block 0 (b68l0))) (.seq (.region false [
 ao 4 (.mv (.c (.bool true)))] [4]) (.ret)))
def a68 : AFn := ⟨2, [.t 4], b68, false⟩
def n68 : Ann := ⟨[[0, 1], [0, 1, 7, 8, 9], [0, 1, 7, 8, 9, 10], [0, 1, 5, 6, 7, 8, 9], [0, 1, 7, 8, 9, 56], [4], [0, 1, 7, 8, 9], [4]], [⟨[], [0, 1, 7, 8, 9], []⟩], [], [], [], false, []⟩
def b69 : AC :=
 .seq (.region false [
 ao 2 (.box (.t 0)),
 ao 3 (.box (.t 1)),
 ao 4 (.mv (.c .nilf))] [2, 3]) (.seq (.region false [
 ao 5 (.mkfn 104 [] [(.t 2), (.t 3)]),
 ao 4 (.mv (.t 5))] [4]) (.ret))
def a69 : AFn := ⟨2, [.t 4], b69, false⟩
def n69 : Ann := ⟨[[2, 3], [4]], [], [], [], [], false, []⟩
def b70l0 : AC :=
 .region false [
 ao 5 (.mv (.t 10))] [1, 2, 3, 4, 5]
def b70l1 : AC :=
 .block 1 (.seq (.region true (spl [
 ao 12 (.load none (.t 1)),
 ao 13 (.load none (.t 1)),
 ao 14 (.mv (.t 5)),
 ap 15 (.call 69 [(.t 13), (.t 14)]) [1, 2],
 ap 16 (.call 99 [(.t 12), (.t 15)]) [0, 3, 1, 2],
 ap 11 (.mv (.t 16)) [4, 0, 3, 1, 2],
 ap 17 (.ext (.t 11) 0) [5, 4, 0, 3, 1, 2],
 ⟨(some 18), .ext (.t 11) 1, none, [5, 4, 0, 3, 1, 2], [96]⟩,
 ao 6 (.alloc [(i64 0), (i64 0)]),
 ⟨none, .store 2 (.t 6) (.t 17), none, [6, 8, 5, 4, 0, 3, 1, 2], []⟩] [
 ap 7 (.mv (.t 18)) [7, 9, 6, 8, 5, 4, 0, 3, 1, 2]]) [2, 3, 4, 5, 6, 7]) (.seq (.seq (.region false [
 ao 19 (.mv (.t 7)),
 ao 20 (.un .not (.t 19))] [2, 3, 4, 5, 6, 20]) (.cond (.t 20) (.seq (.region false [
 ⟨none, .store 1 (.t 2) (.c (.sl .full 1 [])), none, [], []⟩,
 ⟨none, .store 1 (.t 3) (.c (i64 0)), none, [], []⟩,
 ⟨none, .store 1 (.t 4) (.c (.bool false)), none, [], []⟩] [2, 3, 4]) (.ret)) (.skip))) (.seq (.region false [
 ao 21 (.load none (.t 4)),
 ao 22 (.un .not (.t 21)),
 ao 23 (.mv (.t 22)),
 ag 24 (.faddr 0 (.t 6)) 23 false [],
 ag 25 (.load none (.t 24)) 23 false [],
 ag 26 (.load none (.t 3)) 23 false [],
 ag 27 (.bin .gtr (.t 25) (.t 26)) 23 false [],
 ao 28 (.pick (.t 23) (.c (.bool true)) (.t 27))] [2, 3, 4, 5, 6, 28]) (.cond (.t 28) (.region true (spl [
 ao 29 (.mv (.t 5)),
 ⟨(some 30), .faddr 0 (.t 6), none, [], [999999]⟩,
 ⟨(some 31), .load none (.t 30), none, [1], [999999]⟩,
 ⟨none, .store 1 (.t 2) (.t 29), none, [0], []⟩] [
 ⟨none, .store 1 (.t 3) (.t 31), none, [2, 3, 1, 0], []⟩,
 ⟨none, .store 1 (.t 4) (.c (.bool true)), none, [4, 2, 3, 1, 0], []⟩]) [2, 3, 4]) (.skip)))))
def b70 : AC :=
 .seq (.region false [
 ao 1 (.box (.t 0)),
 ao 2 (.alloc [(.sl .full 1 [])]),
 ao 3 (.alloc [(i64 0)]),
 ao 4 (.alloc [(.bool false)])] [1, 2, 3, 4]) (.seq (.seq (.region false [
 ao 8 (.load none (.t 1)),
 ao 9 (.mkfn 105 [(.t 8)] [])] [1, 2, 3, 4, 9]) (.block 0 (.rng 1120 [10] b70l0 b70l1 (.t 9)))) (.seq (.region true (spl [
 ao 32 (.load none (.t 2)),
 ⟨(some 33), .load none (.t 3), none, [], [999999]⟩,
 ⟨(some 34), .load none (.t 4), none, [], [999999, 48]⟩,
 ⟨none, .store 1 (.t 2) (.t 32), none, [0], []⟩,
 ⟨none, .store 1 (.t 3) (.t 33), none, [1, 3, 0], []⟩] [
 ⟨none, .store 1 (.t 4) (.t 34), none, [2, 4, 1, 3, 0], []⟩]) [2, 3, 4]) (.ret)))
def a70 : AFn := ⟨1, [.cell 2 none, .cell 3 none, .cell 4 none], b70, false⟩
def n70 : Ann := ⟨[[1, 2, 3, 4], [1, 2, 3, 4, 9], [1, 2, 3, 4, 5], [2, 3, 4, 5, 6, 7], [2, 3, 4, 5, 6, 20], [2, 3, 4], [2, 3, 4, 5, 6, 28], [2, 3, 4], [2, 3, 4]], [], [1120], [], [], false, [(2, 999999), (19, 256), (7, 256), (18, 256), (17, 256), (11, 256)]⟩
def b71 : AC :=
 .seq (.region false [
 ao 4 (.mv (.c (i64 0)))] [0, 1, 2]) (.seq (.region true (spl [
 ao 5 (.load none (.t 1)),
 ao 6 (.mv (.t 0)),
 ap 7 (.callv (.t 5) [(.t 6)]) [0, 1],
 ao 8 (.load none (.t 2)),
 ao 9 (.mv (.t 0))] [
 ap 10 (.callv (.t 8) [(.t 9)]) [3, 4, 2, 0, 1],
 ap 11 (.bin .sub (.t 7) (.t 10)) [5, 3, 4, 2, 0, 1],
 ap 4 (.mv (.t 11)) [6, 5, 3, 4, 2, 0, 1]]) [4]) (.ret))
def a71 : AFn := ⟨3, [.t 4], b71, false⟩
def n71 : Ann := ⟨[[0, 1, 2], [4]], [], [], [], [], false, []⟩
def b78 : AC :=
 .seq (.region false [
 ao 4 (.mv (.c (i64 0))),
 ao 5 (.mv (.c (i64 0)))] [0, 1]) (.seq (.seq (.region false [
 ao 8 (.mv (.t 0)),
 ao 9 (.mv (.t 1)),
 ao 10 (.call 67 [(.t 8), (.t 9)]),
 ao 6 (.mv (.t 10))] [0, 6]) (.seq (.region false [
 ao 11 (.mv (.t 6)),
 ao 12 (.bin .neq (.t 11) (.c (i64 0)))] [0, 6, 12]) (.cond (.t 12) (.seq (.region false [
 ao 13 (.mv (.t 6)),
 ao 4 (.mv (.c (i64 0))),
 ao 5 (.mv (.t 13))] [4, 5]) (.ret)) (.skip)))) (.seq (.region false [
 ao 14 (.mv (.t 0)),
 ao 15 (.mv (.t 0)),
 ao 16 (.mkfn 81 [(.t 15)] []),
 ao 17 (.call 79 [(.t 14), (.t 16)]),
 ao 7 (.mv (.t 17))] [7]) (.seq (.seq (.region false [
 ao 18 (.mv (.t 7)),
 ao 19 (.bin .geq (.t 18) (.c (i64 1099511627776)))] [7, 19]) (.cond (.t 19) (.seq (.region false [
 ao 4 (.mv (.c (i64 0))),
 ao 5 (.mv (.c (i64 3)))] [4, 5]) (.ret)) (.skip))) (.seq (.region false [
 ao 20 (.mv (.t 7)),
 ao 4 (.mv (.t 20)),
 ao 5 (.mv (.c (i64 0)))] [4, 5]) (.ret)))))
def a78 : AFn := ⟨2, [.t 4, .t 5], b78, false⟩
def n78 : Ann := ⟨[[0, 1], [0, 6], [0, 6, 12], [4, 5], [7], [7, 19], [4, 5], [4, 5]], [], [], [], [], false, [(4, 272), (20, 272), (18, 272), (7, 272), (5, 160), (13, 160), (11, 160), (6, 160)]⟩
@[simp] def d79l0 : AC :=
 .seq (.region false [
 ao 22 (.bin .lss (.t 21) (.t 20))] [2, 3, 4, 5, 20, 21, 22]) (.seq (.cond (.t 22) (.skip) (.exit 0)) (.seq (.block 1 (.seq (.region false [
 ao 23 (.mv (.t 21)),
 ao 6 (.mv (.t 23))] [2, 3, 4, 5, 6, 20, 21]) (.region true (spl [
 ao 24 (.load none (.t 5)),
 ao 25 (.mv (.t 6)),
 ao 26 (.call 107 [])] [
 ap 27 (.idxs 31 (.t 24) (.t 25)) [0, 1, 2],
 ⟨none, .store 31 (.t 27) (.t 26), none, [3, 0, 1, 2], []⟩]) [2, 3, 4, 5, 20, 21]))) (.region false [
 ao 28 (.bin .add (.t 21) (.c (i64 1))),
 ao 21 (.mv (.t 28))] [2, 3, 4, 5, 20, 21])))
def b79l0 : AC := .loop [2, 3, 4, 5, 20, 21] [32, 48, 64, 80, 112, 144, 160, 176, 288, 480, 560, 768, 912, 1024, 1504, 1552] d79l0
@[simp] def d79l1 : AC :=
 .seq (.region false [
 ao 37 (.bin .lss (.t 36) (.c (i64 31)))] [3, 4, 5, 7, 8, 9, 10, 11, 36, 37]) (.seq (.cond (.t 37) (.skip) (.exit 4)) (.seq (.block 5 (.seq (.region false [
 ao 38 (.mv (.t 36)),
 ao 12 (.mv (.t 38))] [3, 4, 5, 7, 8, 9, 10, 11, 12, 36]) (.seq (.region false [
 ao 39 (.mv (.t 12)),
 ao 40 (.idxa 31 1 (.t 11) (.t 39)),
 ⟨none, .store 1 (.t 40) (.c (i64 1099511627776)), none, [], []⟩] [3, 4, 5, 7, 8, 9, 10, 11, 12, 36]) (.seq (.region false [
 ao 41 (.mv (.t 12)),
 ao 42 (.faddr 3 (.t 9)),
 ao 43 (.faddr 0 (.t 42)),
 ao 44 (.load none (.t 43)),
 ao 45 (.faddr 3 (.t 9)),
 ao 46 (.faddr 1 (.t 45)),
 ao 47 (.load none (.t 46)),
 ao 48 (.call 94 [(.t 41), (.t 44), (.t 47)])] [3, 4, 5, 7, 8, 9, 10, 11, 12, 36, 48]) (.cond (.t 48) (.region false [
 ao 49 (.mv (.t 12)),
 ao 50 (.idxa 31 1 (.t 11) (.t 49)),
 ⟨none, .store 1 (.t 50) (.c (i64 0)), none, [], []⟩] [3, 4, 5, 7, 8, 9, 10, 11, 36]) (.skip)))))) (.region false [
 ao 51 (.bin .add (.t 36) (.c (i64 1))),
 ao 36 (.mv (.t 51))] [3, 4, 5, 7, 8, 9, 10, 11, 36])))
def b79l1 : AC := .loop [3, 4, 5, 7, 8, 9, 10, 11, 36] [32, 48, 64, 80, 112, 144, 160, 176, 288, 416, 480, 560, 912, 1024, 1504, 1552] d79l1
@[simp] def d79l2 : AC :=
 .seq (.region false [
 ao 59 (.bin .lss (.t 58) (.c (i64 31)))] [3, 4, 5, 7, 8, 9, 10, 58, 59]) (.seq (.cond (.t 59) (.skip) (.exit 6)) (.seq (.block 7 (.seq (.region false [
 ao 60 (.mv (.t 58)),
 ao 13 (.mv (.t 60))] [3, 4, 5, 7, 8, 9, 10, 13, 58]) (.seq (.region false [
 ao 61 (.load none (.t 3)),
 ao 62 (.mv (.t 8)),
 ao 63 (.mv (.t 13)),
 ao 64 (.callv (.t 61) [(.t 62), (.t 63)]),
 ao 14 (.mv (.t 64))] [3, 4, 5, 7, 8, 9, 10, 13, 14, 58]) (.seq (.region false [
 ao 65 (.mv (.t 14)),
 ao 66 (.bin .lss (.t 65) (.c (i64 1099511627776))),
 ao 67 (.mv (.t 66)),
 ag 68 (.mv (.t 13)) 67 true [],
 ag 69 (.idxa 31 1 (.t 10) (.t 68)) 67 true [],
 ag 70 (.load none (.t 69)) 67 true [],
 ag 71 (.bin .lss (.t 70) (.c (i64 1099511627776))) 67 true [],
 ao 72 (.pick (.t 67) (.t 71) (.c (.bool false)))] [3, 4, 5, 7, 8, 9, 10, 13, 14, 58, 72]) (.cond (.t 72) (.region false [
 ao 73 (.mv (.t 13)),
 ao 74 (.idxa 31 1 (.t 10) (.t 73)),
 ao 75 (.load none (.t 74)),
 ao 76 (.mv (.t 14)),
 ao 77 (.bin .add (.t 75) (.t 76)),
 ao 78 (.idxa 31 1 (.t 10) (.t 73)),
 ⟨none, .store 1 (.t 78) (.t 77), none, [], []⟩] [3, 4, 5, 7, 8, 9, 10, 58]) (.region false [
 ao 79 (.mv (.t 13)),
 ao 80 (.idxa 31 1 (.t 10) (.t 79)),
 ⟨none, .store 1 (.t 80) (.c (i64 1099511627776)), none, [], []⟩] [3, 4, 5, 7, 8, 9, 10, 58])))))) (.region false [
 ao 81 (.bin .add (.t 58) (.c (i64 1))),
 ao 58 (.mv (.t 81))] [3, 4, 5, 7, 8, 9, 10, 58])))
def b79l2 : AC := .loop [3, 4, 5, 7, 8, 9, 10, 58] [32, 48, 64, 80, 112, 144, 160, 176, 288, 416, 480, 560, 768, 912, 1504, 1552] d79l2
def b79l3 : AC :=
 .seq (.region false [
 ao 8 (.mv (.t 31))] [2, 3, 4, 5, 7, 8, 32]) (.region false [
 ao 9 (.alloc [(i64 0), (i64 0), (i64 0), (i64 0), (i64 0), (i64 0)]),
 ⟨none, .store 6 (.t 9) (.t 32), none, [], []⟩] [2, 3, 4, 5, 7, 8, 9])
def b79l4 : AC :=
 .block 3 (.seq (.region false [
 ao 10 (.alloc [(i64 0), (i64 0), (i64 0), (i64 0), (i64 0), (i64 0), (i64 0), (i64 0), (i64 0), (i64 0), (i64 0), (i64 0), (i64 0), (i64 0), (i64 0), (i64 0), (i64 0), (i64 0), (i64 0), (i64 0), (i64 0), (i64 0), (i64 0), (i64 0), (i64 0), (i64 0), (i64 0), (i64 0), (i64 0), (i64 0), (i64 0)])] [2, 3, 4, 5, 7, 8, 9, 10]) (.seq (.seq (.region false [
 ao 33 (.load none (.t 2)),
 ao 34 (.mv (.t 8)),
 ao 35 (.call 95 [(.t 33), (.t 34)])] [3, 4, 5, 7, 8, 9, 10, 35]) (.cond (.t 35) (.seq (.region false [
 ao 11 (.alloc [(i64 0), (i64 0), (i64 0), (i64 0), (i64 0), (i64 0), (i64 0), (i64 0), (i64 0), (i64 0), (i64 0), (i64 0), (i64 0), (i64 0), (i64 0), (i64 0), (i64 0), (i64 0), (i64 0), (i64 0), (i64 0), (i64 0), (i64 0), (i64 0), (i64 0), (i64 0), (i64 0), (i64 0), (i64 0), (i64 0), (i64 0)])] [3, 4, 5, 7, 8, 9, 10, 11]) (.seq (.seq (.region false [
 ao 36 (.mv (.c (i64 0)))] [3, 4, 5, 7, 8, 9, 10, 11, 36]) (.block 4 (b79l1))) (.region true (spl [
 ao 52 (.load none (.t 5)),
 ao 53 (.mv (.t 8)),
 ap 54 (.idxs 31 (.t 52) (.t 53)) [0, 1],
 ap 55 (.load (some 31) (.t 54)) [2, 0, 1],
 ao 56 (.load (some 31) (.t 11))] [
 ap 57 (.call 108 [(.t 55), (.t 56)]) [3, 4, 2, 0, 1],
 ⟨none, .store 31 (.t 10) (.t 57), none, [5, 3, 4, 2, 0, 1], []⟩]) [3, 4, 5, 7, 8, 9, 10]))) (.skip))) (.seq (.seq (.region false [
 ao 58 (.mv (.c (i64 0)))] [3, 4, 5, 7, 8, 9, 10, 58]) (.block 6 (b79l2))) (.seq (.seq (.region false [
 ao 82 (.faddr 0 (.t 9)),
 ao 83 (.load none (.t 82)),
 ao 84 (.bin .neq (.t 83) (.c (i64 (-1))))] [4, 5, 7, 9, 10, 84]) (.cond (.t 84) (.seq (.region true (spl [
 ao 85 (.load none (.t 5)),
 ao 86 (.faddr 0 (.t 9)),
 ap 87 (.load none (.t 86)) [1],
 ao 88 (.load none (.t 5)),
 ao 89 (.faddr 0 (.t 9)),
 ap 90 (.load none (.t 89)) [4],
 ap 91 (.idxs 31 (.t 88) (.t 90)) [3, 5, 4],
 ap 92 (.load (some 31) (.t 91)) [6, 3, 5, 4],
 ao 93 (.load (some 31) (.t 10)),
 ap 94 (.call 108 [(.t 92), (.t 93)]) [7, 8, 6, 3, 5, 4]] [
 ap 95 (.idxs 31 (.t 85) (.t 87)) [0, 2, 9, 1, 7, 8, 6, 3, 5, 4],
 ⟨none, .store 31 (.t 95) (.t 94), none, [10, 0, 2, 9, 1, 7, 8, 6, 3, 5, 4], []⟩]) [4, 7]) (.exit 3)) (.skip))) (.seq (.region false [
 ao 96 (.slarr 31 (.t 10) none),
 ao 97 (.call 109 [(.t 96)]),
 ao 15 (.mv (.t 97))] [4, 7, 15]) (.seq (.seq (.region false [
 ao 98 (.mv (.t 15)),
 ao 99 (.bin .geq (.t 98) (.c (i64 1099511627776)))] [4, 7, 15, 99]) (.cond (.t 99) (.seq (.region false [
 ⟨none, .store 1 (.t 4) (.c (i64 1099511627776)), none, [], []⟩] [4]) (.ret)) (.skip))) (.region false [
 ao 100 (.load none (.t 7)),
 ao 101 (.mv (.t 15)),
 ao 102 (.bin .add (.t 100) (.t 101)),
 ⟨none, .store 1 (.t 7) (.t 102), none, [], []⟩] [4, 7])))))))
def b79 : AC :=
 .seq (.region false [
 ao 2 (.box (.t 0)),
 ao 3 (.box (.t 1)),
 ao 4 (.alloc [(i64 0)])] [2, 3, 4]) (.seq (.region false [
 ao 16 (.load none (.t 2)),
 ao 17 (.len (.t 16)),
 ao 18 (.mksl [(i64 0), (i64 0), (i64 0), (i64 0), (i64 0), (i64 0), (i64 0), (i64 0), (i64 0), (i64 0), (i64 0), (i64 0), (i64 0), (i64 0), (i64 0), (i64 0), (i64 0), (i64 0), (i64 0), (i64 0), (i64 0), (i64 0), (i64 0), (i64 0), (i64 0), (i64 0), (i64 0), (i64 0), (i64 0), (i64 0), (i64 0)] 248 (.t 17) (.t 17)),
 ao 5 (.alloc [(.sl .full 31 [])]),
 ⟨none, .store 1 (.t 5) (.t 18), none, [], []⟩] [2, 3, 4, 5]) (.seq (.seq (.region false [
 ao 19 (.load none (.t 5)),
 ao 20 (.len (.t 19)),
 ao 21 (.mv (.c (i64 0)))] [2, 3, 4, 5, 20, 21]) (.block 0 (b79l0))) (.seq (.region false [
 ao 7 (.alloc [(i64 0)]),
 ⟨none, .store 1 (.t 7) (.c (i64 0)), none, [], []⟩] [2, 3, 4, 5, 7]) (.seq (.seq (.region false [
 ao 29 (.load none (.t 2)),
 ao 30 (.call 93 [(.t 29)])] [2, 3, 4, 5, 7, 30]) (.block 2 (.rng 1264 [31, 32] b79l3 b79l4 (.t 30)))) (.seq (.region false [
 ao 103 (.load none (.t 7)),
 ⟨none, .store 1 (.t 4) (.t 103), none, [], []⟩] [4]) (.ret))))))
def a79 : AFn := ⟨2, [.cell 4 none], b79, false⟩
def n79 : Ann := ⟨[[2, 3, 4], [2, 3, 4, 5], [2, 3, 4, 5, 20, 21], [2, 3, 4, 5, 20, 21, 22], [2, 3, 4, 5, 6, 20, 21], [2, 3, 4, 5, 20, 21], [2, 3, 4, 5, 20, 21], [2, 3, 4, 5, 7], [2, 3, 4, 5, 7, 30], [2, 3, 4, 5, 7, 8, 32], [2, 3, 4, 5, 7, 8, 9], [2, 3, 4, 5, 7, 8, 9, 10], [3, 4, 5, 7, 8, 9, 10, 35], [3, 4, 5, 7, 8, 9, 10, 11], [3, 4, 5, 7, 8, 9, 10, 11, 36], [3, 4, 5, 7, 8, 9, 10, 11, 36, 37], [3, 4, 5, 7, 8, 9, 10, 11, 12, 36], [3, 4, 5, 7, 8, 9, 10, 11, 12, 36], [3, 4, 5, 7, 8, 9, 10, 11, 12, 36, 48], [3, 4, 5, 7, 8, 9, 10, 11, 36], [3, 4, 5, 7, 8, 9, 10, 11, 36], [3, 4, 5, 7, 8, 9, 10], [3, 4, 5, 7, 8, 9, 10, 58], [3, 4, 5, 7, 8, 9, 10, 58, 59], [3, 4, 5, 7, 8, 9, 10, 13, 58], [3, 4, 5, 7, 8, 9, 10, 13, 14, 58], [3, 4, 5, 7, 8, 9, 10, 13, 14, 58, 72], [3, 4, 5, 7, 8, 9, 10, 58], [3, 4, 5, 7, 8, 9, 10, 58], [3, 4, 5, 7, 8, 9, 10, 58], [4, 5, 7, 9, 10, 84], [4, 7], [4, 7, 15], [4, 7, 15, 99], [4], [4, 7], [4]], [⟨[], [2, 3, 4, 5, 20, 21], [32, 48, 64, 80, 112, 144, 160, 176, 288, 480, 560, 768, 912, 1024, 1504, 1552]⟩, ⟨[], [3, 4, 5, 7, 8, 9, 10, 11, 36], [32, 48, 64, 80, 112, 144, 160, 176, 288, 416, 480, 560, 912, 1024, 1504, 1552]⟩, ⟨[], [3, 4, 5, 7, 8, 9, 10, 58], [32, 48, 64, 80, 112, 144, 160, 176, 288, 416, 480, 560, 768, 912, 1504, 1552]⟩], [1264], [], [], false, [(101, 1552), (98, 1552), (15, 1552)]⟩
def b80 : AC :=
 .seq (.region false [
 ao 6 (.mv (.c (i64 0)))] [0, 1, 2, 3]) (.seq (.seq (.region false [
 ao 7 (.mv (.t 0)),
 ao 8 (.load none (.t 2)),
 ao 9 (.len (.t 8)),
 ao 10 (.bin .lss (.t 7) (.t 9)),
 ao 11 (.mv (.t 10)),
 ag 12 (.mv (.t 1)) 11 true [],
 ag 13 (.load none (.t 2)) 11 true [],
 ag 14 (.mv (.t 0)) 11 true [],
 ag 15 (.idxs 1 (.t 13) (.t 14)) 11 true [],
 ag 16 (.load none (.t 15)) 11 true [],
 ag 17 (.bin .neq (.t 12) (.t 16)) 11 true [],
 ao 18 (.pick (.t 11) (.t 17) (.c (.bool false)))] [0, 1, 3, 18]) (.cond (.t 18) (.seq (.region false [
 ao 6 (.mv (.c (i64 1099511627776)))] [6]) (.ret)) (.skip))) (.seq (.region false [
 ao 19 (.load none (.t 3)),
 ao 20 (.mv (.t 0)),
 ao 21 (.mv (.t 1)),
 ao 22 (.call 81 [(.t 19), (.t 20), (.t 21)]),
 ao 6 (.mv (.t 22))] [6]) (.ret)))
def a80 : AFn := ⟨4, [.t 6], b80, false⟩
def n80 : Ann := ⟨[[0, 1, 2, 3], [0, 1, 3, 18], [6], [6]], [], [], [], [], false, [(6, 352)]⟩
def b81 : AC :=
 .seq (.region false [
 ao 6 (.mv (.c (i64 0)))] [0, 1, 2]) (.seq (.region false [
 ao 8 (.mv (.t 0)),
 ao 9 (.mv (.t 1)),
 ao 10 (.idxs 6 (.t 8) (.t 9)),
 ao 11 (.faddr 1 (.t 10)),
 ao 12 (.load (some 2) (.t 11)),
 ao 7 (.alloc [(i64 0), (i64 0)]),
 ⟨none, .store 2 (.t 7) (.t 12), none, [], []⟩] [2, 7]) (.seq (.region false [
 ao 13 (.faddr 0 (.t 7)),
 ao 14 (.load none (.t 13)),
 ao 15 (.mv (.t 2)),
 ao 16 (.bin .sub (.t 14) (.t 15)),
 ao 17 (.mv (.t 2)),
 ao 18 (.faddr 1 (.t 7)),
 ao 19 (.load none (.t 18)),
 ao 20 (.bin .sub (.t 17) (.t 19)),
 ao 21 (.mm3 true (.c (i64 0)) (.t 16) (.t 20)),
 ao 6 (.mv (.t 21))] [6]) (.ret)))
def a81 : AFn := ⟨3, [.t 6], b81, false⟩
def n81 : Ann := ⟨[[0, 1, 2], [2, 7], [6]], [], [], [], [], false, []⟩
def b82 : AC :=
 .seq (.region false [
 ao 2 (.box (.t 0)),
 ao 4 (.mv (.c (i64 0)))] [1, 2]) (.seq (.region false [
 ao 5 (.faddr 0 (.t 2)),
 ao 6 (.load none (.t 5)),
 ao 7 (.mv (.t 1)),
 ao 8 (.bin .sub (.t 6) (.t 7)),
 ao 9 (.mv (.t 1)),
 ao 10 (.faddr 1 (.t 2)),
 ao 11 (.load none (.t 10)),
 ao 12 (.bin .sub (.t 9) (.t 11)),
 ao 13 (.mm3 true (.c (i64 0)) (.t 8) (.t 12)),
 ao 4 (.mv (.t 13))] [4]) (.ret))
def a82 : AFn := ⟨2, [.t 4], b82, false⟩
def n82 : Ann := ⟨[[1, 2], [4]], [], [], [], [], false, []⟩
def b83 : AC :=
 .seq (.region false [
 ao 4 (.box (.t 0)),
 ao 5 (.mv (.c (.bool false)))] [1, 2, 3, 4]) (.seq (.region true (spl [
 ao 6 (.load none (.t 1)),
 ao 7 (.mkfn 84 [] [(.t 1), (.t 2), (.t 4)]),
 ap 8 (.call 79 [(.t 6), (.t 7)]) [0, 1],
 ao 9 (.load none (.t 3))] [
 ap 10 (.bin .eql (.t 8) (.t 9)) [2, 3, 0, 1],
 ap 5 (.mv (.t 10)) [4, 2, 3, 0, 1]]) [5]) (.ret))
def a83 : AFn := ⟨4, [.t 5], b83, false⟩
def n83 : Ann := ⟨[[1, 2, 3, 4], [5]], [], [], [], [], false, []⟩
def b84 : AC :=
 .seq (.region false [
 ao 7 (.mv (.c (i64 0)))] [0, 1, 2, 3, 4]) (.seq (.seq (.region false [
 ao 9 (.load none (.t 2)),
 ao 10 (.mv (.t 0)),
 ao 11 (.mv (.t 1)),
 ao 12 (.call 81 [(.t 9), (.t 10), (.t 11)]),
 ao 8 (.mv (.t 12))] [0, 3, 4, 8]) (.seq (.region false [
 ao 13 (.mv (.t 0)),
 ao 14 (.load none (.t 3)),
 ao 15 (.bin .neq (.t 13) (.t 14)),
 ao 16 (.mv (.t 15)),
 ag 17 (.mv (.t 8)) 16 false [],
 ag 18 (.bin .gtr (.t 17) (.c (i64 0))) 16 false [],
 ag 19 (.load none (.t 4)) 16 false [],
 ag 20 (.eqb false (.t 18) (.t 19)) 16 false [],
 ao 21 (.pick (.t 16) (.c (.bool true)) (.t 20))] [8, 21]) (.cond (.t 21) (.seq (.region false [
 ao 22 (.mv (.t 8)),
 ao 7 (.mv (.t 22))] [7]) (.ret)) (.skip)))) (.seq (.region false [
 ao 7 (.mv (.c (i64 1099511627776)))] [7]) (.ret)))
def a84 : AFn := ⟨5, [.t 7], b84, false⟩
def n84 : Ann := ⟨[[0, 1, 2, 3, 4], [0, 3, 4, 8], [8, 21], [7], [7]], [], [], [], [], false, [(7, 192), (22, 192), (17, 192), (8, 192)]⟩
def b86 : AC :=
 .seq (.region false [
 ao 4 (.mv (.c (i64 0)))] [0, 1]) (.seq (.seq (.region false [
 ao 6 (.mv (.t 0)),
 ao 7 (.mv (.t 1)),
 ao 8 (.call 110 [(.t 6), (.t 7)]),
 ao 5 (.mv (.t 8))] [0, 5]) (.seq (.region false [
 ao 9 (.mv (.t 5)),
 ao 10 (.bin .neq (.t 9) (.c (i64 0)))] [0, 5, 10]) (.cond (.t 10) (.seq (.region false [
 ao 11 (.mv (.t 5)),
 ao 4 (.mv (.t 11))] [4]) (.ret)) (.skip)))) (.seq (.seq (.region false [
 ao 12 (.mv (.t 0)),
 ao 13 (.mv (.t 0)),
 ao 14 (.call 87 [(.t 13)]),
 ao 15 (.call 65 [(.t 12), (.t 14)]),
 ao 16 (.call 64 [(.t 15)]),
 ao 17 (.un .not (.t 16))] [17]) (.cond (.t 17) (.seq (.region false [
 ao 4 (.mv (.c (i64 3)))] [4]) (.ret)) (.skip))) (.seq (.region false [
 ao 4 (.mv (.c (i64 0)))] [4]) (.ret))))
def a86 : AFn := ⟨2, [.t 4], b86, false⟩
def n86 : Ann := ⟨[[0, 1], [0, 5], [0, 5, 10], [4], [17], [4], [4]], [], [], [], [], false, [(4, 128), (11, 128), (9, 128), (5, 128)]⟩
@[simp] def d87l1 : AC :=
 .seq (.seq (.region false [
 ao 14 (.mv (.t 5)),
 ao 15 (.bin .leq (.t 14) (.c (i64 30)))] [0, 3, 4, 5, 15]) (.cond (.t 15) (.skip) (.exit 2))) (.seq (.block 3 (.region true (spl [
 ao 18 (.mv (.t 3)),
 ao 19 (.mv (.t 4)),
 ap 20 (.idxs 1 (.t 18) (.t 19)) [0, 1],
 ap 21 (.load none (.t 20)) [2, 0, 1],
 ao 22 (.mv (.t 5)),
 ao 23 (.mv (.t 0)),
 ao 24 (.mv (.t 4)),
 ap 25 (.idxs 6 (.t 23) (.t 24)) [5, 6],
 ap 26 (.faddr 1 (.t 25)) [7, 5, 6],
 ap 27 (.load (some 2) (.t 26)) [8, 7, 5, 6],
 ao 28 (.mv (.t 5)),
 ap 29 (.call 82 [(.t 27), (.t 28)]) [9, 10, 8, 7, 5, 6]] [
 ap 30 (.idxs 1 (.t 21) (.t 22)) [3, 4, 11, 2, 0, 1, 9, 10, 8, 7, 5, 6],
 ⟨none, .store 1 (.t 30) (.t 29), none, [12, 3, 4, 11, 2, 0, 1, 9, 10, 8, 7, 5, 6], []⟩]) [0, 3, 4, 5])) (.region false [
 ao 16 (.mv (.t 5)),
 ao 17 (.bin .add (.t 16) (.c (i64 1))),
 ao 5 (.mv (.t 17))] [0, 3, 4, 5]))
def b87l1 : AC := .loop [0, 3, 4, 5] [112, 1112, 2112, 3112, 4112, 5112, 6112, 7112, 8112] d87l1
@[simp] def d87l0 : AC :=
 .seq (.seq (.region false [
 ao 8 (.mv (.t 4)),
 ao 9 (.mv (.t 0)),
 ao 10 (.len (.t 9)),
 ao 11 (.bin .lss (.t 8) (.t 10))] [0, 3, 4, 11]) (.cond (.t 11) (.skip) (.exit 0))) (.seq (.block 1 (.seq (.region false [
 ao 5 (.mv (.c (i64 0)))] [0, 3, 4, 5]) (.block 2 (b87l1)))) (.region false [
 ao 12 (.mv (.t 4)),
 ao 13 (.bin .add (.t 12) (.c (i64 1))),
 ao 4 (.mv (.t 13))] [0, 3, 4]))
def b87l0 : AC := .loop [0, 3, 4] [112, 1112, 2112, 3112, 4112, 5112, 6112, 7112, 8112] d87l0
def b87 : AC :=
 .seq (.region false [
 ao 2 (.mv (.c (.sl .full 1 [])))] [0]) (.seq (.region false [
 ao 6 (.mv (.t 0)),
 ao 7 (.call 101 [(.t 6)]),
 ao 3 (.mv (.t 7))] [0, 3]) (.seq (.seq (.region false [
 ao 4 (.mv (.c (i64 0)))] [0, 3, 4]) (.block 0 (b87l0))) (.seq (.region false [
 ao 31 (.mv (.t 3)),
 ao 2 (.mv (.t 31))] [2]) (.ret))))
def a87 : AFn := ⟨1, [.t 2], b87, true⟩
def n87 : Ann := ⟨[[0], [0, 3], [0, 3, 4], [0, 3, 4, 11], [0, 3, 4, 5], [0, 3, 4, 5, 15], [0, 3, 4, 5], [0, 3, 4, 5], [0, 3, 4], [2]], [⟨[], [0, 3, 4], [112, 1112, 2112, 3112, 4112, 5112, 6112, 7112, 8112]⟩, ⟨[], [0, 3, 4, 5], [112, 1112, 2112, 3112, 4112, 5112, 6112, 7112, 8112]⟩], [], [], [], true, [(2, 112), (31, 112), (18, 112), (3, 112)]⟩
@[simp] def d88l0 : AC :=
 .seq (.seq (.region false [
 ao 4 (.mv (.t 2)),
 ao 5 (.mv (.t 1)),
 ao 6 (.len (.t 5)),
 ao 7 (.bin .lss (.t 4) (.t 6))] [1, 2, 7]) (.cond (.t 7) (.skip) (.exit 0))) (.seq (.block 1 (.region false [
 ao 10 (.mv (.t 1)),
 ao 11 (.mv (.t 2)),
 ao 12 (.idxs 1 (.t 10) (.t 11)),
 ⟨none, .store 1 (.t 12) (.c (i64 1099511627776)), none, [], []⟩] [1, 2])) (.region false [
 ao 8 (.mv (.t 2)),
 ao 9 (.bin .add (.t 8) (.c (i64 1))),
 ao 2 (.mv (.t 9))] [1, 2]))
def b88l0 : AC := .loop [1, 2] [48] d88l0
def b88 : AC :=
 .seq (.region false [
 ao 0 (.mv (.c (.sl .full 1 [])))] []) (.seq (.region false [
 ao 3 (.mksl [(i64 0)] 8 (.c (i64 31)) (.c (i64 31))),
 ao 1 (.mv (.t 3))] [1]) (.seq (.seq (.region false [
 ao 2 (.mv (.c (i64 0)))] [1, 2]) (.block 0 (b88l0))) (.seq (.region false [
 ao 13 (.mv (.t 1)),
 ao 0 (.mv (.t 13))] [0]) (.ret))))
def a88 : AFn := ⟨0, [.t 0], b88, true⟩
def n88 : Ann := ⟨[[], [1], [1, 2], [1, 2, 7], [1, 2], [1, 2], [0]], [⟨[], [1, 2], [48]⟩], [], [], [], true, []⟩
def b93 : AC :=
 .seq (.region false [
 ao 1 (.box (.t 0)),
 ao 2 (.mv (.c .nilf))] [1]) (.seq (.region false [
 ao 3 (.mkfn 112 [] [(.t 1)]),
 ao 2 (.mv (.t 3))] [2]) (.ret))
def a93 : AFn := ⟨1, [.t 2], b93, false⟩
def n93 : Ann := ⟨[[1], [2]], [], [], [], [], false, []⟩
def b94 : AC :=
 .seq (.region false [
 ao 6 (.mv (.c (.bool false)))] [0, 1, 2]) (.seq (.region false [
 ao 7 (.mv (.t 0)),
 ao 8 (.mv (.t 1)),
 ao 9 (.bin .geq (.t 7) (.t 8)),
 ao 10 (.mv (.t 9)),
 ag 11 (.mv (.t 0)) 10 true [],
 ag 12 (.mv (.t 2)) 10 true [],
 ag 13 (.bin .leq (.t 11) (.t 12)) 10 true [],
 ao 14 (.pick (.t 10) (.t 13) (.c (.bool false))),
 ao 6 (.mv (.t 14))] [6]) (.ret))
def a94 : AFn := ⟨3, [.t 6], b94, false⟩
def n94 : Ann := ⟨[[0, 1, 2], [6]], [], [], [], [], false, []⟩
def b95 : AC :=
 .seq (.region false [
 ao 3 (.box (.t 1)),
 ao 4 (.mv (.c (.bool false)))] [0, 3]) (.seq (.region false [
 ao 5 (.mv (.t 0)),
 ao 6 (.mkfn 114 [] [(.t 3)]),
 ao 7 (.call 113 [(.t 5), (.t 6)]),
 ao 4 (.mv (.t 7))] [4]) (.ret))
def a95 : AFn := ⟨2, [.t 4], b95, false⟩
def n95 : Ann := ⟨[[0, 3], [4]], [], [], [], [], false, [(4, 112)]⟩
def b97 : AC :=
 .seq (.region false [
 ao 1 (.box (.t 0)),
 ao 2 (.mv (.c (.bool false)))] [1]) (.seq (.region false [
 ao 3 (.faddr 1 (.t 1)),
 ao 4 (.load none (.t 3)),
 ao 5 (.call 59 [(.t 4), (.c (i64 0)), (.c (i64 30))]),
 ao 6 (.mv (.t 5)),
 ag 7 (.faddr 0 (.t 1)) 6 true [],
 ag 8 (.load none (.t 7)) 6 true [],
 ag 9 (.faddr 1 (.t 1)) 6 true [],
 ag 10 (.load none (.t 9)) 6 true [],
 ag 11 (.call 59 [(.t 8), (.c (i64 0)), (.t 10)]) 6 true [],
 ao 12 (.pick (.t 6) (.t 11) (.c (.bool false))),
 ao 2 (.mv (.t 12))] [2]) (.ret))
def a97 : AFn := ⟨1, [.t 2], b97, false⟩
def n97 : Ann := ⟨[[1], [2]], [], [], [], [], false, [(6, 80)]⟩
def b98 : AC :=
 .seq (.region false [
 ao 12 (.alloc [(i64 0), (i64 0), (i64 0), (i64 0), (i64 0), (i64 0)])] [0, 1, 2, 3, 4, 5, 12]) (.seq (.region false [
 ao 13 (.mv (.t 0)),
 ao 14 (.mv (.t 1)),
 ao 15 (.mv (.t 2)),
 ao 16 (.build [(i64 0), (i64 0)] [(0, 1, (.t 14)), (1, 1, (.t 15))]),
 ao 17 (.mv (.t 3)),
 ao 18 (.mv (.t 4)),
 ao 19 (.build [(i64 0), (i64 0)] [(0, 1, (.t 17)), (1, 1, (.t 18))]),
 ao 20 (.mv (.t 5)),
 ao 21 (.build [(i64 0), (i64 0), (i64 0), (i64 0), (i64 0), (i64 0)] [(0, 1, (.t 13)), (1, 2, (.t 16)), (3, 2, (.t 19)), (5, 1, (.t 20))]),
 ⟨none, .store 6 (.t 12) (.t 21), none, [], []⟩] [12]) (.ret))
def a98 : AFn := ⟨6, [.cell 12 (some 6)], b98, false⟩
def n98 : Ann := ⟨[[0, 1, 2, 3, 4, 5, 12], [12]], [], [], [], [], false, []⟩
def b99 : AC :=
 .seq (.region false [
 ao 3 (.box (.t 1)),
 ao 4 (.alloc [(i64 0), (i64 0)]),
 ao 5 (.mv (.c (.bool false)))] [0, 3, 4]) (.seq (.region false [
 ao 8 (.mv (.t 0)),
 ao 9 (.mv (.t 0)),
 ao 10 (.mkfn 116 [] [(.t 3)]),
 ao 11 (.call 115 [(.t 9), (.t 10)]),
 ao 12 (.call 79 [(.t 8), (.t 11)]),
 ao 6 (.mv (.t 12))] [0, 3, 4, 6]) (.seq (.region false [
 ao 13 (.mv (.t 0)),
 ao 14 (.mv (.t 0)),
 ao 15 (.mkfn 117 [] [(.t 3)]),
 ao 16 (.call 115 [(.t 14), (.t 15)]),
 ao 17 (.call 79 [(.t 13), (.t 16)]),
 ao 7 (.mv (.t 17))] [4, 6, 7]) (.seq (.region false [
 ao 18 (.mv (.t 6)),
 ao 19 (.mv (.t 7)),
 ao 20 (.un .neg (.t 19)),
 ao 21 (.build [(i64 0), (i64 0)] [(0, 1, (.t 18)), (1, 1, (.t 20))]),
 ao 22 (.mv (.t 6)),
 ao 23 (.bin .lss (.t 22) (.c (i64 1099511627776))),
 ⟨none, .store 2 (.t 4) (.t 21), none, [], []⟩,
 ao 5 (.mv (.t 23))] [4, 5]) (.ret))))
def a99 : AFn := ⟨2, [.cell 4 (some 2), .t 5], b99, false⟩
def n99 : Ann := ⟨[[0, 3, 4], [0, 3, 4, 6], [4, 6, 7], [4, 5]], [], [], [], [], false, [(22, 192), (19, 272), (18, 192), (7, 272), (6, 192)]⟩
@[simp] def d100l1 : AC :=
 .seq (.seq (.region false [
 ao 15 (.mv (.t 6)),
 ao 16 (.mv (.t 7)),
 ao 17 (.bin .add (.t 15) (.t 16)),
 ao 18 (.mv (.t 5)),
 ao 19 (.len (.t 18)),
 ao 20 (.bin .lss (.t 17) (.t 19))] [0, 1, 5, 6, 7, 20]) (.cond (.t 20) (.skip) (.exit 2))) (.seq (.block 3 (.region true (spl [
 ao 23 (.mv (.t 5)),
 ao 24 (.mv (.t 6)),
 ao 25 (.mv (.t 7)),
 ap 26 (.bin .add (.t 24) (.t 25)) [1, 2],
 ao 27 (.mv (.t 5)),
 ao 28 (.mv (.t 6)),
 ao 29 (.mv (.t 7)),
 ap 30 (.bin .add (.t 28) (.t 29)) [5, 6],
 ap 31 (.idxs 1 (.t 27) (.t 30)) [4, 7, 5, 6],
 ap 32 (.load none (.t 31)) [8, 4, 7, 5, 6],
 ao 33 (.mv (.t 0)),
 ao 34 (.mv (.t 6)),
 ap 35 (.idxs 1 (.t 33) (.t 34)) [10, 11],
 ap 36 (.load none (.t 35)) [12, 10, 11],
 ao 37 (.mv (.t 1)),
 ao 38 (.mv (.t 7)),
 ap 39 (.idxs 1 (.t 37) (.t 38)) [14, 15],
 ap 40 (.load none (.t 39)) [16, 14, 15],
 ap 41 (.bin .add (.t 36) (.t 40)) [13, 17, 12, 10, 11, 16, 14, 15],
 ap 42 (.mm false (.t 32) (.t 41)) [9, 18, 8, 4, 7, 5, 6, 13, 17, 12, 10, 11, 16, 14, 15]] [
 ap 43 (.idxs 1 (.t 23) (.t 26)) [0, 3, 19, 1, 2, 9, 18, 8, 4, 7, 5, 6, 13, 17, 12, 10, 11, 16, 14, 15],
 ⟨none, .store 1 (.t 43) (.t 42), none, [20, 0, 3, 19, 1, 2, 9, 18, 8, 4, 7, 5, 6, 13, 17, 12, 10, 11, 16, 14, 15], []⟩]) [0, 1, 5, 6, 7])) (.region false [
 ao 21 (.mv (.t 7)),
 ao 22 (.bin .add (.t 21) (.c (i64 1))),
 ao 7 (.mv (.t 22))] [0, 1, 5, 6, 7]))
def b100l1 : AC := .loop [0, 1, 5, 6, 7] [128] d100l1
@[simp] def d100l0 : AC :=
 .seq (.seq (.region false [
 ao 9 (.mv (.t 6)),
 ao 10 (.mv (.t 0)),
 ao 11 (.len (.t 10)),
 ao 12 (.bin .lss (.t 9) (.t 11))] [0, 1, 5, 6, 12]) (.cond (.t 12) (.skip) (.exit 0))) (.seq (.block 1 (.seq (.region false [
 ao 7 (.mv (.c (i64 0)))] [0, 1, 5, 6, 7]) (.block 2 (b100l1)))) (.region false [
 ao 13 (.mv (.t 6)),
 ao 14 (.bin .add (.t 13) (.c (i64 1))),
 ao 6 (.mv (.t 14))] [0, 1, 5, 6]))
def b100l0 : AC := .loop [0, 1, 5, 6] [128] d100l0
def b100 : AC :=
 .seq (.region false [
 ao 4 (.mv (.c (.sl .full 1 [])))] [0, 1]) (.seq (.region false [
 ao 8 (.call 88 []),
 ao 5 (.mv (.t 8))] [0, 1, 5]) (.seq (.seq (.region false [
 ao 6 (.mv (.c (i64 0)))] [0, 1, 5, 6]) (.block 0 (b100l0))) (.seq (.region false [
 ao 44 (.mv (.t 5)),
 ao 4 (.mv (.t 44))] [4]) (.ret))))
def a100 : AFn := ⟨2, [.t 4], b100, false⟩
def n100 : Ann := ⟨[[0, 1], [0, 1, 5], [0, 1, 5, 6], [0, 1, 5, 6, 12], [0, 1, 5, 6, 7], [0, 1, 5, 6, 7, 20], [0, 1, 5, 6, 7], [0, 1, 5, 6, 7], [0, 1, 5, 6], [4]], [⟨[], [0, 1, 5, 6], [128]⟩, ⟨[], [0, 1, 5, 6, 7], [128]⟩], [], [], [], false, [(4, 128), (44, 128), (27, 128), (23, 128), (18, 128), (5, 128)]⟩
@[simp] def d101l0 : AC :=
 .seq (.seq (.region false [
 ao 5 (.mv (.t 4)),
 ao 6 (.mv (.t 0)),
 ao 7 (.len (.t 6)),
 ao 8 (.bin .lss (.t 5) (.t 7))] [0, 3, 4, 8]) (.cond (.t 8) (.skip) (.exit 0))) (.seq (.block 1 (.region false [
 ao 11 (.mv (.t 3)),
 ao 12 (.mkslD [(i64 0)] 8 (.c (i64 31)) (.c (i64 31))),
 ao 13 (.litm [(.sl .full 1 [])] 1 [(0, (.t 12))]),
 ao 14 (.app 1 24 (.t 11) (.t 13)),
 ao 3 (.mv (.t 14))] [0, 3, 4])) (.region false [
 ao 9 (.mv (.t 4)),
 ao 10 (.bin .add (.t 9) (.c (i64 1))),
 ao 4 (.mv (.t 10))] [0, 3, 4]))
def b101l0 : AC := .loop [0, 3, 4] [49, 192, 1192, 2192, 3192, 4192, 5192, 6192, 7192, 8192] d101l0
def b101 : AC :=
 .seq (.region false [
 ao 2 (.mv (.c (.sl .full 1 [])))] [0]) (.seq (.region false [
 ao 3 (.mv (.c (.sl .full 1 [])))] [0, 3]) (.seq (.seq (.region false [
 ao 4 (.mv (.c (i64 0)))] [0, 3, 4]) (.block 0 (.seq (.thaw 3 49 101) (b101l0)))) (.seq (.region false [
 ao 15 (.mv (.t 3)),
 ao 2 (.mv (.t 15))] [2]) (.ret))))
def a101 : AFn := ⟨1, [.t 2], b101, true⟩
def n101 : Ann := ⟨[[0], [0, 3], [0, 3, 4], [0, 3, 4, 8], [0, 3, 4], [0, 3, 4], [2]], [⟨[.t 3 49 101], [0, 3, 4], [49, 192, 1192, 2192, 3192, 4192, 5192, 6192, 7192, 8192]⟩], [], [], [12, 13], true, []⟩
@[simp] def d102l0 : AC :=
 .seq (.region false [
 ao 11 (.bin .lss (.t 10) (.t 9))] [8, 9, 10, 11]) (.seq (.cond (.t 11) (.skip) (.exit 0)) (.seq (.block 1 (.seq (.region false [
 ao 12 (.mv (.t 10)),
 ao 13 (.idxs 6 (.t 8) (.t 10)),
 ao 14 (.load (some 6) (.t 13)),
 ao 4 (.alloc [(i64 0), (i64 0), (i64 0), (i64 0), (i64 0), (i64 0)]),
 ao 3 (.mv (.t 12)),
 ⟨none, .store 6 (.t 4) (.t 14), none, [], []⟩] [3, 4, 8, 9, 10]) (.seq (.region false [
 ao 15 (.faddr 0 (.t 4)),
 ao 16 (.load none (.t 15)),
 ao 17 (.mv (.t 3)),
 ao 18 (.bin .sub (.t 17) (.c (i64 1))),
 ao 19 (.call 94 [(.t 16), (.c (i64 (-1))), (.t 18)]),
 ao 20 (.un .not (.t 19)),
 ao 21 (.mv (.t 20)),
 ag 22 (.faddr 1 (.t 4)) 21 false [],
 ag 23 (.load (some 2) (.t 22)) 21 false [],
 ag 24 (.call 118 [(.t 23)]) 21 false [],
 ag 25 (.un .not (.t 24)) 21 false [],
 ao 26 (.pick (.t 21) (.c (.bool true)) (.t 25)),
 ao 27 (.mv (.t 26)),
 ag 28 (.faddr 3 (.t 4)) 27 false [],
 ag 29 (.load (some 2) (.t 28)) 27 false [],
 ag 30 (.call 118 [(.t 29)]) 27 false [],
 ag 31 (.un .not (.t 30)) 27 false [],
 ao 32 (.pick (.t 27) (.c (.bool true)) (.t 31)),
 ao 33 (.mv (.t 32)),
 ag 34 (.faddr 5 (.t 4)) 33 false [],
 ag 35 (.load none (.t 34)) 33 false [],
 ag 36 (.call 94 [(.t 35), (.c (i64 0)), (.c (i64 99))]) 33 false [],
 ag 37 (.un .not (.t 36)) 33 false [],
 ao 38 (.pick (.t 33) (.c (.bool true)) (.t 37))] [8, 9, 10, 38]) (.cond (.t 38) (.seq (.region false [
 ao 2 (.mv (.c (i64 70)))] [2]) (.ret)) (.skip))))) (.region false [
 ao 39 (.bin .add (.t 10) (.c (i64 1))),
 ao 10 (.mv (.t 39))] [8, 9, 10])))
def b102l0 : AC := .loop [8, 9, 10] [] d102l0
def b102 : AC :=
 .seq (.region false [
 ao 2 (.mv (.c (i64 0)))] [0]) (.seq (.seq (.region false [
 ao 5 (.mv (.t 0)),
 ao 6 (.len (.t 5)),
 ao 7 (.bin .gtr (.t 6) (.c (i64 8)))] [0, 7]) (.cond (.t 7) (.seq (.region false [
 ao 2 (.mv (.c (i64 70)))] [2]) (.ret)) (.skip))) (.seq (.seq (.region false [
 ao 8 (.mv (.t 0)),
 ao 9 (.len (.t 8)),
 ao 10 (.mv (.c (i64 0)))] [8, 9, 10]) (.block 0 (b102l0))) (.seq (.region false [
 ao 2 (.mv (.c (i64 0)))] [2]) (.ret))))
def a102 : AFn := ⟨1, [.t 2], b102, false⟩
def n102 : Ann := ⟨[[0], [0, 7], [2], [8, 9, 10], [8, 9, 10, 11], [3, 4, 8, 9, 10], [8, 9, 10, 38], [2], [8, 9, 10], [2]], [⟨[], [8, 9, 10], []⟩], [], [], [], false, []⟩
def b103 : AC :=
 .seq (.region false [
 ao 4 (.mv (.c (.bool false)))] [0, 1]) (.seq (.region false [
 ao 5 (.mv (.t 0)),
 ao 6 (.mv (.t 1)),
 ao 7 (.call 119 [(.t 5), (.t 6)]),
 ao 8 (.bin .geq (.t 7) (.c (i64 0))),
 ao 4 (.mv (.t 8))] [4]) (.ret))
def a103 : AFn := ⟨2, [.t 4], b103, false⟩
def n103 : Ann := ⟨[[0, 1], [4]], [], [], [], [], false, []⟩
def b104 : AC :=
 .seq (.region false [
 ao 4 (.mv (.c (i64 0)))] [0, 1, 2]) (.seq (.region false [
 ao 6 (.load none (.t 1)),
 ao 7 (.mv (.t 0)),
 ao 8 (.idxs 6 (.t 6) (.t 7)),
 ao 9 (.load (some 6) (.t 8)),
 ao 5 (.alloc [(i64 0), (i64 0), (i64 0), (i64 0), (i64 0), (i64 0)]),
 ⟨none, .store 6 (.t 5) (.t 9), none, [], []⟩] [0, 2, 5]) (.seq (.seq (.region false [
 ao 10 (.load none (.t 2)),
 ao 11 (.mv (.t 0)),
 ao 12 (.call 103 [(.t 10), (.t 11)]),
 ao 13 (.mv (.t 12)),
 ag 14 (.faddr 0 (.t 5)) 13 false [],
 ag 15 (.load none (.t 14)) 13 false [],
 ag 16 (.bin .neq (.t 15) (.c (i64 (-1)))) 13 false [],
 ag 17 (.mv (.t 16)) 13 false [],
 ag 18 (.load none (.t 2)) 17 true [],
 ag 19 (.faddr 0 (.t 5)) 17 true [],
 ag 20 (.load none (.t 19)) 17 true [],
 ag 21 (.call 103 [(.t 18), (.t 20)]) 17 true [],
 ag 22 (.un .not (.t 21)) 17 true [],
 ag 23 (.pick (.t 17) (.t 22) (.c (.bool false))) 13 false [],
 ao 24 (.pick (.t 13) (.c (.bool true)) (.t 23))] [5, 24]) (.cond (.t 24) (.seq (.region false [
 ao 4 (.mv (.c (i64 0)))] [4]) (.ret)) (.skip))) (.seq (.region false [
 ao 25 (.faddr 5 (.t 5)),
 ao 26 (.load none (.t 25)),
 ao 4 (.mv (.t 26))] [4]) (.ret))))
def a104 : AFn := ⟨3, [.t 4], b104, false⟩
def n104 : Ann := ⟨[[0, 1, 2], [0, 2, 5], [5, 24], [4], [4]], [], [], [], [], false, [(13, 192)]⟩
@[simp] def d105l1 : AC :=
 .seq (.region false [
 ao 19 (.bin .lss (.t 18) (.t 17))] [0, 1, 4, 5, 12, 13, 16, 17, 18, 19]) (.seq (.cond (.t 19) (.skip) (.exit 2)) (.seq (.block 3 (.seq (.region false [
 ao 20 (.idxs 1 (.t 16) (.t 18)),
 ao 21 (.load none (.t 20)),
 ao 7 (.mv (.t 21))] [0, 1, 4, 5, 7, 12, 13, 16, 17, 18]) (.seq (.region false [
 ao 22 (.mv (.t 7)),
 ao 23 (.mv (.t 7)),
 ao 24 (.len (.t 23)),
 ao 25 (.mv (.t 7)),
 ao 26 (.len (.t 25)),
 ao 27 (.slice 1 (.t 22) none (some (.t 24)) (some (.t 26))),
 ao 28 (.mv (.t 5)),
 ao 29 (.lit [(i64 0)] 1 [(0, (.t 28))]),
 ao 30 (.app 1 8 (.t 27) (.t 29)),
 ao 7 (.mv (.t 30))] [0, 1, 4, 5, 7, 12, 13, 16, 17, 18]) (.seq (.region false [
 ao 31 (.mv (.t 0)),
 ao 32 (.mv (.t 7)),
 ao 33 (.call 68 [(.t 31), (.t 32)])] [0, 1, 4, 5, 7, 12, 13, 16, 17, 18, 33]) (.cond (.t 33) (.region false [
 ao 34 (.mv (.t 4)),
 ao 35 (.mv (.t 7)),
 ao 36 (.lit [(.sl .full 1 [])] 1 [(0, (.t 35))]),
 ao 37 (.app 1 24 (.t 34) (.t 36)),
 ao 4 (.mv (.t 37))] [0, 1, 4, 5, 12, 13, 16, 17, 18]) (.skip)))))) (.region false [
 ao 38 (.bin .add (.t 18) (.c (i64 1))),
 ao 18 (.mv (.t 38))] [0, 1, 4, 5, 12, 13, 16, 17, 18])))
def b105l1 : AC := .loop [0, 1, 4, 5, 12, 13, 16, 17, 18] [65, 160, 656, 800] d105l1
@[simp] def d105l0 : AC :=
 .seq (.region false [
 ao 14 (.bin .lss (.t 13) (.t 12))] [0, 1, 4, 12, 13, 14]) (.seq (.cond (.t 14) (.skip) (.exit 0)) (.seq (.block 1 (.seq (.region false [
 ao 15 (.mv (.t 13)),
 ao 5 (.mv (.t 15))] [0, 1, 4, 5, 12, 13]) (.seq (.region false [
 ao 16 (.mv (.t 4)),
 ao 17 (.len (.t 16)),
 ao 18 (.mv (.c (i64 0)))] [0, 1, 4, 5, 12, 13, 16, 17, 18]) (.block 2 (b105l1))))) (.region false [
 ao 39 (.bin .add (.t 13) (.c (i64 1))),
 ao 13 (.mv (.t 39))] [0, 1, 4, 12, 13])))
def b105l0 : AC := .loop [0, 1, 4, 12, 13] [65, 160, 656, 800] d105l0
@[simp] def d105l2 : AC :=
 .seq (.region false [
 ao 45 (.bin .lss (.t 44) (.t 43))] [1, 42, 43, 44, 45]) (.seq (.cond (.t 45) (.skip) (.exit 4)) (.seq (.block 5 (.seq (.region false [
 ao 46 (.idxs 1 (.t 42) (.t 44)),
 ao 47 (.load none (.t 46)),
 ao 9 (.mv (.t 47))] [1, 9, 42, 43, 44]) (.seq (.region false [
 ao 48 (.mv (.t 1)),
 ao 49 (.mv (.t 9)),
 ao 50 (.callv (.t 48) [(.t 49)]),
 ao 51 (.un .not (.t 50))] [1, 42, 43, 44, 51]) (.cond (.t 51) (.ret) (.skip))))) (.region false [
 ao 52 (.bin .add (.t 44) (.c (i64 1))),
 ao 44 (.mv (.t 52))] [1, 42, 43, 44])))
def b105l2 : AC := .loop [1, 42, 43, 44] [160, 464, 480, 528, 576, 592, 656] d105l2
def b105 : AC :=
 .seq (.region false [
 ao 10 (.litm [(.sl .full 1 [])] 1 [(0, (.c (.sl .full 1 [])))]),
 ao 4 (.mv (.t 10))] [0, 1, 4]) (.seq (.seq (.seq (.freeze [1000160]) (.region false [
 ao 11 (.mv (.t 0)),
 ao 12 (.len (.t 11)),
 ao 13 (.mv (.c (i64 0)))] [0, 1, 4, 12, 13])) (.block 0 (.seq (.thaw 4 65 1) (b105l0)))) (.seq (.region false [
 ao 40 (.mv (.t 4)),
 ao 41 (.call 120 [(.t 40), (.c (.fn 121 [] []))])] [1, 4]) (.seq (.region false [
 ao 42 (.mv (.t 4)),
 ao 43 (.len (.t 42)),
 ao 44 (.mv (.c (i64 0)))] [1, 42, 43, 44]) (.block 4 (b105l2)))))
def a105 : AFn := ⟨2, [], b105, true⟩
def n105 : Ann := ⟨[[0, 1, 4], [0, 1, 4, 12, 13], [0, 1, 4, 12, 13, 14], [0, 1, 4, 5, 12, 13], [0, 1, 4, 5, 12, 13, 16, 17, 18], [0, 1, 4, 5, 12, 13, 16, 17, 18, 19], [0, 1, 4, 5, 7, 12, 13, 16, 17, 18], [0, 1, 4, 5, 7, 12, 13, 16, 17, 18], [0, 1, 4, 5, 7, 12, 13, 16, 17, 18, 33], [0, 1, 4, 5, 12, 13, 16, 17, 18], [0, 1, 4, 5, 12, 13, 16, 17, 18], [0, 1, 4, 12, 13], [1, 4], [1, 42, 43, 44], [1, 42, 43, 44, 45], [1, 9, 42, 43, 44], [1, 42, 43, 44, 51], [1, 42, 43, 44]], [⟨[.t 4 65 1], [0, 1, 4, 12, 13], [65, 160, 656, 800]⟩, ⟨[], [0, 1, 4, 5, 12, 13, 16, 17, 18], [65, 160, 656, 800]⟩, ⟨[], [1, 42, 43, 44], [160, 464, 480, 528, 576, 592, 656]⟩], [], [[], [1000160], [], [], [], [], [], [], [], [], [], [], [], [], [], [], [], []], [10], true, []⟩
@[simp] def d107l0 : AC :=
 .seq (.region false [
 ao 3 (.bin .lss (.t 2) (.c (i64 31)))] [0, 2, 3]) (.seq (.cond (.t 3) (.skip) (.exit 0)) (.seq (.block 1 (.seq (.region false [
 ao 4 (.mv (.t 2)),
 ao 1 (.mv (.t 4))] [0, 1, 2]) (.region false [
 ao 5 (.mv (.t 1)),
 ao 6 (.idxa 31 1 (.t 0) (.t 5)),
 ⟨none, .store 1 (.t 6) (.c (i64 1099511627776)), none, [], []⟩] [0, 2]))) (.region false [
 ao 7 (.bin .add (.t 2) (.c (i64 1))),
 ao 2 (.mv (.t 7))] [0, 2])))
def b107l0 : AC := .loop [0, 2] [0] d107l0
def b107 : AC :=
 .seq (.region false [
 ao 0 (.alloc [(i64 0), (i64 0), (i64 0), (i64 0), (i64 0), (i64 0), (i64 0), (i64 0), (i64 0), (i64 0), (i64 0), (i64 0), (i64 0), (i64 0), (i64 0), (i64 0), (i64 0), (i64 0), (i64 0), (i64 0), (i64 0), (i64 0), (i64 0), (i64 0), (i64 0), (i64 0), (i64 0), (i64 0), (i64 0), (i64 0), (i64 0)])] [0]) (.seq (.seq (.region false [
 ao 2 (.mv (.c (i64 0)))] [0, 2]) (.block 0 (b107l0))) (.seq (.region false [
 ao 8 (.idxa 31 1 (.t 0) (.c (i64 0))),
 ⟨none, .store 1 (.t 8) (.c (i64 0)), none, [], []⟩] [0]) (.seq (.region false [
 ao 9 (.load (some 31) (.t 0)),
 ⟨none, .store 31 (.t 0) (.t 9), none, [], []⟩] [0]) (.ret))))
def a107 : AFn := ⟨0, [.cell 0 (some 31)], b107, false⟩
def n107 : Ann := ⟨[[0], [0, 2], [0, 2, 3], [0, 1, 2], [0, 2], [0, 2], [0], [0]], [⟨[], [0, 2], [0]⟩], [], [], [], false, []⟩
@[simp] def d108l1 : AC :=
 .seq (.region false [
 ao 18 (.bin .lss (.t 17) (.t 16))] [2, 3, 4, 5, 6, 10, 16, 17, 18]) (.seq (.cond (.t 18) (.skip) (.exit 2)) (.seq (.block 3 (.seq (.region false [
 ao 19 (.mv (.t 17)),
 ao 7 (.mv (.t 19))] [2, 3, 4, 5, 6, 7, 10, 16, 17]) (.seq (.region false [
 ao 20 (.mv (.t 6)),
 ao 21 (.idxa 31 1 (.t 2) (.t 20)),
 ao 22 (.load none (.t 21)),
 ao 23 (.bin .lss (.t 22) (.c (i64 1099511627776))),
 ao 24 (.mv (.t 23)),
 ag 25 (.mv (.t 7)) 24 true [],
 ag 26 (.idxa 31 1 (.t 3) (.t 25)) 24 true [],
 ag 27 (.load none (.t 26)) 24 true [],
 ag 28 (.bin .lss (.t 27) (.c (i64 1099511627776))) 24 true [],
 ao 29 (.pick (.t 24) (.t 28) (.c (.bool false)))] [2, 3, 4, 5, 6, 7, 10, 16, 17, 29]) (.cond (.t 29) (.region true (spl [
 ao 30 (.mv (.t 6)),
 ao 31 (.mv (.t 7)),
 ap 32 (.bin .add (.t 30) (.t 31)) [0, 1],
 ao 33 (.mv (.t 6)),
 ao 34 (.mv (.t 7)),
 ap 35 (.bin .add (.t 33) (.t 34)) [3, 4],
 ap 36 (.idxa 31 1 (.t 5) (.t 35)) [5, 3, 4],
 ap 37 (.load none (.t 36)) [6, 5, 3, 4],
 ao 38 (.mv (.t 6)),
 ap 39 (.idxa 31 1 (.t 2) (.t 38)) [8],
 ap 40 (.load none (.t 39)) [9, 8],
 ao 41 (.mv (.t 7)),
 ap 42 (.idxa 31 1 (.t 3) (.t 41)) [11],
 ap 43 (.load none (.t 42)) [12, 11],
 ap 44 (.bin .add (.t 40) (.t 43)) [10, 13, 9, 8, 12, 11],
 ap 45 (.mm false (.t 37) (.t 44)) [7, 14, 6, 5, 3, 4, 10, 13, 9, 8, 12, 11]] [
 ap 46 (.idxa 31 1 (.t 5) (.t 32)) [2, 15, 0, 1, 7, 14, 6, 5, 3, 4, 10, 13, 9, 8, 12, 11],
 ⟨none, .store 1 (.t 46) (.t 45), none, [16, 2, 15, 0, 1, 7, 14, 6, 5, 3, 4, 10, 13, 9, 8, 12, 11], []⟩]) [2, 3, 4, 5, 6, 10, 16, 17]) (.skip))))) (.region false [
 ao 47 (.bin .add (.t 17) (.c (i64 1))),
 ao 17 (.mv (.t 47))] [2, 3, 4, 5, 6, 10, 16, 17])))
def b108l1 : AC := .loop [2, 3, 4, 5, 6, 10, 16, 17] [32, 48, 64, 80, 128] d108l1
@[simp] def d108l0 : AC :=
 .seq (.region false [
 ao 11 (.bin .lss (.t 10) (.c (i64 31)))] [2, 3, 4, 5, 10, 11]) (.seq (.cond (.t 11) (.skip) (.exit 0)) (.seq (.block 1 (.seq (.region false [
 ao 12 (.mv (.t 10)),
 ao 6 (.mv (.t 12))] [2, 3, 4, 5, 6, 10]) (.seq (.region false [
 ao 13 (.mv (.t 6)),
 ao 14 (.bin .sub (.c (i64 31)) (.t 13)),
 ao 15 (.slarr 31 (.t 3) (some (.t 14))),
 ao 16 (.len (.t 15)),
 ao 17 (.mv (.c (i64 0)))] [2, 3, 4, 5, 6, 10, 16, 17]) (.block 2 (b108l1))))) (.region false [
 ao 48 (.bin .add (.t 10) (.c (i64 1))),
 ao 10 (.mv (.t 48))] [2, 3, 4, 5, 10])))
def b108l0 : AC := .loop [2, 3, 4, 5, 10] [32, 48, 64, 80, 128] d108l0
def b108 : AC :=
 .seq (.region false [
 ao 2 (.box (.t 0)),
 ao 3 (.box (.t 1)),
 ao 4 (.alloc [(i64 0), (i64 0), (i64 0), (i64 0), (i64 0), (i64 0), (i64 0), (i64 0), (i64 0), (i64 0), (i64 0), (i64 0), (i64 0), (i64 0), (i64 0), (i64 0), (i64 0), (i64 0), (i64 0), (i64 0), (i64 0), (i64 0), (i64 0), (i64 0), (i64 0), (i64 0), (i64 0), (i64 0), (i64 0), (i64 0), (i64 0)])] [2, 3, 4]) (.seq (.region false [
 ao 8 (.call 107 []),
 ao 5 (.alloc [(i64 0), (i64 0), (i64 0), (i64 0), (i64 0), (i64 0), (i64 0), (i64 0), (i64 0), (i64 0), (i64 0), (i64 0), (i64 0), (i64 0), (i64 0), (i64 0), (i64 0), (i64 0), (i64 0), (i64 0), (i64 0), (i64 0), (i64 0), (i64 0), (i64 0), (i64 0), (i64 0), (i64 0), (i64 0), (i64 0), (i64 0)]),
 ⟨none, .store 31 (.t 5) (.t 8), none, [], []⟩] [2, 3, 4, 5]) (.seq (.region false [
 ao 9 (.idxa 31 1 (.t 5) (.c (i64 0))),
 ⟨none, .store 1 (.t 9) (.c (i64 1099511627776)), none, [], []⟩] [2, 3, 4, 5]) (.seq (.seq (.region false [
 ao 10 (.mv (.c (i64 0)))] [2, 3, 4, 5, 10]) (.block 0 (b108l0))) (.seq (.region false [
 ao 49 (.load (some 31) (.t 5)),
 ⟨none, .store 31 (.t 4) (.t 49), none, [], []⟩] [4]) (.ret)))))
def a108 : AFn := ⟨2, [.cell 4 (some 31)], b108, false⟩
def n108 : Ann := ⟨[[2, 3, 4], [2, 3, 4, 5], [2, 3, 4, 5], [2, 3, 4, 5, 10], [2, 3, 4, 5, 10, 11], [2, 3, 4, 5, 6, 10], [2, 3, 4, 5, 6, 10, 16, 17], [2, 3, 4, 5, 6, 10, 16, 17, 18], [2, 3, 4, 5, 6, 7, 10, 16, 17], [2, 3, 4, 5, 6, 7, 10, 16, 17, 29], [2, 3, 4, 5, 6, 10, 16, 17], [2, 3, 4, 5, 6, 10, 16, 17], [2, 3, 4, 5, 10], [4]], [⟨[], [2, 3, 4, 5, 10], [32, 48, 64, 80, 128]⟩, ⟨[], [2, 3, 4, 5, 6, 10, 16, 17], [32, 48, 64, 80, 128]⟩], [], [], [], false, []⟩
@[simp] def d109l0 : AC :=
 .seq (.seq (.region false [
 ao 12 (.mv (.t 4)),
 ao 13 (.mv (.t 0)),
 ao 14 (.len (.t 13)),
 ao 15 (.bin .lss (.t 12) (.t 14))] [0, 3, 4, 15]) (.cond (.t 15) (.skip) (.exit 0))) (.seq (.block 1 (.region false [
 ao 18 (.mv (.t 3)),
 ao 19 (.mv (.t 0)),
 ao 20 (.mv (.t 4)),
 ao 21 (.idxs 1 (.t 19) (.t 20)),
 ao 22 (.load none (.t 21)),
 ao 23 (.mm false (.t 18) (.t 22)),
 ao 3 (.mv (.t 23))] [0, 3, 4])) (.region false [
 ao 16 (.mv (.t 4)),
 ao 17 (.bin .add (.t 16) (.c (i64 1))),
 ao 4 (.mv (.t 17))] [0, 3, 4]))
def b109l0 : AC := .loop [0, 3, 4] [] d109l0
def b109 : AC :=
 .seq (.region false [
 ao 2 (.mv (.c (i64 0)))] [0]) (.seq (.seq (.region false [
 ao 5 (.mv (.t 0)),
 ao 6 (.len (.t 5)),
 ao 7 (.bin .lss (.t 6) (.c (i64 1)))] [0, 7]) (.cond (.t 7) (.region false [
 ao 8 (.fail),
 ⟨none, .fail, none, [], []⟩] [0]) (.skip))) (.seq (.region false [
 ao 9 (.mv (.t 0)),
 ao 10 (.idxs 1 (.t 9) (.c (i64 0))),
 ao 11 (.load none (.t 10)),
 ao 3 (.mv (.t 11))] [0, 3]) (.seq (.seq (.region false [
 ao 4 (.mv (.c (i64 1)))] [0, 3, 4]) (.block 0 (b109l0))) (.seq (.region false [
 ao 24 (.mv (.t 3)),
 ao 2 (.mv (.t 24))] [2]) (.ret)))))
def a109 : AFn := ⟨1, [.t 2], b109, false⟩
def n109 : Ann := ⟨[[0], [0, 7], [0], [0, 3], [0, 3, 4], [0, 3, 4, 15], [0, 3, 4], [0, 3, 4], [2]], [⟨[], [0, 3, 4], []⟩], [], [], [], false, []⟩
def b110 : AC :=
 .seq (.region false [
 ao 4 (.mv (.c (i64 0)))] [0, 1]) (.seq (.seq (.region false [
 ao 6 (.mv (.t 0)),
 ao 7 (.call 58 [(.t 6)]),
 ao 5 (.mv (.t 7))] [1, 5]) (.seq (.region false [
 ao 8 (.mv (.t 5)),
 ao 9 (.bin .neq (.t 8) (.c (i64 0)))] [1, 5, 9]) (.cond (.t 9) (.seq (.region false [
 ao 10 (.mv (.t 5)),
 ao 4 (.mv (.t 10))] [4]) (.ret)) (.skip)))) (.seq (.seq (.region false [
 ao 11 (.mv (.t 1)),
 ao 12 (.un .not (.t 11))] [12]) (.cond (.t 12) (.seq (.region false [
 ao 4 (.mv (.c (i64 1)))] [4]) (.ret)) (.skip))) (.seq (.region false [
 ao 4 (.mv (.c (i64 0)))] [4]) (.ret))))
def a110 : AFn := ⟨2, [.t 4], b110, false⟩
def n110 : Ann := ⟨[[0, 1], [1, 5], [1, 5, 9], [4], [12], [4], [4]], [], [], [], [], false, [(4, 112), (10, 112), (8, 112), (5, 112)]⟩
@[simp] def d112l0 : AC :=
 .seq (.seq (.region false [
 ao 7 (.mv (.t 3)),
 ao 8 (.bin .geq (.t 7) (.c (i64 0)))] [0, 1, 3, 8]) (.cond (.t 8) (.skip) (.exit 0))) (.seq (.block 1 (.seq (.region false [
 ao 11 (.mv (.t 0)),
 ao 12 (.mv (.t 3)),
 ao 13 (.load none (.t 1)),
 ao 14 (.mv (.t 3)),
 ao 15 (.idxs 6 (.t 13) (.t 14)),
 ao 16 (.load (some 6) (.t 15)),
 ao 17 (.callv (.t 11) [(.t 12), (.t 16)]),
 ao 18 (.un .not (.t 17))] [0, 1, 3, 18]) (.cond (.t 18) (.ret) (.skip)))) (.region false [
 ao 9 (.mv (.t 3)),
 ao 10 (.bin .sub (.t 9) (.c (i64 1))),
 ao 3 (.mv (.t 10))] [0, 1, 3]))
def b112l0 : AC := .loop [0, 1, 3] [] d112l0
def b112 : AC :=
 .seq (.region false [
 ao 4 (.load none (.t 1)),
 ao 5 (.len (.t 4)),
 ao 6 (.bin .sub (.t 5) (.c (i64 1))),
 ao 3 (.mv (.t 6))] [0, 1, 3]) (.block 0 (b112l0))
def a112 : AFn := ⟨2, [], b112, false⟩
def n112 : Ann := ⟨[[0, 1, 3], [0, 1, 3, 8], [0, 1, 3, 18], [0, 1, 3]], [⟨[], [0, 1, 3], []⟩], [], [], [], false, []⟩
def b113 : AC :=
 .seq (.region false [
 ao 4 (.mv (.c (.bool false)))] [0, 1]) (.seq (.region false [
 ao 5 (.mv (.t 0)),
 ao 6 (.mv (.t 1)),
 ao 7 (.call 124 [(.t 5), (.t 6)]),
 ao 8 (.bin .geq (.t 7) (.c (i64 0))),
 ao 4 (.mv (.t 8))] [4]) (.ret))
def a113 : AFn := ⟨2, [.t 4], b113, false⟩
def n113 : Ann := ⟨[[0, 1], [4]], [], [], [], [], false, []⟩
def b114 : AC :=
 .seq (.region false [
 ao 2 (.box (.t 0)),
 ao 3 (.mv (.c (.bool false)))] [1, 2]) (.seq (.region false [
 ao 4 (.faddr 0 (.t 2)),
 ao 5 (.load none (.t 4)),
 ao 6 (.load none (.t 1)),
 ao 7 (.bin .eql (.t 5) (.t 6)),
 ao 3 (.mv (.t 7))] [3]) (.ret))
def a114 : AFn := ⟨2, [.t 3], b114, false⟩
def n114 : Ann := ⟨[[1, 2], [3]], [], [], [], [], false, []⟩
def b115 : AC :=
 .seq (.region false [
 ao 2 (.box (.t 0)),
 ao 3 (.box (.t 1)),
 ao 4 (.mv (.c .nilf))] [2, 3]) (.seq (.region false [
 ao 5 (.mkfn 125 [] [(.t 2), (.t 3)]),
 ao 4 (.mv (.t 5))] [4]) (.ret))
def a115 : AFn := ⟨2, [.t 4], b115, false⟩
def n115 : Ann := ⟨[[2, 3], [4]], [], [], [], [], false, []⟩
def b116 : AC :=
 .seq (.region false [
 ao 5 (.mv (.c (i64 0)))] [0, 1, 2]) (.seq (.region false [
 ao 6 (.load none (.t 2)),
 ao 7 (.mv (.t 0)),
 ao 8 (.callv (.t 6) [(.t 7)]),
 ao 9 (.mv (.t 1)),
 ao 10 (.bin .mul (.t 8) (.t 9)),
 ao 5 (.mv (.t 10))] [5]) (.ret))
def a116 : AFn := ⟨3, [.t 5], b116, false⟩
def n116 : Ann := ⟨[[0, 1, 2], [5]], [], [], [], [], false, []⟩
def b117 : AC :=
 .seq (.region false [
 ao 5 (.mv (.c (i64 0)))] [0, 1, 2]) (.seq (.region false [
 ao 6 (.load none (.t 2)),
 ao 7 (.mv (.t 0)),
 ao 8 (.callv (.t 6) [(.t 7)]),
 ao 9 (.un .neg (.t 8)),
 ao 10 (.mv (.t 1)),
 ao 11 (.bin .mul (.t 9) (.t 10)),
 ao 5 (.mv (.t 11))] [5]) (.ret))
def a117 : AFn := ⟨3, [.t 5], b117, false⟩
def n117 : Ann := ⟨[[0, 1, 2], [5]], [], [], [], [], false, []⟩
def b118 : AC :=
 .seq (.region false [
 ao 1 (.box (.t 0)),
 ao 2 (.mv (.c (.bool false)))] [1]) (.seq (.region false [
 ao 3 (.faddr 0 (.t 1)),
 ao 4 (.load none (.t 3)),
 ao 5 (.faddr 1 (.t 1)),
 ao 6 (.load none (.t 5)),
 ao 7 (.call 94 [(.t 4), (.c (i64 0)), (.t 6)]),
 ao 8 (.mv (.t 7)),
 ag 9 (.faddr 1 (.t 1)) 8 true [],
 ag 10 (.load none (.t 9)) 8 true [],
 ag 11 (.bin .leq (.t 10) (.c (i64 30))) 8 true [],
 ao 12 (.pick (.t 8) (.t 11) (.c (.bool false))),
 ao 2 (.mv (.t 12))] [2]) (.ret))
def a118 : AFn := ⟨1, [.t 2], b118, false⟩
def n118 : Ann := ⟨[[1], [2]], [], [], [], [], false, [(8, 112)]⟩
@[simp] def d119l0 : AC :=
 .seq (.region false [
 ao 9 (.bin .lss (.t 8) (.t 7))] [0, 1, 7, 8, 9]) (.seq (.cond (.t 9) (.skip) (.exit 0)) (.seq (.block 1 (.seq (.region false [
 ao 10 (.mv (.t 8)),
 ao 5 (.mv (.t 10))] [0, 1, 5, 7, 8]) (.seq (.region false [
 ao 11 (.mv (.t 1)),
 ao 12 (.mv (.t 0)),
 ao 13 (.mv (.t 5)),
 ao 14 (.idxs 1 (.t 12) (.t 13)),
 ao 15 (.load none (.t 14)),
 ao 16 (.bin .eql (.t 11) (.t 15))] [0, 1, 5, 7, 8, 16]) (.cond (.t 16) (.seq (.region false [
 ao 17 (.mv (.t 5)),
 ao 4 (.mv (.t 17))] [4]) (.ret)) (.skip))))) (.region false [
 ao 18 (.bin .add (.t 8) (.c (i64 1))),
 ao 8 (.mv (.t 18))] [0, 1, 7, 8])))
def b119l0 : AC := .loop [0, 1, 7, 8] [] d119l0
def b119 : AC :=
 .seq (.region false [
 ao 4 (.mv (.c (i64 0)))] [0, 1]) (.seq (.seq (.region false [
 ao 6 (.mv (.t 0)),
 ao 7 (.len (.t 6)),
 ao 8 (.mv (.c (i64 0)))] [0, 1, 7, 8]) (.block 0 (b119l0))) (.seq (.region false [
 ao 4 (.mv (.c (i64 (-1))))] [4]) (.ret)))
def a119 : AFn := ⟨2, [.t 4], b119, false⟩
def n119 : Ann := ⟨[[0, 1], [0, 1, 7, 8], [0, 1, 7, 8, 9], [0, 1, 5, 7, 8], [0, 1, 5, 7, 8, 16], [4], [0, 1, 7, 8], [4]], [⟨[], [0, 1, 7, 8], []⟩], [], [], [], false, []⟩
def b121 : AC :=
 .seq (.region false [
 ao 4 (.mv (.c (i64 0)))] [0, 1]) (.seq (.region false [
 ao 5 (.mv (.t 0)),
 ao 6 (.len (.t 5)),
 ao 7 (.mv (.t 1)),
 ao 8 (.len (.t 7)),
 ao 9 (.bin .sub (.t 6) (.t 8)),
 ao 10 (.mv (.t 0)),
 ao 11 (.mv (.t 1)),
 ao 12 (.call 123 [(.t 10), (.t 11)]),
 ao 13 (.lit [(i64 0)] 2 [(0, (.t 9)), (1, (.t 12))]),
 ao 14 (.call 122 [(.t 13)]),
 ao 4 (.mv (.t 14))] [4]) (.ret))
def a121 : AFn := ⟨2, [.t 4], b121, false⟩
def n121 : Ann := ⟨[[0, 1], [4]], [], [], [], [], false, [(4, 224)]⟩
@[simp] def d122l0 : AC :=
 .seq (.region false [
 ao 9 (.bin .lss (.t 8) (.t 7))] [3, 6, 7, 8, 9]) (.seq (.cond (.t 9) (.skip) (.exit 0)) (.seq (.block 1 (.seq (.region false [
 ao 10 (.idxs 1 (.t 6) (.t 8)),
 ao 11 (.load none (.t 10)),
 ao 5 (.mv (.t 11))] [3, 5, 6, 7, 8]) (.seq (.region false [
 ao 12 (.mv (.t 5)),
 ao 13 (.mv (.t 3)),
 ao 14 (.bin .neq (.t 12) (.t 13))] [3, 5, 6, 7, 8, 14]) (.cond (.t 14) (.seq (.region false [
 ao 15 (.mv (.t 5)),
 ao 2 (.mv (.t 15))] [2]) (.ret)) (.skip))))) (.region false [
 ao 16 (.bin .add (.t 8) (.c (i64 1))),
 ao 8 (.mv (.t 16))] [3, 6, 7, 8])))
def b122l0 : AC := .loop [3, 6, 7, 8] [] d122l0
def b122 : AC :=
 .seq (.region false [
 ao 2 (.mv (.c (i64 0)))] [0]) (.seq (.region false [
 ao 3 (.mv (.c (i64 0)))] [0, 3]) (.seq (.seq (.region false [
 ao 6 (.mv (.t 0)),
 ao 7 (.len (.t 6)),
 ao 8 (.mv (.c (i64 0)))] [3, 6, 7, 8]) (.block 0 (b122l0))) (.seq (.region false [
 ao 17 (.mv (.t 3)),
 ao 2 (.mv (.t 17))] [2]) (.ret))))
def a122 : AFn := ⟨1, [.t 2], b122, false⟩
def n122 : Ann := ⟨[[0], [0, 3], [3, 6, 7, 8], [3, 6, 7, 8, 9], [3, 5, 6, 7, 8], [3, 5, 6, 7, 8, 14], [2], [3, 6, 7, 8], [2]], [⟨[], [3, 6, 7, 8], []⟩], [], [], [], false, []⟩
@[simp] def d123l0 : AC :=
 .seq (.region false [
 ao 12 (.bin .lss (.t 11) (.t 10))] [0, 1, 9, 10, 11, 12]) (.seq (.cond (.t 12) (.skip) (.exit 0)) (.seq (.block 1 (.seq (.region false [
 ao 13 (.mv (.t 11)),
 ao 14 (.idxs 1 (.t 9) (.t 11)),
 ao 15 (.load none (.t 14)),
 ao 5 (.mv (.t 13)),
 ao 6 (.mv (.t 15))] [0, 1, 5, 6, 9, 10, 11]) (.seq (.seq (.region false [
 ao 16 (.mv (.t 5)),
 ao 17 (.mv (.t 1)),
 ao 18 (.len (.t 17)),
 ao 19 (.bin .geq (.t 16) (.t 18))] [0, 1, 5, 6, 9, 10, 11, 19]) (.cond (.t 19) (.seq (.region false [
 ao 4 (.mv (.c (i64 1)))] [4]) (.ret)) (.skip))) (.seq (.region false [
 ao 20 (.mv (.t 1)),
 ao 21 (.mv (.t 5)),
 ao 22 (.idxs 1 (.t 20) (.t 21)),
 ao 23 (.load none (.t 22)),
 ao 7 (.mv (.t 23))] [0, 1, 6, 7, 9, 10, 11]) (.seq (.region false [
 ao 24 (.mv (.t 6)),
 ao 25 (.mv (.t 7)),
 ao 26 (.call 128 [(.t 24), (.t 25)]),
 ao 8 (.mv (.t 26))] [0, 1, 8, 9, 10, 11]) (.seq (.region false [
 ao 27 (.mv (.t 8)),
 ao 28 (.bin .neq (.t 27) (.c (i64 0)))] [0, 1, 8, 9, 10, 11, 28]) (.cond (.t 28) (.seq (.region false [
 ao 29 (.mv (.t 8)),
 ao 4 (.mv (.t 29))] [4]) (.ret)) (.skip)))))))) (.region false [
 ao 30 (.bin .add (.t 11) (.c (i64 1))),
 ao 11 (.mv (.t 30))] [0, 1, 9, 10, 11])))
def b123l0 : AC := .loop [0, 1, 9, 10, 11] [] d123l0
def b123 : AC :=
 .seq (.region false [
 ao 4 (.mv (.c (i64 0)))] [0, 1]) (.seq (.seq (.region false [
 ao 9 (.mv (.t 0)),
 ao 10 (.len (.t 9)),
 ao 11 (.mv (.c (i64 0)))] [0, 1, 9, 10, 11]) (.block 0 (b123l0))) (.seq (.seq (.region false [
 ao 31 (.mv (.t 0)),
 ao 32 (.len (.t 31)),
 ao 33 (.mv (.t 1)),
 ao 34 (.len (.t 33)),
 ao 35 (.bin .lss (.t 32) (.t 34))] [35]) (.cond (.t 35) (.seq (.region false [
 ao 4 (.mv (.c (i64 (-1))))] [4]) (.ret)) (.skip))) (.seq (.region false [
 ao 4 (.mv (.c (i64 0)))] [4]) (.ret))))
def a123 : AFn := ⟨2, [.t 4], b123, false⟩
def n123 : Ann := ⟨[[0, 1], [0, 1, 9, 10, 11], [0, 1, 9, 10, 11, 12], [0, 1, 5, 6, 9, 10, 11], [0, 1, 5, 6, 9, 10, 11, 19], [4], [0, 1, 6, 7, 9, 10, 11], [0, 1, 8, 9, 10, 11], [0, 1, 8, 9, 10, 11, 28], [4], [0, 1, 9, 10, 11], [35], [4], [4]], [⟨[], [0, 1, 9, 10, 11], []⟩], [], [], [], false, [(4, 416), (29, 416), (27, 416), (8, 416)]⟩
@[simp] def d124l0 : AC :=
 .seq (.region false [
 ao 9 (.bin .lss (.t 8) (.t 7))] [0, 1, 7, 8, 9]) (.seq (.cond (.t 9) (.skip) (.exit 0)) (.seq (.block 1 (.seq (.region false [
 ao 10 (.mv (.t 8)),
 ao 5 (.mv (.t 10))] [0, 1, 5, 7, 8]) (.seq (.region false [
 ao 11 (.mv (.t 1)),
 ao 12 (.mv (.t 0)),
 ao 13 (.mv (.t 5)),
 ao 14 (.idxs 6 (.t 12) (.t 13)),
 ao 15 (.load (some 6) (.t 14)),
 ao 16 (.callv (.t 11) [(.t 15)])] [0, 1, 5, 7, 8, 16]) (.cond (.t 16) (.seq (.region false [
 ao 17 (.mv (.t 5)),
 ao 4 (.mv (.t 17))] [4]) (.ret)) (.skip))))) (.region false [
 ao 18 (.bin .add (.t 8) (.c (i64 1))),
 ao 8 (.mv (.t 18))] [0, 1, 7, 8])))
def b124l0 : AC := .loop [0, 1, 7, 8] [] d124l0
def b124 : AC :=
 .seq (.region false [
 ao 4 (.mv (.c (i64 0)))] [0, 1]) (.seq (.seq (.region false [
 ao 6 (.mv (.t 0)),
 ao 7 (.len (.t 6)),
 ao 8 (.mv (.c (i64 0)))] [0, 1, 7, 8]) (.block 0 (b124l0))) (.seq (.region false [
 ao 4 (.mv (.c (i64 (-1))))] [4]) (.ret)))
def a124 : AFn := ⟨2, [.t 4], b124, false⟩
def n124 : Ann := ⟨[[0, 1], [0, 1, 7, 8], [0, 1, 7, 8, 9], [0, 1, 5, 7, 8], [0, 1, 5, 7, 8, 16], [4], [0, 1, 7, 8], [4]], [⟨[], [0, 1, 7, 8], []⟩], [], [], [], false, []⟩
def b125 : AC :=
 .seq (.region false [
 ao 6 (.mv (.c (i64 0)))] [0, 1, 2, 3]) (.seq (.seq (.region false [
 ao 8 (.load none (.t 2)),
 ao 9 (.mv (.t 0)),
 ao 10 (.idxs 6 (.t 8) (.t 9)),
 ao 11 (.load (some 6) (.t 10)),
 ao 7 (.alloc [(i64 0), (i64 0), (i64 0), (i64 0), (i64 0), (i64 0)]),
 ⟨none, .store 6 (.t 7) (.t 11), none, [], []⟩] [0, 1, 3, 7]) (.seq (.region false [
 ao 12 (.mv (.t 1)),
 ao 13 (.faddr 1 (.t 7)),
 ao 14 (.faddr 0 (.t 13)),
 ao 15 (.load none (.t 14)),
 ao 16 (.faddr 1 (.t 7)),
 ao 17 (.faddr 1 (.t 16)),
 ao 18 (.load none (.t 17)),
 ao 19 (.call 94 [(.t 12), (.t 15), (.t 18)]),
 ao 20 (.un .not (.t 19))] [0, 1, 3, 20]) (.cond (.t 20) (.seq (.region false [
 ao 6 (.mv (.c (i64 1099511627776)))] [6]) (.ret)) (.skip)))) (.seq (.region false [
 ao 21 (.load none (.t 3)),
 ao 22 (.mv (.t 0)),
 ao 23 (.mv (.t 1)),
 ao 24 (.callv (.t 21) [(.t 22), (.t 23)]),
 ao 6 (.mv (.t 24))] [6]) (.ret)))
def a125 : AFn := ⟨4, [.t 6], b125, false⟩
def n125 : Ann := ⟨[[0, 1, 2, 3], [0, 1, 3, 7], [0, 1, 3, 20], [6], [6]], [], [], [], [], false, []⟩
def b128 : AC :=
 .seq (.region false [
 ao 4 (.mv (.c (i64 0)))] [0, 1]) (.seq (.region false [
 ao 7 (.mv (.t 0)),
 ao 8 (.call 139 [(.t 7)]),
 ao 5 (.mv (.t 8))] [0, 1, 5]) (.seq (.region false [
 ao 9 (.mv (.t 1)),
 ao 10 (.call 139 [(.t 9)]),
 ao 6 (.mv (.t 10))] [0, 1, 5, 6]) (.seq (.seq (.region false [
 ao 11 (.mv (.t 5))] [0, 1, 6, 11]) (.cond (.t 11) (.seq (.seq (.region false [
 ao 12 (.mv (.t 6))] [12]) (.cond (.t 12) (.seq (.region false [
 ao 4 (.mv (.c (i64 0)))] [4]) (.ret)) (.skip))) (.seq (.region false [
 ao 4 (.mv (.c (i64 (-1))))] [4]) (.ret))) (.skip))) (.seq (.seq (.region false [
 ao 13 (.mv (.t 6))] [0, 1, 13]) (.cond (.t 13) (.seq (.region false [
 ao 4 (.mv (.c (i64 1)))] [4]) (.ret)) (.skip))) (.seq (.seq (.region false [
 ao 14 (.mv (.t 0)),
 ao 15 (.mv (.t 1)),
 ao 16 (.bin .lss (.t 14) (.t 15))] [0, 1, 16]) (.cond (.t 16) (.seq (.region false [
 ao 4 (.mv (.c (i64 (-1))))] [4]) (.ret)) (.skip))) (.seq (.seq (.region false [
 ao 17 (.mv (.t 0)),
 ao 18 (.mv (.t 1)),
 ao 19 (.bin .gtr (.t 17) (.t 18))] [19]) (.cond (.t 19) (.seq (.region false [
 ao 4 (.mv (.c (i64 1)))] [4]) (.ret)) (.skip))) (.seq (.region false [
 ao 4 (.mv (.c (i64 0)))] [4]) (.ret))))))))
def a128 : AFn := ⟨2, [.t 4], b128, false⟩
def n128 : Ann := ⟨[[0, 1], [0, 1, 5], [0, 1, 5, 6], [0, 1, 6, 11], [12], [4], [4], [0, 1, 13], [4], [0, 1, 16], [4], [19], [4], [4]], [], [], [], [], false, [(13, 160), (12, 160), (11, 128), (6, 160), (5, 128)]⟩
def b139 : AC :=
 .seq (.region false [
 ao 2 (.mv (.c (.bool false)))] [0]) (.seq (.region false [
 ao 3 (.mv (.t 0)),
 ao 4 (.mv (.t 0)),
 ao 5 (.bin .neq (.t 3) (.t 4)),
 ao 2 (.mv (.t 5))] [2]) (.ret))
def a139 : AFn := ⟨1, [.t 2], b139, false⟩
def n139 : Ann := ⟨[[0], [2]], [], [], [], [], false, []⟩
end Go.Proofs.Ytlcnoldkekcifaa
