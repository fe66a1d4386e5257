/-
  MADE BY PROGRAM (mkt.py, out of what Gen.lean prints): the functions' code for the evaluator.
-/
import Derived.Test.YtekgicoibcgecaaAb6
set_option linter.unusedSimpArgs false
set_option linter.unusedVariables false
namespace Go.Proofs.Ytekgicoibcgecaa
open Go.Ab
/-- gosem.cut.init -/
def b2 : AC :=
 .region false [
 ⟨(some 0), .call 1 [], none, [], []⟩] []
def a2 : AFn := ⟨0, [], b2, false⟩
def n2 : Ann := ⟨[[]], [], [], [], [], false, []⟩

/-- almadraba/almadrabalaw13.SkiesMore -/
def b3 : AC :=
 .seq (.region false [
 ⟨(some 3), .box (.t 0), none, [], []⟩,
 ⟨(some 6), .mv (.c (.bool false)), none, [], []⟩] [1, 2, 3]) (.seq (.seq (.region false [
 ⟨(some 9), .load (some 15) (.t 3), none, [], []⟩,
 ⟨(some 10), .call 10 [(.t 9)], none, [], []⟩,
 ⟨(some 11), .un .not (.t 10), none, [], []⟩,
 ⟨(some 12), .mv (.t 11), none, [], []⟩,
 ⟨(some 13), .load (some 15) (.t 3), (some (12, false)), [], []⟩,
 ⟨(some 14), .mv (.t 1), (some (12, false)), [], []⟩,
 ⟨(some 15), .call 11 [(.t 13), (.t 14)], (some (12, false)), [], []⟩,
 ⟨(some 16), .un .not (.t 15), (some (12, false)), [], []⟩,
 ⟨(some 17), .pick (.t 12) (.c (.bool true)) (.t 16), none, [], []⟩,
 ⟨(some 18), .mv (.t 17), none, [], []⟩,
 ⟨(some 19), .load (some 15) (.t 3), (some (18, false)), [], []⟩,
 ⟨(some 20), .mv (.t 2), (some (18, false)), [], []⟩,
 ⟨(some 21), .call 11 [(.t 19), (.t 20)], (some (18, false)), [], []⟩,
 ⟨(some 22), .un .not (.t 21), (some (18, false)), [], []⟩,
 ⟨(some 23), .pick (.t 18) (.c (.bool true)) (.t 22), none, [], []⟩] [1, 2, 3, 23]) (.cond (.t 23) (.seq (.region false [
 ⟨(some 24), .call 12 [], none, [], []⟩,
 ⟨(some 6), .mv (.t 24), none, [], []⟩] [6]) (.ret)) (.skip))) (.seq (.region true (spl [
 ⟨(some 25), .load (some 15) (.t 3), none, [], []⟩,
 ⟨(some 26), .call 13 [(.t 25)], none, [0], []⟩,
 ⟨(some 27), .load (some 15) (.t 3), none, [], []⟩,
 ⟨(some 28), .call 13 [(.t 27)], none, [2, 1, 0], []⟩,
 ⟨(some 7), .alloc [(i64 0), (i64 0), (i64 0), (i64 0), (.sl .full 2 []), (.sl .full 2 []), (.sl .full 5 []), (i64 0), (i64 0), (.sl .full 2 []), (.sl .full 2 []), (.sl .full 4 []), (.sl .full 1 []), (.sl .full 1 []), (.sl .full 2 [])], none, [], []⟩,
 ⟨(some 8), .alloc [(i64 0), (i64 0), (i64 0), (i64 0), (.sl .full 2 []), (.sl .full 2 []), (.sl .full 5 []), (i64 0), (i64 0), (.sl .full 2 []), (.sl .full 2 []), (.sl .full 4 []), (.sl .full 1 []), (.sl .full 1 []), (.sl .full 2 [])], none, [], []⟩] [
 ⟨none, .store 15 (.t 7) (.t 26), none, [3, 4, 5, 2, 1, 0], []⟩,
 ⟨none, .store 15 (.t 8) (.t 28), none, [6, 3, 4, 5, 2, 1, 0], []⟩]) [1, 2, 3, 7, 8]) (.seq (.region true (spl [
 ⟨(some 29), .faddr 12 (.t 7), none, [], []⟩,
 ⟨(some 30), .load none (.t 29), none, [0], []⟩,
 ⟨(some 31), .mv (.t 1), none, [], []⟩,
 ⟨(some 32), .faddr 12 (.t 3), none, [], []⟩,
 ⟨(some 33), .load none (.t 32), none, [3], []⟩,
 ⟨(some 34), .mv (.t 1), none, [], []⟩,
 ⟨(some 35), .idxs 1 (.t 33) (.t 34), none, [4, 5, 3], []⟩,
 ⟨(some 36), .load none (.t 35), none, [6, 4, 5, 3], []⟩,
 ⟨(some 37), .mv (.t 2), none, [], []⟩,
 ⟨(some 38), .faddr 11 (.t 3), none, [], []⟩,
 ⟨(some 39), .load none (.t 38), none, [9], []⟩,
 ⟨(some 40), .len (.t 39), none, [10, 9], []⟩,
 ⟨(some 41), .call 14 [(.t 36), (.t 37), (.t 40)], none, [7, 8, 11, 6, 4, 5, 3, 10, 9], []⟩] [
 ⟨(some 42), .idxs 1 (.t 30) (.t 31), none, [1, 2, 12, 0, 7, 8, 11, 6, 4, 5, 3, 10, 9], []⟩,
 ⟨none, .store 1 (.t 42) (.t 41), none, [13, 1, 2, 12, 0, 7, 8, 11, 6, 4, 5, 3, 10, 9], []⟩]) [2, 3, 7, 8]) (.seq (.region false [
 ⟨(some 43), .faddr 13 (.t 3), none, [], []⟩,
 ⟨(some 44), .load none (.t 43), none, [], []⟩,
 ⟨(some 45), .mv (.t 2), none, [], []⟩,
 ⟨(some 46), .faddr 11 (.t 3), none, [], []⟩,
 ⟨(some 47), .load none (.t 46), none, [], []⟩,
 ⟨(some 48), .len (.t 47), none, [], []⟩,
 ⟨(some 49), .call 14 [(.t 44), (.t 45), (.t 48)], none, [], []⟩,
 ⟨(some 50), .faddr 13 (.t 8), none, [], []⟩,
 ⟨none, .store 1 (.t 50) (.t 49), none, [], []⟩] [3, 7, 8]) (.seq (.seq (.freeze [416, 1416, 2416, 3416, 4416, 5416, 6416, 7416, 8416, 448, 1448, 2448, 3448, 4448, 5448, 6448, 7448, 8448]) (.region false [
 ⟨(some 51), .load (some 15) (.t 7), none, [], []⟩,
 ⟨(some 52), .load (some 15) (.t 3), none, [], []⟩,
 ⟨(some 53), .call 15 [(.t 51), (.t 52)], none, [], []⟩,
 ⟨(some 54), .mv (.t 53), none, [], []⟩,
 ⟨(some 55), .load (some 15) (.t 8), (some (54, true)), [], []⟩,
 ⟨(some 56), .load (some 15) (.t 3), (some (54, true)), [], []⟩,
 ⟨(some 57), .call 15 [(.t 55), (.t 56)], (some (54, true)), [], []⟩,
 ⟨(some 58), .pick (.t 54) (.t 57) (.c (.bool false)), none, [], []⟩,
 ⟨(some 59), .mv (.t 58), none, [], []⟩,
 ⟨(some 60), .call 12 [], (some (59, true)), [], []⟩,
 ⟨(some 61), .pick (.t 59) (.t 60) (.c (.bool false)), none, [], []⟩,
 ⟨(some 6), .mv (.t 61), none, [], []⟩] [6])) (.ret))))))
def a3 : AFn := ⟨3, [.t 6], b3, false⟩
def n3 : Ann := ⟨[[1, 2, 3], [1, 2, 3, 23], [6], [1, 2, 3, 7, 8], [2, 3, 7, 8], [3, 7, 8], [6]], [], [], [[], [], [], [], [], [], [416, 1416, 2416, 3416, 4416, 5416, 6416, 7416, 8416, 448, 1448, 2448, 3448, 4448, 5448, 6448, 7448, 8448]], [], false, [(54, 848), (6, 384)]⟩

/-- almadraba/almadrabalaw13.SkiesCalmer -/
def b4 : AC :=
 .seq (.region false [
 ⟨(some 3), .box (.t 0), none, [], []⟩,
 ⟨(some 4), .box (.t 1), none, [], []⟩,
 ⟨(some 5), .box (.t 2), none, [], []⟩,
 ⟨(some 6), .mv (.c (.bool false)), none, [], []⟩] [3, 4, 5]) (.seq (.seq (.region false [
 ⟨(some 14), .load (some 15) (.t 3), none, [], []⟩,
 ⟨(some 15), .call 10 [(.t 14)], none, [], []⟩,
 ⟨(some 16), .un .not (.t 15), none, [], []⟩] [3, 4, 5, 16]) (.cond (.t 16) (.seq (.region false [
 ⟨(some 17), .call 12 [], none, [], []⟩,
 ⟨(some 6), .mv (.t 17), none, [], []⟩] [6]) (.ret)) (.skip))) (.seq (.seq (.region true (spl [
 ⟨(some 18), .load (some 15) (.t 3), none, [], []⟩,
 ⟨(some 19), .faddr 0 (.t 5), none, [], []⟩,
 ⟨(some 20), .load none (.t 19), none, [1], []⟩,
 ⟨(some 21), .call 11 [(.t 18), (.t 20)], none, [0, 2, 1], []⟩,
 ⟨(some 22), .mv (.t 21), none, [3, 0, 2, 1], []⟩,
 ⟨(some 23), .faddr 0 (.t 4), (some (22, true)), [4, 3, 0, 2, 1], []⟩,
 ⟨(some 24), .load (some 2) (.t 23), (some (22, true)), [5, 4, 3, 0, 2, 1], []⟩,
 ⟨(some 25), .faddr 11 (.t 3), (some (22, true)), [4, 3, 0, 2, 1], []⟩,
 ⟨(some 26), .load none (.t 25), (some (22, true)), [7, 4, 3, 0, 2, 1], []⟩,
 ⟨(some 27), .faddr 0 (.t 5), (some (22, true)), [4, 3, 0, 2, 1], []⟩,
 ⟨(some 28), .load none (.t 27), (some (22, true)), [9, 4, 3, 0, 2, 1], []⟩,
 ⟨(some 29), .idxs 4 (.t 26) (.t 28), (some (22, true)), [8, 10, 7, 9, 4, 3, 0, 2, 1], []⟩,
 ⟨(some 30), .faddr 0 (.t 29), (some (22, true)), [11, 8, 10, 7, 9, 4, 3, 0, 2, 1], []⟩,
 ⟨(some 31), .load (some 2) (.t 30), (some (22, true)), [12, 11, 8, 10, 7, 9, 4, 3, 0, 2, 1], []⟩,
 ⟨(some 32), .call 16 [(.t 24), (.t 31)], (some (22, true)), [6, 13, 5, 12, 11, 8, 10, 7, 9, 4, 3, 0, 2, 1], []⟩,
 ⟨(some 33), .pick (.t 22) (.t 32) (.c (.bool false)), none, [14, 6, 13, 5, 12, 11, 8, 10, 7, 9, 4, 3, 0, 2, 1], []⟩,
 ⟨(some 34), .mv (.t 33), none, [15, 14, 6, 13, 5, 12, 11, 8, 10, 7, 9, 4, 3, 0, 2, 1], []⟩,
 ⟨(some 35), .faddr 2 (.t 4), (some (34, true)), [16, 15, 14, 6, 13, 5, 12, 11, 8, 10, 7, 9, 4, 3, 0, 2, 1], []⟩,
 ⟨(some 36), .load (some 2) (.t 35), (some (34, true)), [17, 16, 15, 14, 6, 13, 5, 12, 11, 8, 10, 7, 9, 4, 3, 0, 2, 1], []⟩,
 ⟨(some 37), .faddr 11 (.t 3), (some (34, true)), [16, 15, 14, 6, 13, 5, 12, 11, 8, 10, 7, 9, 4, 3, 0, 2, 1], []⟩,
 ⟨(some 38), .load none (.t 37), (some (34, true)), [19, 16, 15, 14, 6, 13, 5, 12, 11, 8, 10, 7, 9, 4, 3, 0, 2, 1], []⟩,
 ⟨(some 39), .faddr 0 (.t 5), (some (34, true)), [16, 15, 14, 6, 13, 5, 12, 11, 8, 10, 7, 9, 4, 3, 0, 2, 1], []⟩,
 ⟨(some 40), .load none (.t 39), (some (34, true)), [21, 16, 15, 14, 6, 13, 5, 12, 11, 8, 10, 7, 9, 4, 3, 0, 2, 1], []⟩,
 ⟨(some 41), .idxs 4 (.t 38) (.t 40), (some (34, true)), [20, 22, 19, 21, 16, 15, 14, 6, 13, 5, 12, 11, 8, 10, 7, 9, 4, 3, 0, 2, 1], []⟩,
 ⟨(some 42), .faddr 2 (.t 41), (some (34, true)), [23, 20, 22, 19, 21, 16, 15, 14, 6, 13, 5, 12, 11, 8, 10, 7, 9, 4, 3, 0, 2, 1], []⟩,
 ⟨(some 43), .load (some 2) (.t 42), (some (34, true)), [24, 23, 20, 22, 19, 21, 16, 15, 14, 6, 13, 5, 12, 11, 8, 10, 7, 9, 4, 3, 0, 2, 1], []⟩] [
 ⟨(some 44), .call 16 [(.t 36), (.t 43)], (some (34, true)), [18, 25, 17, 24, 23, 20, 22, 19, 21, 16, 15, 14, 6, 13, 5, 12, 11, 8, 10, 7, 9, 4, 3, 0, 2, 1], []⟩,
 ⟨(some 45), .pick (.t 34) (.t 44) (.c (.bool false)), none, [26, 18, 25, 17, 24, 23, 20, 22, 19, 21, 16, 15, 14, 6, 13, 5, 12, 11, 8, 10, 7, 9, 4, 3, 0, 2, 1], []⟩]) [3, 4, 5, 45]) (.cond (.t 45) (.seq (.region false [
 ⟨(some 46), .load (some 15) (.t 3), none, [], []⟩,
 ⟨(some 47), .call 13 [(.t 46)], none, [], []⟩,
 ⟨(some 7), .alloc [(i64 0), (i64 0), (i64 0), (i64 0), (.sl .full 2 []), (.sl .full 2 []), (.sl .full 5 []), (i64 0), (i64 0), (.sl .full 2 []), (.sl .full 2 []), (.sl .full 4 []), (.sl .full 1 []), (.sl .full 1 []), (.sl .full 2 [])], none, [], []⟩,
 ⟨none, .store 15 (.t 7) (.t 47), none, [], []⟩] [3, 4, 5, 7]) (.seq (.region false [
 ⟨(some 48), .faddr 11 (.t 7), none, [], []⟩,
 ⟨(some 49), .load none (.t 48), none, [], []⟩,
 ⟨(some 50), .faddr 0 (.t 5), none, [], []⟩,
 ⟨(some 51), .load none (.t 50), none, [], []⟩,
 ⟨(some 52), .load (some 4) (.t 4), none, [], []⟩,
 ⟨(some 53), .idxs 4 (.t 49) (.t 51), none, [], []⟩,
 ⟨none, .store 4 (.t 53) (.t 52), none, [], []⟩] [3, 5, 7]) (.seq (.seq (.freeze [752, 1752, 2752, 3752, 4752, 5752, 6752, 7752, 8752]) (.region false [
 ⟨(some 55), .load (some 15) (.t 3), none, [], []⟩,
 ⟨(some 56), .faddr 0 (.t 5), none, [], []⟩,
 ⟨(some 57), .load none (.t 56), none, [], []⟩,
 ⟨(some 58), .call 17 [(.t 55), (.t 57)], none, [], []⟩,
 ⟨(some 54), .mv (.t 58), none, [], []⟩,
 ⟨(some 59), .ext (.t 54) 0, none, [], []⟩,
 ⟨(some 60), .ext (.t 54) 1, none, [], []⟩,
 ⟨(some 8), .mv (.t 59), none, [], []⟩,
 ⟨(some 9), .mv (.t 60), none, [], []⟩] [3, 5, 7, 8, 9])) (.seq (.region false [
 ⟨(some 62), .load (some 15) (.t 7), none, [], []⟩,
 ⟨(some 63), .faddr 0 (.t 5), none, [], []⟩,
 ⟨(some 64), .load none (.t 63), none, [], []⟩,
 ⟨(some 65), .call 17 [(.t 62), (.t 64)], none, [], []⟩,
 ⟨(some 61), .mv (.t 65), none, [], []⟩,
 ⟨(some 66), .ext (.t 61) 0, none, [], []⟩,
 ⟨(some 67), .ext (.t 61) 1, none, [], []⟩,
 ⟨(some 10), .mv (.t 66), none, [], []⟩,
 ⟨(some 11), .mv (.t 67), none, [], []⟩] [3, 5, 7, 8, 9, 10, 11]) (.seq (.region false [
 ⟨(some 68), .mv (.t 9), none, [], []⟩,
 ⟨(some 69), .bin .neq (.t 68) (.c (i64 0)), none, [], []⟩,
 ⟨(some 70), .mv (.t 69), none, [], []⟩,
 ⟨(some 71), .mv (.t 11), (some (70, false)), [], []⟩,
 ⟨(some 72), .bin .neq (.t 71) (.c (i64 0)), (some (70, false)), [], []⟩,
 ⟨(some 73), .pick (.t 70) (.c (.bool true)) (.t 72), none, [], []⟩,
 ⟨(some 74), .mv (.t 73), none, [], []⟩,
 ⟨(some 75), .mv (.t 8), (some (74, false)), [], []⟩,
 ⟨(some 76), .call 18 [(.t 75), (.c (i64 1)), (.c (i64 3))], (some (74, false)), [], []⟩,
 ⟨(some 77), .un .not (.t 76), (some (74, false)), [], []⟩,
 ⟨(some 78), .pick (.t 74) (.c (.bool true)) (.t 77), none, [], []⟩,
 ⟨(some 79), .mv (.t 78), none, [], []⟩,
 ⟨(some 80), .mv (.t 10), (some (79, false)), [], []⟩,
 ⟨(some 81), .call 18 [(.t 80), (.c (i64 1)), (.c (i64 3))], (some (79, false)), [], []⟩,
 ⟨(some 82), .un .not (.t 81), (some (79, false)), [], []⟩,
 ⟨(some 83), .pick (.t 79) (.c (.bool true)) (.t 82), none, [], []⟩,
 ⟨(some 84), .mv (.t 83), none, [], []⟩,
 ⟨(some 85), .mv (.t 8), (some (84, false)), [], []⟩,
 ⟨(some 86), .bin .neq (.t 85) (.c (i64 3)), (some (84, false)), [], []⟩,
 ⟨(some 87), .mv (.t 86), (some (84, false)), [], []⟩,
 ⟨(some 88), .mv (.t 10), (some (87, true)), [], []⟩,
 ⟨(some 89), .mv (.t 8), (some (87, true)), [], []⟩,
 ⟨(some 90), .bin .neq (.t 88) (.t 89), (some (87, true)), [], []⟩,
 ⟨(some 91), .pick (.t 87) (.t 90) (.c (.bool false)), (some (84, false)), [], []⟩,
 ⟨(some 92), .pick (.t 84) (.c (.bool true)) (.t 91), none, [], []⟩,
 ⟨(some 93), .mv (.t 92), none, [], []⟩,
 ⟨(some 94), .load (some 15) (.t 3), (some (93, false)), [], []⟩,
 ⟨(some 95), .load (some 15) (.t 7), (some (93, false)), [], []⟩,
 ⟨(some 96), .call 15 [(.t 94), (.t 95)], (some (93, false)), [], []⟩,
 ⟨(some 97), .un .not (.t 96), (some (93, false)), [], []⟩,
 ⟨(some 98), .pick (.t 93) (.c (.bool true)) (.t 97), none, [], []⟩] [3, 5, 98]) (.cond (.t 98) (.seq (.region false [
 ⟨(some 6), .mv (.c (.bool false)), none, [], []⟩] [6]) (.ret)) (.skip))))))) (.skip))) (.seq (.seq (.region false [
 ⟨(some 99), .faddr 7 (.t 3), none, [], []⟩,
 ⟨(some 100), .load (some 4) (.t 99), none, [], []⟩,
 ⟨(some 101), .faddr 1 (.t 5), none, [], []⟩,
 ⟨(some 102), .load none (.t 101), none, [], []⟩,
 ⟨(some 103), .call 19 [(.t 100), (.t 102)], none, [], []⟩] [3, 5, 103]) (.cond (.t 103) (.seq (.region false [
 ⟨(some 104), .load (some 15) (.t 3), none, [], []⟩,
 ⟨(some 105), .call 13 [(.t 104)], none, [], []⟩,
 ⟨(some 12), .alloc [(i64 0), (i64 0), (i64 0), (i64 0), (.sl .full 2 []), (.sl .full 2 []), (.sl .full 5 []), (i64 0), (i64 0), (.sl .full 2 []), (.sl .full 2 []), (.sl .full 4 []), (.sl .full 1 []), (.sl .full 1 []), (.sl .full 2 [])], none, [], []⟩,
 ⟨none, .store 15 (.t 12) (.t 105), none, [], []⟩] [3, 5, 12]) (.seq (.region false [
 ⟨(some 106), .faddr 7 (.t 3), none, [], []⟩,
 ⟨(some 107), .load (some 4) (.t 106), none, [], []⟩,
 ⟨(some 108), .faddr 1 (.t 5), none, [], []⟩,
 ⟨(some 109), .load none (.t 108), none, [], []⟩,
 ⟨(some 110), .call 20 [(.t 107), (.t 109)], none, [], []⟩,
 ⟨(some 111), .faddr 7 (.t 12), none, [], []⟩,
 ⟨none, .store 4 (.t 111) (.t 110), none, [], []⟩] [3, 5, 12]) (.seq (.seq (.freeze [1680, 2680, 3680, 4680, 5680, 6680, 7680, 8680, 9680]) (.region false [
 ⟨(some 112), .load (some 15) (.t 12), none, [], []⟩,
 ⟨(some 113), .call 10 [(.t 112)], none, [], []⟩,
 ⟨(some 114), .mv (.t 113), none, [], []⟩,
 ⟨(some 115), .load (some 15) (.t 3), (some (114, true)), [], []⟩,
 ⟨(some 116), .load (some 15) (.t 12), (some (114, true)), [], []⟩,
 ⟨(some 117), .call 15 [(.t 115), (.t 116)], (some (114, true)), [], []⟩,
 ⟨(some 118), .un .not (.t 117), (some (114, true)), [], []⟩,
 ⟨(some 119), .pick (.t 114) (.t 118) (.c (.bool false)), none, [], []⟩] [3, 5, 119])) (.cond (.t 119) (.seq (.region false [
 ⟨(some 6), .mv (.c (.bool false)), none, [], []⟩] [6]) (.ret)) (.skip))))) (.skip))) (.seq (.seq (.region false [
 ⟨(some 120), .faddr 2 (.t 5), none, [], []⟩,
 ⟨(some 121), .load none (.t 120), none, [], []⟩,
 ⟨(some 122), .faddr 0 (.t 3), none, [], []⟩,
 ⟨(some 123), .faddr 5 (.t 122), none, [], []⟩,
 ⟨(some 124), .load none (.t 123), none, [], []⟩,
 ⟨(some 125), .len (.t 124), none, [], []⟩,
 ⟨(some 126), .bin .sub (.t 125) (.c (i64 1)), none, [], []⟩,
 ⟨(some 127), .call 18 [(.t 121), (.c (i64 0)), (.t 126)], none, [], []⟩,
 ⟨(some 128), .un .not (.t 127), none, [], []⟩] [3, 5, 128]) (.cond (.t 128) (.seq (.region false [
 ⟨(some 129), .call 12 [], none, [], []⟩,
 ⟨(some 6), .mv (.t 129), none, [], []⟩] [6]) (.ret)) (.skip))) (.seq (.region false [
 ⟨(some 130), .load (some 15) (.t 3), none, [], []⟩,
 ⟨(some 131), .faddr 2 (.t 5), none, [], []⟩,
 ⟨(some 132), .load none (.t 131), none, [], []⟩,
 ⟨(some 133), .call 21 [(.t 130), (.t 132)], none, [], []⟩,
 ⟨(some 13), .alloc [(i64 0), (i64 0), (i64 0), (i64 0), (.sl .full 2 []), (.sl .full 2 []), (.sl .full 5 []), (i64 0), (i64 0), (.sl .full 2 []), (.sl .full 2 []), (.sl .full 4 []), (.sl .full 1 []), (.sl .full 1 []), (.sl .full 2 [])], none, [], []⟩,
 ⟨none, .store 15 (.t 13) (.t 133), none, [], []⟩] [3, 13]) (.seq (.region false [
 ⟨(some 134), .load (some 15) (.t 13), none, [], []⟩,
 ⟨(some 135), .call 10 [(.t 134)], none, [], []⟩,
 ⟨(some 136), .un .not (.t 135), none, [], []⟩,
 ⟨(some 137), .mv (.t 136), none, [], []⟩,
 ⟨(some 138), .load (some 15) (.t 3), (some (137, false)), [], []⟩,
 ⟨(some 139), .load (some 15) (.t 13), (some (137, false)), [], []⟩,
 ⟨(some 140), .call 15 [(.t 138), (.t 139)], (some (137, false)), [], []⟩,
 ⟨(some 141), .pick (.t 137) (.c (.bool true)) (.t 140), none, [], []⟩,
 ⟨(some 142), .mv (.t 141), none, [], []⟩,
 ⟨(some 143), .call 12 [], (some (142, true)), [], []⟩,
 ⟨(some 144), .pick (.t 142) (.t 143) (.c (.bool false)), none, [], []⟩,
 ⟨(some 6), .mv (.t 144), none, [], []⟩] [6]) (.ret)))))))
def a4 : AFn := ⟨3, [.t 6], b4, false⟩
def n4 : Ann := ⟨[[3, 4, 5], [3, 4, 5, 16], [6], [3, 4, 5, 45], [3, 4, 5, 7], [3, 5, 7], [3, 5, 7, 8, 9], [3, 5, 7, 8, 9, 10, 11], [3, 5, 98], [6], [3, 5, 103], [3, 5, 12], [3, 5, 12], [3, 5, 119], [6], [3, 5, 128], [6], [3, 13], [6]], [], [], [[], [], [], [], [], [], [752, 1752, 2752, 3752, 4752, 5752, 6752, 7752, 8752], [], [], [], [], [], [], [1680, 2680, 3680, 4680, 5680, 6680, 7680, 8680, 9680], [], [], [], [], []], [], false, [(114, 1808), (89, 928), (88, 1040), (85, 928), (80, 1040), (75, 928), (71, 1040), (68, 928), (11, 1040), (10, 1040), (67, 1040), (66, 1040), (61, 1040), (9, 928), (8, 928), (60, 928), (59, 928), (54, 928), (22, 336), (6, 272)]⟩

/-- almadraba/almadrabalaw13.SkiesDay -/
def b5 : AC :=
 .seq (.region false [
 ⟨(some 2), .box (.t 0), none, [], []⟩,
 ⟨(some 3), .box (.t 1), none, [], []⟩,
 ⟨(some 4), .mv (.c (.bool false)), none, [], []⟩] [2, 3]) (.seq (.region false [
 ⟨(some 6), .load (some 15) (.t 2), none, [], []⟩,
 ⟨(some 7), .call 13 [(.t 6)], none, [], []⟩,
 ⟨(some 5), .alloc [(i64 0), (i64 0), (i64 0), (i64 0), (.sl .full 2 []), (.sl .full 2 []), (.sl .full 5 []), (i64 0), (i64 0), (.sl .full 2 []), (.sl .full 2 []), (.sl .full 4 []), (.sl .full 1 []), (.sl .full 1 []), (.sl .full 2 [])], none, [], []⟩,
 ⟨none, .store 15 (.t 5) (.t 7), none, [], []⟩] [2, 3, 5]) (.seq (.seq (.freeze [112, 1112, 2112, 3112, 4112, 5112, 6112, 7112, 8112]) (.region false [
 ⟨(some 8), .faddr 14 (.t 5), none, [], []⟩,
 ⟨(some 9), .load none (.t 8), none, [], []⟩,
 ⟨(some 10), .load (some 2) (.t 3), none, [], []⟩,
 ⟨(some 11), .lit [(i64 0), (i64 0)] 1 [(0, (.t 10))], none, [], []⟩,
 ⟨(some 12), .app 2 16 (.t 9) (.t 11), none, [], []⟩,
 ⟨(some 13), .faddr 14 (.t 5), none, [], []⟩,
 ⟨none, .store 1 (.t 13) (.t 12), none, [], []⟩] [2, 5])) (.seq (.seq (.region false [
 ⟨(some 14), .load (some 15) (.t 2), none, [], []⟩,
 ⟨(some 15), .call 10 [(.t 14)], none, [], []⟩,
 ⟨(some 16), .un .not (.t 15), none, [], []⟩,
 ⟨(some 17), .mv (.t 16), none, [], []⟩,
 ⟨(some 18), .load (some 15) (.t 5), (some (17, false)), [], []⟩,
 ⟨(some 19), .call 10 [(.t 18)], (some (17, false)), [], []⟩,
 ⟨(some 20), .un .not (.t 19), (some (17, false)), [], []⟩,
 ⟨(some 21), .pick (.t 17) (.c (.bool true)) (.t 20), none, [], []⟩] [2, 5, 21]) (.cond (.t 21) (.seq (.region false [
 ⟨(some 22), .call 12 [], none, [], []⟩,
 ⟨(some 4), .mv (.t 22), none, [], []⟩] [4]) (.ret)) (.skip))) (.seq (.region false [
 ⟨(some 23), .load (some 15) (.t 2), none, [], []⟩,
 ⟨(some 24), .load (some 15) (.t 5), none, [], []⟩,
 ⟨(some 25), .call 15 [(.t 23), (.t 24)], none, [], []⟩,
 ⟨(some 26), .mv (.t 25), none, [], []⟩,
 ⟨(some 27), .call 12 [], (some (26, true)), [], []⟩,
 ⟨(some 28), .pick (.t 26) (.t 27) (.c (.bool false)), none, [], []⟩,
 ⟨(some 4), .mv (.t 28), none, [], []⟩] [4]) (.ret)))))
def a5 : AFn := ⟨2, [.t 4], b5, false⟩
def n5 : Ann := ⟨[[2, 3], [2, 3, 5], [2, 5], [2, 5, 21], [4], [4]], [], [], [[], [], [112, 1112, 2112, 3112, 4112, 5112, 6112, 7112, 8112], [], [], []], [], false, [(26, 400), (4, 352)]⟩

/-- almadraba/almadrabalaw13.SkiesSame -/
def b6l0 : AC :=
 .loop [1, 3, 4] [16, 48, 224, 352, 384, 768, 1152, 1328, 1384, 1392, 2384, 3384, 4384, 5384, 6384, 7384, 8384] (.seq (.seq (.region false [
 ⟨(some 25), .mv (.t 4), none, [], []⟩,
 ⟨(some 26), .faddr 12 (.t 3), none, [], []⟩,
 ⟨(some 27), .load none (.t 26), none, [], []⟩,
 ⟨(some 28), .len (.t 27), none, [], []⟩,
 ⟨(some 29), .bin .lss (.t 25) (.t 28), none, [], []⟩] [1, 3, 4, 29]) (.cond (.t 29) (.skip) (.exit 0))) (.seq (.block 1 (.region false [
 ⟨(some 32), .faddr 12 (.t 3), none, [], []⟩,
 ⟨(some 33), .load none (.t 32), none, [], []⟩,
 ⟨(some 34), .mv (.t 4), none, [], []⟩,
 ⟨(some 35), .mv (.t 4), none, [], []⟩,
 ⟨(some 36), .lit [(i64 0)] 1 [(0, (.t 35))], none, [], []⟩,
 ⟨(some 37), .idxs 1 (.t 33) (.t 34), none, [], []⟩,
 ⟨none, .store 1 (.t 37) (.t 36), none, [], []⟩] [1, 3, 4])) (.region false [
 ⟨(some 30), .mv (.t 4), none, [], []⟩,
 ⟨(some 31), .bin .add (.t 30) (.c (i64 1)), none, [], []⟩,
 ⟨(some 4), .mv (.t 31), none, [], []⟩] [1, 3, 4])))
/-- almadraba/almadrabalaw13.SkiesSame -/
def b6l1 : AC :=
 .loop [1, 3, 5, 6] [16, 48, 224, 352, 384, 1152, 1328, 1384, 1392, 2384, 3384, 4384, 5384, 6384, 7384, 8384] (.seq (.seq (.region false [
 ⟨(some 38), .mv (.t 6), none, [], []⟩,
 ⟨(some 39), .faddr 14 (.t 1), none, [], []⟩,
 ⟨(some 40), .load none (.t 39), none, [], []⟩,
 ⟨(some 41), .len (.t 40), none, [], []⟩,
 ⟨(some 42), .bin .lss (.t 38) (.t 41), none, [], []⟩] [1, 3, 5, 6, 42]) (.cond (.t 42) (.skip) (.exit 2))) (.seq (.block 3 (.seq (.region false [
 ⟨(some 46), .load (some 15) (.t 3), none, [], []⟩,
 ⟨(some 47), .mv (.t 6), none, [], []⟩,
 ⟨(some 48), .call 22 [(.t 46), (.t 47)], none, [], []⟩,
 ⟨(some 45), .mv (.t 48), none, [], []⟩,
 ⟨(some 49), .ext (.t 45) 0, none, [], []⟩,
 ⟨(some 50), .ext (.t 45) 1, none, [], []⟩,
 ⟨(some 7), .mv (.t 49), none, [], []⟩,
 ⟨(some 8), .mv (.t 50), none, [], []⟩] [1, 3, 5, 6, 7, 8]) (.seq (.seq (.region false [
 ⟨(some 51), .mv (.t 8), none, [], []⟩,
 ⟨(some 52), .bin .neq (.t 51) (.c (i64 0)), none, [], []⟩] [1, 3, 5, 6, 7, 52]) (.cond (.t 52) (.seq (.region false [
 ⟨(some 2), .mv (.c (.bool false)), none, [], []⟩] [2]) (.ret)) (.skip))) (.seq (.region false [
 ⟨(some 53), .mv (.t 7), none, [], []⟩] [1, 3, 5, 6, 53]) (.cond (.t 53) (.region false [
 ⟨(some 54), .mv (.t 5), none, [], []⟩,
 ⟨(some 55), .faddr 14 (.t 1), none, [], []⟩,
 ⟨(some 56), .load none (.t 55), none, [], []⟩,
 ⟨(some 57), .mv (.t 6), none, [], []⟩,
 ⟨(some 58), .idxs 2 (.t 56) (.t 57), none, [], []⟩,
 ⟨(some 59), .faddr 0 (.t 58), none, [], []⟩,
 ⟨(some 60), .load none (.t 59), none, [], []⟩,
 ⟨(some 61), .mm true (.t 54) (.t 60), none, [], []⟩,
 ⟨(some 5), .mv (.t 61), none, [], []⟩] [1, 3, 5, 6]) (.skip)))))) (.region false [
 ⟨(some 43), .mv (.t 6), none, [], []⟩,
 ⟨(some 44), .bin .add (.t 43) (.c (i64 1)), none, [], []⟩,
 ⟨(some 6), .mv (.t 44), none, [], []⟩] [1, 3, 5, 6])))
/-- almadraba/almadrabalaw13.SkiesSame -/
def b6l2 : AC :=
 .loop [1, 3, 5, 9] [16, 48, 224, 352, 384, 768, 1384, 1392, 2384, 3384, 4384, 5384, 6384, 7384, 8384] (.seq (.seq (.region false [
 ⟨(some 62), .mv (.t 9), none, [], []⟩,
 ⟨(some 63), .faddr 11 (.t 1), none, [], []⟩,
 ⟨(some 64), .load none (.t 63), none, [], []⟩,
 ⟨(some 65), .len (.t 64), none, [], []⟩,
 ⟨(some 66), .bin .lss (.t 62) (.t 65), none, [], []⟩] [1, 3, 5, 9, 66]) (.cond (.t 66) (.skip) (.exit 4))) (.seq (.block 5 (.seq (.region false [
 ⟨(some 70), .load (some 15) (.t 3), none, [], []⟩,
 ⟨(some 71), .mv (.t 9), none, [], []⟩,
 ⟨(some 72), .call 17 [(.t 70), (.t 71)], none, [], []⟩,
 ⟨(some 69), .mv (.t 72), none, [], []⟩,
 ⟨(some 73), .ext (.t 69) 0, none, [], []⟩,
 ⟨(some 74), .ext (.t 69) 1, none, [], []⟩,
 ⟨(some 10), .mv (.t 73), none, [], []⟩,
 ⟨(some 11), .mv (.t 74), none, [], []⟩] [1, 3, 5, 9, 10, 11]) (.seq (.region false [
 ⟨(some 12), .mv (.c (i64 0)), none, [], []⟩] [1, 3, 5, 9, 10, 11, 12]) (.seq (.seq (.region false [
 ⟨(some 75), .mv (.t 10), none, [], []⟩,
 ⟨(some 76), .bin .eql (.t 75) (.c (i64 1)), none, [], []⟩] [1, 3, 5, 9, 11, 12, 76]) (.cond (.t 76) (.region false [
 ⟨(some 77), .mv (.t 5), none, [], []⟩,
 ⟨(some 12), .mv (.t 77), none, [], []⟩] [1, 3, 5, 9, 11, 12]) (.skip))) (.seq (.region false [
 ⟨(some 78), .mv (.t 11), none, [], []⟩,
 ⟨(some 79), .bin .neq (.t 78) (.c (i64 0)), none, [], []⟩,
 ⟨(some 80), .mv (.t 79), none, [], []⟩,
 ⟨(some 81), .load (some 15) (.t 3), (some (80, false)), [], []⟩,
 ⟨(some 82), .mv (.t 9), (some (80, false)), [], []⟩,
 ⟨(some 83), .call 23 [(.t 81), (.c (i64 0)), (.t 82)], (some (80, false)), [], []⟩,
 ⟨(some 84), .mv (.t 12), (some (80, false)), [], []⟩,
 ⟨(some 85), .bin .neq (.t 83) (.t 84), (some (80, false)), [], []⟩,
 ⟨(some 86), .pick (.t 80) (.c (.bool true)) (.t 85), none, [], []⟩] [1, 3, 5, 9, 86]) (.cond (.t 86) (.seq (.region false [
 ⟨(some 2), .mv (.c (.bool false)), none, [], []⟩] [2]) (.ret)) (.skip))))))) (.region false [
 ⟨(some 67), .mv (.t 9), none, [], []⟩,
 ⟨(some 68), .bin .add (.t 67) (.c (i64 1)), none, [], []⟩,
 ⟨(some 9), .mv (.t 68), none, [], []⟩] [1, 3, 5, 9])))
/-- almadraba/almadrabalaw13.SkiesSame -/
def b6 : AC :=
 .seq (.region false [
 ⟨(some 1), .box (.t 0), none, [], []⟩,
 ⟨(some 2), .mv (.c (.bool false)), none, [], []⟩] [1]) (.seq (.seq (.region false [
 ⟨(some 13), .load (some 15) (.t 1), none, [], []⟩,
 ⟨(some 14), .call 10 [(.t 13)], none, [], []⟩,
 ⟨(some 15), .un .not (.t 14), none, [], []⟩,
 ⟨(some 16), .mv (.t 15), none, [], []⟩,
 ⟨(some 17), .faddr 14 (.t 1), (some (16, false)), [], []⟩,
 ⟨(some 18), .load none (.t 17), (some (16, false)), [], []⟩,
 ⟨(some 19), .len (.t 18), (some (16, false)), [], []⟩,
 ⟨(some 20), .bin .eql (.t 19) (.c (i64 0)), (some (16, false)), [], []⟩,
 ⟨(some 21), .pick (.t 16) (.c (.bool true)) (.t 20), none, [], []⟩] [1, 21]) (.cond (.t 21) (.seq (.region false [
 ⟨(some 22), .call 12 [], none, [], []⟩,
 ⟨(some 2), .mv (.t 22), none, [], []⟩] [2]) (.ret)) (.skip))) (.seq (.region false [
 ⟨(some 23), .load (some 15) (.t 1), none, [], []⟩,
 ⟨(some 24), .call 13 [(.t 23)], none, [], []⟩,
 ⟨(some 3), .alloc [(i64 0), (i64 0), (i64 0), (i64 0), (.sl .full 2 []), (.sl .full 2 []), (.sl .full 5 []), (i64 0), (i64 0), (.sl .full 2 []), (.sl .full 2 []), (.sl .full 4 []), (.sl .full 1 []), (.sl .full 1 []), (.sl .full 2 [])], none, [], []⟩,
 ⟨none, .store 15 (.t 3) (.t 24), none, [], []⟩] [1, 3]) (.seq (.seq (.region false [
 ⟨(some 4), .mv (.c (i64 0)), none, [], []⟩] [1, 3, 4]) (.block 0 (b6l0))) (.seq (.seq (.freeze [384, 1384, 2384, 3384, 4384, 5384, 6384, 7384, 8384]) (.region false [
 ⟨(some 5), .mv (.c (i64 0)), none, [], []⟩] [1, 3, 5])) (.seq (.seq (.region false [
 ⟨(some 6), .mv (.c (i64 0)), none, [], []⟩] [1, 3, 5, 6]) (.block 2 (b6l1))) (.seq (.seq (.region false [
 ⟨(some 9), .mv (.c (i64 0)), none, [], []⟩] [1, 3, 5, 9]) (.block 4 (b6l2))) (.seq (.region false [
 ⟨(some 87), .call 12 [], none, [], []⟩,
 ⟨(some 2), .mv (.t 87), none, [], []⟩] [2]) (.ret))))))))
def a6 : AFn := ⟨1, [.t 2], b6, false⟩
def n6 : Ann := ⟨[[1], [1, 21], [2], [1, 3], [1, 3, 4], [1, 3, 4, 29], [1, 3, 4], [1, 3, 4], [1, 3, 5], [1, 3, 5, 6], [1, 3, 5, 6, 42], [1, 3, 5, 6, 7, 8], [1, 3, 5, 6, 7, 52], [2], [1, 3, 5, 6, 53], [1, 3, 5, 6], [1, 3, 5, 6], [1, 3, 5, 9], [1, 3, 5, 9, 66], [1, 3, 5, 9, 10, 11], [1, 3, 5, 9, 10, 11, 12], [1, 3, 5, 9, 11, 12, 76], [1, 3, 5, 9, 11, 12], [1, 3, 5, 9, 86], [2], [1, 3, 5, 9], [2]], [⟨[], [1, 3, 4], [16, 48, 224, 352, 384, 768, 1152, 1328, 1384, 1392, 2384, 3384, 4384, 5384, 6384, 7384, 8384]⟩, ⟨[], [1, 3, 5, 6], [16, 48, 224, 352, 384, 1152, 1328, 1384, 1392, 2384, 3384, 4384, 5384, 6384, 7384, 8384]⟩, ⟨[], [1, 3, 5, 9], [16, 48, 224, 352, 384, 768, 1384, 1392, 2384, 3384, 4384, 5384, 6384, 7384, 8384]⟩], [], [[], [], [], [], [], [], [], [], [384, 1384, 2384, 3384, 4384, 5384, 6384, 7384, 8384], [], [], [], [], [], [], [], [], [], [], [], [], [], [], [], [], [], []], [], false, [(78, 1152), (75, 1152), (11, 1152), (10, 1152), (74, 1152), (73, 1152), (69, 1152), (53, 768), (51, 768), (8, 768), (7, 768), (50, 768), (49, 768), (45, 768), (2, 352)]⟩

/-- almadraba/almadrabalaw13.SkiesPounds -/
def b7l0 : AC :=
 .loop [1, 2, 5, 6] [32, 80, 112, 224, 256, 288, 720, 784, 1056, 1088, 1288, 1424, 1504, 2088, 2192, 2288, 3088, 3288, 4088, 4288, 5088, 5288, 6088, 6288, 7088, 7288, 8088, 8288, 9088] (.seq (.seq (.region false [
 ⟨(some 19), .mv (.t 6), none, [], []⟩,
 ⟨(some 20), .faddr 14 (.t 5), none, [], []⟩,
 ⟨(some 21), .load none (.t 20), none, [], []⟩,
 ⟨(some 22), .len (.t 21), none, [], []⟩,
 ⟨(some 23), .bin .lss (.t 19) (.t 22), none, [], []⟩] [1, 2, 5, 6, 23]) (.cond (.t 23) (.skip) (.exit 0))) (.seq (.block 1 (.region true (spl [
 ⟨(some 26), .faddr 14 (.t 5), none, [], []⟩,
 ⟨(some 27), .load none (.t 26), none, [0], []⟩,
 ⟨(some 28), .mv (.t 6), none, [], []⟩,
 ⟨(some 29), .faddr 14 (.t 2), none, [], []⟩,
 ⟨(some 30), .load none (.t 29), none, [3], []⟩,
 ⟨(some 31), .mv (.t 6), none, [], []⟩,
 ⟨(some 32), .idxs 2 (.t 30) (.t 31), none, [4, 5, 3], []⟩,
 ⟨(some 33), .faddr 0 (.t 32), none, [6, 4, 5, 3], []⟩,
 ⟨(some 34), .load none (.t 33), none, [7, 6, 4, 5, 3], []⟩,
 ⟨(some 35), .faddr 14 (.t 2), none, [], []⟩,
 ⟨(some 36), .load none (.t 35), none, [9], []⟩,
 ⟨(some 37), .mv (.t 6), none, [], []⟩,
 ⟨(some 38), .idxs 2 (.t 36) (.t 37), none, [10, 11, 9], []⟩,
 ⟨(some 39), .faddr 0 (.t 38), none, [12, 10, 11, 9], []⟩,
 ⟨(some 40), .load none (.t 39), none, [13, 12, 10, 11, 9], []⟩,
 ⟨(some 41), .build [(i64 0), (i64 0)] [(0, 1, (.t 34)), (1, 1, (.t 40))], none, [8, 14, 7, 6, 4, 5, 3, 13, 12, 10, 11, 9], []⟩] [
 ⟨(some 42), .idxs 2 (.t 27) (.t 28), none, [1, 2, 15, 0, 8, 14, 7, 6, 4, 5, 3, 13, 12, 10, 11, 9], []⟩,
 ⟨none, .store 2 (.t 42) (.t 41), none, [16, 1, 2, 15, 0, 8, 14, 7, 6, 4, 5, 3, 13, 12, 10, 11, 9], []⟩]) [1, 2, 5, 6])) (.region false [
 ⟨(some 24), .mv (.t 6), none, [], []⟩,
 ⟨(some 25), .bin .add (.t 24) (.c (i64 1)), none, [], []⟩,
 ⟨(some 6), .mv (.t 25), none, [], []⟩] [1, 2, 5, 6])))
/-- almadraba/almadrabalaw13.SkiesPounds -/
def b7l1 : AC :=
 .loop [8, 10, 12] [32, 80, 112, 224, 256, 288, 720, 784, 1056, 1088, 1288, 1424, 1504, 2088, 2192, 2288, 3088, 3288, 4088, 4288, 5088, 5288, 6088, 6288, 7088, 7288, 8088, 8288, 9088] (.seq (.seq (.region false [
 ⟨(some 110), .mv (.t 12), none, [], []⟩,
 ⟨(some 111), .mv (.t 8), none, [], []⟩,
 ⟨(some 112), .len (.t 111), none, [], []⟩,
 ⟨(some 113), .bin .lss (.t 110) (.t 112), none, [], []⟩] [8, 10, 12, 113]) (.cond (.t 113) (.skip) (.exit 2))) (.seq (.block 3 (.seq (.region true (spl [
 ⟨(some 116), .mv (.t 10), none, [], []⟩,
 ⟨(some 117), .mv (.t 12), none, [], []⟩,
 ⟨(some 118), .idxs 1 (.t 116) (.t 117), none, [0, 1], []⟩,
 ⟨(some 119), .load none (.t 118), none, [2, 0, 1], []⟩,
 ⟨(some 120), .mv (.t 8), none, [], []⟩,
 ⟨(some 121), .mv (.t 12), none, [], []⟩,
 ⟨(some 122), .idxs 1 (.t 120) (.t 121), none, [4, 5], []⟩,
 ⟨(some 123), .load none (.t 122), none, [6, 4, 5], []⟩,
 ⟨(some 124), .bin .lss (.t 119) (.t 123), none, [3, 7, 2, 0, 1, 6, 4, 5], []⟩,
 ⟨(some 125), .mv (.t 124), none, [8, 3, 7, 2, 0, 1, 6, 4, 5], []⟩,
 ⟨(some 126), .mv (.t 10), (some (125, false)), [9, 8, 3, 7, 2, 0, 1, 6, 4, 5], []⟩,
 ⟨(some 127), .mv (.t 12), (some (125, false)), [9, 8, 3, 7, 2, 0, 1, 6, 4, 5], []⟩,
 ⟨(some 128), .idxs 1 (.t 126) (.t 127), (some (125, false)), [10, 11, 9, 8, 3, 7, 2, 0, 1, 6, 4, 5], []⟩,
 ⟨(some 129), .load none (.t 128), (some (125, false)), [12, 10, 11, 9, 8, 3, 7, 2, 0, 1, 6, 4, 5], []⟩,
 ⟨(some 130), .mv (.t 8), (some (125, false)), [9, 8, 3, 7, 2, 0, 1, 6, 4, 5], []⟩,
 ⟨(some 131), .mv (.t 12), (some (125, false)), [9, 8, 3, 7, 2, 0, 1, 6, 4, 5], []⟩,
 ⟨(some 132), .idxs 1 (.t 130) (.t 131), (some (125, false)), [14, 15, 9, 8, 3, 7, 2, 0, 1, 6, 4, 5], []⟩,
 ⟨(some 133), .load none (.t 132), (some (125, false)), [16, 14, 15, 9, 8, 3, 7, 2, 0, 1, 6, 4, 5], []⟩,
 ⟨(some 134), .bin .add (.t 133) (.c (i64 1)), (some (125, false)), [17, 16, 14, 15, 9, 8, 3, 7, 2, 0, 1, 6, 4, 5], []⟩] [
 ⟨(some 135), .bin .gtr (.t 129) (.t 134), (some (125, false)), [13, 18, 12, 10, 11, 17, 16, 14, 15, 9, 8, 3, 7, 2, 0, 1, 6, 4, 5], []⟩,
 ⟨(some 136), .pick (.t 125) (.c (.bool true)) (.t 135), none, [19, 13, 18, 12, 10, 11, 17, 16, 14, 15, 9, 8, 3, 7, 2, 0, 1, 6, 4, 5], []⟩]) [8, 10, 12, 136]) (.cond (.t 136) (.seq (.region false [
 ⟨(some 4), .mv (.c (.bool false)), none, [], []⟩] [4]) (.ret)) (.skip)))) (.region false [
 ⟨(some 114), .mv (.t 12), none, [], []⟩,
 ⟨(some 115), .bin .add (.t 114) (.c (i64 1)), none, [], []⟩,
 ⟨(some 12), .mv (.t 115), none, [], []⟩] [8, 10, 12])))
/-- almadraba/almadrabalaw13.SkiesPounds -/
def b7 : AC :=
 .seq (.region false [
 ⟨(some 2), .box (.t 0), none, [], []⟩,
 ⟨(some 4), .mv (.c (.bool false)), none, [], []⟩] [1, 2]) (.seq (.seq (.region false [
 ⟨(some 13), .load (some 15) (.t 2), none, [], []⟩,
 ⟨(some 14), .call 10 [(.t 13)], none, [], []⟩,
 ⟨(some 15), .un .not (.t 14), none, [], []⟩] [1, 2, 15]) (.cond (.t 15) (.seq (.region false [
 ⟨(some 16), .call 12 [], none, [], []⟩,
 ⟨(some 4), .mv (.t 16), none, [], []⟩] [4]) (.ret)) (.skip))) (.seq (.region false [
 ⟨(some 17), .load (some 15) (.t 2), none, [], []⟩,
 ⟨(some 18), .call 13 [(.t 17)], none, [], []⟩,
 ⟨(some 5), .alloc [(i64 0), (i64 0), (i64 0), (i64 0), (.sl .full 2 []), (.sl .full 2 []), (.sl .full 5 []), (i64 0), (i64 0), (.sl .full 2 []), (.sl .full 2 []), (.sl .full 4 []), (.sl .full 1 []), (.sl .full 1 []), (.sl .full 2 [])], none, [], []⟩,
 ⟨none, .store 15 (.t 5) (.t 18), none, [], []⟩] [1, 2, 5]) (.seq (.seq (.region false [
 ⟨(some 6), .mv (.c (i64 0)), none, [], []⟩] [1, 2, 5, 6]) (.block 0 (b7l0))) (.seq (.seq (.seq (.freeze [288, 1288, 2288, 3288, 4288, 5288, 6288, 7288, 8288]) (.region false [
 ⟨(some 43), .load (some 15) (.t 2), none, [], []⟩,
 ⟨(some 44), .load (some 15) (.t 5), none, [], []⟩,
 ⟨(some 45), .call 15 [(.t 43), (.t 44)], none, [], []⟩,
 ⟨(some 46), .un .not (.t 45), none, [], []⟩] [1, 2, 46])) (.cond (.t 46) (.seq (.region false [
 ⟨(some 4), .mv (.c (.bool false)), none, [], []⟩] [4]) (.ret)) (.skip))) (.seq (.seq (.region true (spl [
 ⟨(some 47), .load (some 15) (.t 2), none, [], []⟩,
 ⟨(some 48), .mv (.t 1), none, [], []⟩,
 ⟨(some 49), .call 24 [(.t 47), (.t 48)], none, [0, 1], []⟩,
 ⟨(some 50), .un .not (.t 49), none, [2, 0, 1], []⟩,
 ⟨(some 51), .mv (.t 50), none, [3, 2, 0, 1], []⟩,
 ⟨(some 52), .faddr 14 (.t 2), (some (51, false)), [4, 3, 2, 0, 1], []⟩,
 ⟨(some 53), .load none (.t 52), (some (51, false)), [5, 4, 3, 2, 0, 1], []⟩,
 ⟨(some 54), .mv (.t 1), (some (51, false)), [4, 3, 2, 0, 1], []⟩,
 ⟨(some 55), .idxs 2 (.t 53) (.t 54), (some (51, false)), [6, 7, 5, 4, 3, 2, 0, 1], []⟩,
 ⟨(some 56), .faddr 0 (.t 55), (some (51, false)), [8, 6, 7, 5, 4, 3, 2, 0, 1], []⟩,
 ⟨(some 57), .load none (.t 56), (some (51, false)), [9, 8, 6, 7, 5, 4, 3, 2, 0, 1], []⟩,
 ⟨(some 58), .faddr 14 (.t 2), (some (51, false)), [4, 3, 2, 0, 1], []⟩,
 ⟨(some 59), .load none (.t 58), (some (51, false)), [11, 4, 3, 2, 0, 1], []⟩,
 ⟨(some 60), .mv (.t 1), (some (51, false)), [4, 3, 2, 0, 1], []⟩,
 ⟨(some 61), .idxs 2 (.t 59) (.t 60), (some (51, false)), [12, 13, 11, 4, 3, 2, 0, 1], []⟩,
 ⟨(some 62), .faddr 1 (.t 61), (some (51, false)), [14, 12, 13, 11, 4, 3, 2, 0, 1], []⟩,
 ⟨(some 63), .load none (.t 62), (some (51, false)), [15, 14, 12, 13, 11, 4, 3, 2, 0, 1], []⟩] [
 ⟨(some 64), .bin .eql (.t 57) (.t 63), (some (51, false)), [10, 16, 9, 8, 6, 7, 5, 15, 14, 12, 13, 11, 4, 3, 2, 0, 1], []⟩,
 ⟨(some 65), .pick (.t 51) (.c (.bool true)) (.t 64), none, [17, 10, 16, 9, 8, 6, 7, 5, 15, 14, 12, 13, 11, 4, 3, 2, 0, 1], []⟩]) [1, 2, 65]) (.cond (.t 65) (.seq (.region false [
 ⟨(some 66), .call 12 [], none, [], []⟩,
 ⟨(some 4), .mv (.t 66), none, [], []⟩] [4]) (.ret)) (.skip))) (.seq (.region false [
 ⟨(some 67), .load (some 15) (.t 2), none, [], []⟩,
 ⟨(some 68), .call 13 [(.t 67)], none, [], []⟩,
 ⟨(some 7), .alloc [(i64 0), (i64 0), (i64 0), (i64 0), (.sl .full 2 []), (.sl .full 2 []), (.sl .full 5 []), (i64 0), (i64 0), (.sl .full 2 []), (.sl .full 2 []), (.sl .full 4 []), (.sl .full 1 []), (.sl .full 1 []), (.sl .full 2 [])], none, [], []⟩,
 ⟨none, .store 15 (.t 7) (.t 68), none, [], []⟩] [1, 2, 7]) (.seq (.region true (spl [
 ⟨(some 69), .faddr 14 (.t 7), none, [], []⟩,
 ⟨(some 70), .load none (.t 69), none, [0], []⟩,
 ⟨(some 71), .mv (.t 1), none, [], []⟩,
 ⟨(some 72), .faddr 14 (.t 2), none, [], []⟩,
 ⟨(some 73), .load none (.t 72), none, [3], []⟩,
 ⟨(some 74), .mv (.t 1), none, [], []⟩,
 ⟨(some 75), .idxs 2 (.t 73) (.t 74), none, [4, 5, 3], []⟩,
 ⟨(some 76), .faddr 0 (.t 75), none, [6, 4, 5, 3], []⟩,
 ⟨(some 77), .load none (.t 76), none, [7, 6, 4, 5, 3], []⟩,
 ⟨(some 78), .bin .add (.t 77) (.c (i64 1)), none, [8, 7, 6, 4, 5, 3], []⟩,
 ⟨(some 79), .faddr 14 (.t 2), none, [], []⟩,
 ⟨(some 80), .load none (.t 79), none, [10], []⟩,
 ⟨(some 81), .mv (.t 1), none, [], []⟩,
 ⟨(some 82), .idxs 2 (.t 80) (.t 81), none, [11, 12, 10], []⟩,
 ⟨(some 83), .faddr 1 (.t 82), none, [13, 11, 12, 10], []⟩,
 ⟨(some 84), .load none (.t 83), none, [14, 13, 11, 12, 10], []⟩,
 ⟨(some 85), .build [(i64 0), (i64 0)] [(0, 1, (.t 78)), (1, 1, (.t 84))], none, [9, 15, 8, 7, 6, 4, 5, 3, 14, 13, 11, 12, 10], []⟩] [
 ⟨(some 86), .idxs 2 (.t 70) (.t 71), none, [1, 2, 16, 0, 9, 15, 8, 7, 6, 4, 5, 3, 14, 13, 11, 12, 10], []⟩,
 ⟨none, .store 2 (.t 86) (.t 85), none, [17, 1, 2, 16, 0, 9, 15, 8, 7, 6, 4, 5, 3, 14, 13, 11, 12, 10], []⟩]) [2, 7]) (.seq (.seq (.freeze [1088, 2088, 3088, 4088, 5088, 6088, 7088, 8088, 9088]) (.region false [
 ⟨(some 88), .load (some 15) (.t 2), none, [], []⟩,
 ⟨(some 89), .call 25 [(.t 88)], none, [], []⟩,
 ⟨(some 87), .mv (.t 89), none, [], []⟩,
 ⟨(some 90), .ext (.t 87) 0, none, [], []⟩,
 ⟨(some 91), .ext (.t 87) 1, none, [], []⟩,
 ⟨(some 8), .mv (.t 90), none, [], []⟩,
 ⟨(some 9), .mv (.t 91), none, [], []⟩] [7, 8, 9])) (.seq (.region false [
 ⟨(some 93), .load (some 15) (.t 7), none, [], []⟩,
 ⟨(some 94), .call 25 [(.t 93)], none, [], []⟩,
 ⟨(some 92), .mv (.t 94), none, [], []⟩,
 ⟨(some 95), .ext (.t 92) 0, none, [], []⟩,
 ⟨(some 96), .ext (.t 92) 1, none, [], []⟩,
 ⟨(some 10), .mv (.t 95), none, [], []⟩,
 ⟨(some 11), .mv (.t 96), none, [], []⟩] [8, 9, 10, 11]) (.seq (.seq (.region false [
 ⟨(some 97), .mv (.t 9), none, [], []⟩,
 ⟨(some 98), .un .not (.t 97), none, [], []⟩,
 ⟨(some 99), .mv (.t 98), none, [], []⟩,
 ⟨(some 100), .mv (.t 11), (some (99, false)), [], []⟩,
 ⟨(some 101), .un .not (.t 100), (some (99, false)), [], []⟩,
 ⟨(some 102), .pick (.t 99) (.c (.bool true)) (.t 101), none, [], []⟩,
 ⟨(some 103), .mv (.t 102), none, [], []⟩,
 ⟨(some 104), .mv (.t 8), (some (103, false)), [], []⟩,
 ⟨(some 105), .len (.t 104), (some (103, false)), [], []⟩,
 ⟨(some 106), .mv (.t 10), (some (103, false)), [], []⟩,
 ⟨(some 107), .len (.t 106), (some (103, false)), [], []⟩,
 ⟨(some 108), .bin .neq (.t 105) (.t 107), (some (103, false)), [], []⟩,
 ⟨(some 109), .pick (.t 103) (.c (.bool true)) (.t 108), none, [], []⟩] [8, 10, 109]) (.cond (.t 109) (.seq (.region false [
 ⟨(some 4), .mv (.c (.bool false)), none, [], []⟩] [4]) (.ret)) (.skip))) (.seq (.seq (.region false [
 ⟨(some 12), .mv (.c (i64 0)), none, [], []⟩] [8, 10, 12]) (.block 2 (b7l1))) (.seq (.region false [
 ⟨(some 137), .call 12 [], none, [], []⟩,
 ⟨(some 4), .mv (.t 137), none, [], []⟩] [4]) (.ret)))))))))))))
def a7 : AFn := ⟨2, [.t 4], b7, false⟩
def n7 : Ann := ⟨[[1, 2], [1, 2, 15], [4], [1, 2, 5], [1, 2, 5, 6], [1, 2, 5, 6, 23], [1, 2, 5, 6], [1, 2, 5, 6], [1, 2, 46], [4], [1, 2, 65], [4], [1, 2, 7], [2, 7], [7, 8, 9], [8, 9, 10, 11], [8, 10, 109], [4], [8, 10, 12], [8, 10, 12, 113], [8, 10, 12, 136], [4], [8, 10, 12], [4]], [⟨[], [1, 2, 5, 6], [32, 80, 112, 224, 256, 288, 720, 784, 1056, 1088, 1288, 1424, 1504, 2088, 2192, 2288, 3088, 3288, 4088, 4288, 5088, 5288, 6088, 6288, 7088, 7288, 8088, 8288, 9088]⟩, ⟨[], [8, 10, 12], [32, 80, 112, 224, 256, 288, 720, 784, 1056, 1088, 1288, 1424, 1504, 2088, 2192, 2288, 3088, 3288, 4088, 4288, 5088, 5288, 6088, 6288, 7088, 7288, 8088, 8288, 9088]⟩], [], [[], [], [], [], [], [], [], [], [288, 1288, 2288, 3288, 4288, 5288, 6288, 7288, 8288], [], [], [], [], [], [1088, 2088, 3088, 4088, 5088, 6088, 7088, 8088, 9088], [], [], [], [], [], [], [], [], []], [], false, [(130, 1424), (126, 1504), (120, 1424), (116, 1504), (111, 1424), (106, 1504), (104, 1424), (100, 1504), (97, 1424), (11, 1504), (10, 1504), (96, 1504), (95, 1504), (92, 1504), (9, 1424), (8, 1424), (91, 1424), (90, 1424), (87, 1424), (4, 256)]⟩

/-- almadraba/almadrabalaw13.SkiesPut -/
def b8l0 : AC :=
 .loop [1, 2, 5, 6, 7, 8] [32, 80, 192, 352, 400, 448, 512, 656, 752, 1552] (.seq (.seq (.region false [
 ⟨(some 64), .mv (.t 8), none, [], []⟩,
 ⟨(some 65), .bin .geq (.t 64) (.c (i64 0)), none, [], []⟩] [1, 2, 5, 6, 7, 8, 65]) (.cond (.t 65) (.skip) (.exit 0))) (.seq (.block 1 (.seq (.region true (spl [
 ⟨(some 69), .load (some 15) (.t 2), none, [], []⟩,
 ⟨(some 70), .mv (.t 8), none, [], []⟩,
 ⟨(some 71), .mv (.t 1), none, [], []⟩,
 ⟨(some 72), .mv (.t 8), none, [], []⟩,
 ⟨(some 73), .idxs 1 (.t 71) (.t 72), none, [2, 3], []⟩,
 ⟨(some 74), .load none (.t 73), none, [4, 2, 3], []⟩,
 ⟨(some 75), .call 29 [(.t 69), (.t 70), (.t 74)], none, [0, 1, 5, 4, 2, 3], []⟩,
 ⟨(some 68), .mv (.t 75), none, [6, 0, 1, 5, 4, 2, 3], []⟩,
 ⟨(some 76), .ext (.t 68) 0, none, [7, 6, 0, 1, 5, 4, 2, 3], []⟩,
 ⟨(some 77), .ext (.t 68) 1, none, [7, 6, 0, 1, 5, 4, 2, 3], []⟩,
 ⟨(some 9), .mv (.t 76), none, [8, 7, 6, 0, 1, 5, 4, 2, 3], []⟩] [
 ⟨(some 10), .mv (.t 77), none, [9, 10, 8, 7, 6, 0, 1, 5, 4, 2, 3], []⟩]) [1, 2, 5, 6, 7, 8, 9, 10]) (.seq (.seq (.region false [
 ⟨(some 78), .mv (.t 10), none, [], []⟩,
 ⟨(some 79), .un .not (.t 78), none, [], []⟩] [1, 2, 5, 6, 7, 8, 9, 79]) (.cond (.t 79) (.seq (.region false [
 ⟨(some 4), .mv (.c (.bool false)), none, [], []⟩] [4]) (.ret)) (.skip))) (.seq (.region false [
 ⟨(some 80), .mv (.t 9), none, [], []⟩] [1, 2, 5, 6, 7, 8, 80]) (.cond (.t 80) (.region false [
 ⟨(some 81), .mv (.t 8), none, [], []⟩,
 ⟨(some 7), .mv (.t 81), none, [], []⟩] [1, 2, 5, 6, 7, 8]) (.skip)))))) (.region false [
 ⟨(some 66), .mv (.t 8), none, [], []⟩,
 ⟨(some 67), .bin .sub (.t 66) (.c (i64 1)), none, [], []⟩,
 ⟨(some 8), .mv (.t 67), none, [], []⟩] [1, 2, 5, 6, 7, 8])))
/-- almadraba/almadrabalaw13.SkiesPut -/
def b8 : AC :=
 .seq (.region false [
 ⟨(some 2), .box (.t 0), none, [], []⟩,
 ⟨(some 4), .mv (.c (.bool false)), none, [], []⟩] [1, 2]) (.seq (.seq (.region false [
 ⟨(some 11), .load (some 15) (.t 2), none, [], []⟩,
 ⟨(some 12), .call 10 [(.t 11)], none, [], []⟩,
 ⟨(some 13), .un .not (.t 12), none, [], []⟩,
 ⟨(some 14), .mv (.t 13), none, [], []⟩,
 ⟨(some 15), .mv (.t 1), (some (14, false)), [], []⟩,
 ⟨(some 16), .len (.t 15), (some (14, false)), [], []⟩,
 ⟨(some 17), .bin .gtr (.t 16) (.c (i64 40)), (some (14, false)), [], []⟩,
 ⟨(some 18), .pick (.t 14) (.c (.bool true)) (.t 17), none, [], []⟩,
 ⟨(some 19), .mv (.t 18), none, [], []⟩,
 ⟨(some 20), .load (some 15) (.t 2), (some (19, false)), [], []⟩,
 ⟨(some 21), .mv (.t 1), (some (19, false)), [], []⟩,
 ⟨(some 22), .call 26 [(.t 20), (.t 21)], (some (19, false)), [], []⟩,
 ⟨(some 23), .un .not (.t 22), (some (19, false)), [], []⟩,
 ⟨(some 24), .pick (.t 19) (.c (.bool true)) (.t 23), none, [], []⟩] [1, 2, 24]) (.cond (.t 24) (.seq (.region false [
 ⟨(some 25), .call 12 [], none, [], []⟩,
 ⟨(some 4), .mv (.t 25), none, [], []⟩] [4]) (.ret)) (.skip))) (.seq (.region false [
 ⟨(some 27), .load (some 15) (.t 2), none, [], []⟩,
 ⟨(some 28), .call 27 [(.t 27)], none, [], []⟩,
 ⟨(some 26), .mv (.t 28), none, [], []⟩,
 ⟨(some 29), .ext (.t 26) 0, none, [], []⟩,
 ⟨(some 30), .ext (.t 26) 1, none, [], []⟩,
 ⟨(some 5), .alloc [(i64 0), (i64 0)], none, [], []⟩,
 ⟨none, .store 2 (.t 5) (.t 29), none, [], []⟩,
 ⟨(some 6), .mv (.t 30), none, [], []⟩] [1, 2, 5, 6]) (.seq (.seq (.region false [
 ⟨(some 31), .mv (.t 6), none, [], []⟩,
 ⟨(some 32), .call 28 [(.t 31)], none, [], []⟩,
 ⟨(some 33), .un .not (.t 32), none, [], []⟩,
 ⟨(some 34), .mv (.t 33), none, [], []⟩,
 ⟨(some 35), .mv (.t 6), (some (34, false)), [], []⟩,
 ⟨(some 36), .bin .eql (.t 35) (.c (i64 0)), (some (34, false)), [], []⟩,
 ⟨(some 37), .mv (.t 36), (some (34, false)), [], []⟩,
 ⟨(some 38), .load (some 15) (.t 2), (some (37, true)), [], []⟩,
 ⟨(some 39), .faddr 0 (.t 5), (some (37, true)), [], []⟩,
 ⟨(some 40), .load none (.t 39), (some (37, true)), [], []⟩,
 ⟨(some 41), .call 24 [(.t 38), (.t 40)], (some (37, true)), [], []⟩,
 ⟨(some 42), .un .not (.t 41), (some (37, true)), [], []⟩,
 ⟨(some 43), .mv (.t 42), (some (37, true)), [], []⟩,
 ⟨(some 44), .load (some 15) (.t 2), (some (43, false)), [], []⟩,
 ⟨(some 45), .faddr 1 (.t 5), (some (43, false)), [], []⟩,
 ⟨(some 46), .load none (.t 45), (some (43, false)), [], []⟩,
 ⟨(some 47), .call 24 [(.t 44), (.t 46)], (some (43, false)), [], []⟩,
 ⟨(some 48), .un .not (.t 47), (some (43, false)), [], []⟩,
 ⟨(some 49), .pick (.t 43) (.c (.bool true)) (.t 48), (some (37, true)), [], []⟩,
 ⟨(some 50), .mv (.t 49), (some (37, true)), [], []⟩,
 ⟨(some 51), .faddr 0 (.t 5), (some (50, false)), [], []⟩,
 ⟨(some 52), .load none (.t 51), (some (50, false)), [], []⟩,
 ⟨(some 53), .faddr 1 (.t 5), (some (50, false)), [], []⟩,
 ⟨(some 54), .load none (.t 53), (some (50, false)), [], []⟩,
 ⟨(some 55), .bin .gtr (.t 52) (.t 54), (some (50, false)), [], []⟩,
 ⟨(some 56), .pick (.t 50) (.c (.bool true)) (.t 55), (some (37, true)), [], []⟩,
 ⟨(some 57), .pick (.t 37) (.t 56) (.c (.bool false)), (some (34, false)), [], []⟩,
 ⟨(some 58), .pick (.t 34) (.c (.bool true)) (.t 57), none, [], []⟩] [1, 2, 5, 6, 58]) (.cond (.t 58) (.seq (.region false [
 ⟨(some 4), .mv (.c (.bool false)), none, [], []⟩] [4]) (.ret)) (.skip))) (.seq (.region false [
 ⟨(some 59), .mv (.t 1), none, [], []⟩,
 ⟨(some 60), .len (.t 59), none, [], []⟩,
 ⟨(some 7), .mv (.t 60), none, [], []⟩] [1, 2, 5, 6, 7]) (.seq (.seq (.region false [
 ⟨(some 61), .mv (.t 1), none, [], []⟩,
 ⟨(some 62), .len (.t 61), none, [], []⟩,
 ⟨(some 63), .bin .sub (.t 62) (.c (i64 1)), none, [], []⟩,
 ⟨(some 8), .mv (.t 63), none, [], []⟩] [1, 2, 5, 6, 7, 8]) (.block 0 (b8l0))) (.seq (.region false [
 ⟨(some 82), .mv (.t 6), none, [], []⟩,
 ⟨(some 83), .bin .neq (.t 82) (.c (i64 0)), none, [], []⟩,
 ⟨(some 84), .mv (.t 83), none, [], []⟩,
 ⟨(some 85), .mv (.t 7), (some (84, false)), [], []⟩,
 ⟨(some 86), .faddr 0 (.t 5), (some (84, false)), [], []⟩,
 ⟨(some 87), .load none (.t 86), (some (84, false)), [], []⟩,
 ⟨(some 88), .bin .geq (.t 85) (.t 87), (some (84, false)), [], []⟩,
 ⟨(some 89), .mv (.t 88), (some (84, false)), [], []⟩,
 ⟨(some 90), .mv (.t 7), (some (89, true)), [], []⟩,
 ⟨(some 91), .faddr 1 (.t 5), (some (89, true)), [], []⟩,
 ⟨(some 92), .load none (.t 91), (some (89, true)), [], []⟩,
 ⟨(some 93), .bin .leq (.t 90) (.t 92), (some (89, true)), [], []⟩,
 ⟨(some 94), .pick (.t 89) (.t 93) (.c (.bool false)), (some (84, false)), [], []⟩,
 ⟨(some 95), .pick (.t 84) (.c (.bool true)) (.t 94), none, [], []⟩,
 ⟨(some 96), .mv (.t 95), none, [], []⟩,
 ⟨(some 97), .call 12 [], (some (96, true)), [], []⟩,
 ⟨(some 98), .pick (.t 96) (.t 97) (.c (.bool false)), none, [], []⟩,
 ⟨(some 4), .mv (.t 98), none, [], []⟩] [4]) (.ret)))))))
def a8 : AFn := ⟨2, [.t 4], b8, false⟩
def n8 : Ann := ⟨[[1, 2], [1, 2, 24], [4], [1, 2, 5, 6], [1, 2, 5, 6, 58], [4], [1, 2, 5, 6, 7], [1, 2, 5, 6, 7, 8], [1, 2, 5, 6, 7, 8, 65], [1, 2, 5, 6, 7, 8, 9, 10], [1, 2, 5, 6, 7, 8, 9, 79], [4], [1, 2, 5, 6, 7, 8, 80], [1, 2, 5, 6, 7, 8], [1, 2, 5, 6, 7, 8], [4]], [⟨[], [1, 2, 5, 6, 7, 8], [32, 80, 192, 352, 400, 448, 512, 656, 752, 1552]⟩], [], [], [], false, [(82, 448), (80, 1200), (78, 1200), (10, 1200), (9, 1200), (77, 1200), (76, 1200), (68, 1200), (35, 448), (31, 448), (6, 448), (30, 448), (29, 448), (26, 448), (4, 400)]⟩

/-- almadraba/almadrabalaw13.SkiesStep -/
def b9l0 : AC :=
 .loop [1, 3, 7, 8, 9, 10, 11, 12, 13, 14] [48, 288, 368, 464, 512, 576, 656, 768, 1952] (.seq (.seq (.region false [
 ⟨(some 56), .mv (.t 14), none, [], []⟩,
 ⟨(some 57), .mv (.t 13), none, [], []⟩,
 ⟨(some 58), .len (.t 57), none, [], []⟩,
 ⟨(some 59), .bin .lss (.t 56) (.t 58), none, [], []⟩,
 ⟨(some 60), .mv (.t 59), none, [], []⟩,
 ⟨(some 61), .mv (.t 1), (some (60, true)), [], []⟩,
 ⟨(some 62), .bin .add (.t 61) (.c (i64 1)), (some (60, true)), [], []⟩,
 ⟨(some 63), .faddr 14 (.t 3), (some (60, true)), [], []⟩,
 ⟨(some 64), .load none (.t 63), (some (60, true)), [], []⟩,
 ⟨(some 65), .len (.t 64), (some (60, true)), [], []⟩,
 ⟨(some 66), .bin .lss (.t 62) (.t 65), (some (60, true)), [], []⟩,
 ⟨(some 67), .pick (.t 60) (.t 66) (.c (.bool false)), none, [], []⟩] [1, 3, 7, 8, 9, 10, 11, 12, 13, 14, 67]) (.cond (.t 67) (.skip) (.exit 0))) (.seq (.block 1 (.seq (.region true (spl [
 ⟨(some 70), .load (some 15) (.t 3), none, [], []⟩,
 ⟨(some 71), .mv (.t 1), none, [], []⟩,
 ⟨(some 72), .bin .add (.t 71) (.c (i64 1)), none, [1], []⟩,
 ⟨(some 73), .mv (.t 13), none, [], []⟩,
 ⟨(some 74), .mv (.t 14), none, [], []⟩,
 ⟨(some 75), .idxs 1 (.t 73) (.t 74), none, [3, 4], []⟩,
 ⟨(some 76), .load none (.t 75), none, [5, 3, 4], []⟩] [
 ⟨(some 77), .call 23 [(.t 70), (.t 72), (.t 76)], none, [0, 2, 6, 1, 5, 3, 4], []⟩,
 ⟨(some 15), .mv (.t 77), none, [7, 0, 2, 6, 1, 5, 3, 4], []⟩]) [1, 3, 7, 8, 9, 10, 11, 12, 13, 14, 15]) (.seq (.seq (.region false [
 ⟨(some 78), .mv (.t 15), none, [], []⟩,
 ⟨(some 79), .bin .lss (.t 78) (.c (i64 0)), none, [], []⟩] [1, 3, 7, 8, 9, 10, 11, 12, 13, 14, 15, 79]) (.cond (.t 79) (.seq (.region false [
 ⟨(some 6), .mv (.c (.bool false)), none, [], []⟩] [6]) (.ret)) (.skip))) (.seq (.seq (.region false [
 ⟨(some 80), .mv (.t 14), none, [], []⟩,
 ⟨(some 81), .bin .eql (.t 80) (.c (i64 0)), none, [], []⟩] [1, 3, 7, 8, 9, 10, 11, 12, 13, 14, 15, 81]) (.cond (.t 81) (.region false [
 ⟨(some 82), .mv (.t 15), none, [], []⟩,
 ⟨(some 12), .mv (.t 82), none, [], []⟩] [1, 3, 7, 8, 9, 10, 11, 12, 13, 14, 15]) (.skip))) (.region false [
 ⟨(some 83), .mv (.t 12), none, [], []⟩,
 ⟨(some 84), .mv (.t 15), none, [], []⟩,
 ⟨(some 85), .mm false (.t 83) (.t 84), none, [], []⟩,
 ⟨(some 12), .mv (.t 85), none, [], []⟩] [1, 3, 7, 8, 9, 10, 11, 12, 13, 14]))))) (.region false [
 ⟨(some 68), .mv (.t 14), none, [], []⟩,
 ⟨(some 69), .bin .add (.t 68) (.c (i64 1)), none, [], []⟩,
 ⟨(some 14), .mv (.t 69), none, [], []⟩] [1, 3, 7, 8, 9, 10, 11, 12, 13, 14])))
/-- almadraba/almadrabalaw13.SkiesStep -/
def b9 : AC :=
 .seq (.region false [
 ⟨(some 3), .box (.t 0), none, [], []⟩,
 ⟨(some 6), .mv (.c (.bool false)), none, [], []⟩] [1, 2, 3]) (.seq (.seq (.region false [
 ⟨(some 17), .load (some 15) (.t 3), none, [], []⟩,
 ⟨(some 18), .call 10 [(.t 17)], none, [], []⟩,
 ⟨(some 19), .un .not (.t 18), none, [], []⟩,
 ⟨(some 20), .mv (.t 19), none, [], []⟩,
 ⟨(some 21), .load (some 15) (.t 3), (some (20, false)), [], []⟩,
 ⟨(some 22), .mv (.t 1), (some (20, false)), [], []⟩,
 ⟨(some 23), .call 24 [(.t 21), (.t 22)], (some (20, false)), [], []⟩,
 ⟨(some 24), .un .not (.t 23), (some (20, false)), [], []⟩,
 ⟨(some 25), .pick (.t 20) (.c (.bool true)) (.t 24), none, [], []⟩,
 ⟨(some 26), .mv (.t 25), none, [], []⟩,
 ⟨(some 27), .load (some 15) (.t 3), (some (26, false)), [], []⟩,
 ⟨(some 28), .mv (.t 2), (some (26, false)), [], []⟩,
 ⟨(some 29), .call 11 [(.t 27), (.t 28)], (some (26, false)), [], []⟩,
 ⟨(some 30), .un .not (.t 29), (some (26, false)), [], []⟩,
 ⟨(some 31), .pick (.t 26) (.c (.bool true)) (.t 30), none, [], []⟩] [1, 2, 3, 31]) (.cond (.t 31) (.seq (.region false [
 ⟨(some 32), .call 12 [], none, [], []⟩,
 ⟨(some 6), .mv (.t 32), none, [], []⟩] [6]) (.ret)) (.skip))) (.seq (.region false [
 ⟨(some 33), .load (some 15) (.t 3), none, [], []⟩,
 ⟨(some 34), .mv (.t 1), none, [], []⟩,
 ⟨(some 35), .mv (.t 2), none, [], []⟩,
 ⟨(some 36), .call 23 [(.t 33), (.t 34), (.t 35)], none, [], []⟩,
 ⟨(some 7), .mv (.t 36), none, [], []⟩] [1, 2, 3, 7]) (.seq (.region false [
 ⟨(some 38), .load (some 15) (.t 3), none, [], []⟩,
 ⟨(some 39), .mv (.t 1), none, [], []⟩,
 ⟨(some 40), .mv (.t 2), none, [], []⟩,
 ⟨(some 41), .call 29 [(.t 38), (.t 39), (.t 40)], none, [], []⟩,
 ⟨(some 37), .mv (.t 41), none, [], []⟩,
 ⟨(some 42), .ext (.t 37) 0, none, [], []⟩,
 ⟨(some 43), .ext (.t 37) 1, none, [], []⟩,
 ⟨(some 8), .mv (.t 42), none, [], []⟩,
 ⟨(some 9), .mv (.t 43), none, [], []⟩] [1, 2, 3, 7, 8, 9]) (.seq (.region false [
 ⟨(some 45), .load (some 15) (.t 3), none, [], []⟩,
 ⟨(some 46), .mv (.t 1), none, [], []⟩,
 ⟨(some 47), .mv (.t 2), none, [], []⟩,
 ⟨(some 48), .call 30 [(.t 45), (.t 46), (.t 47)], none, [], []⟩,
 ⟨(some 44), .mv (.t 48), none, [], []⟩,
 ⟨(some 49), .ext (.t 44) 0, none, [], []⟩,
 ⟨(some 50), .ext (.t 44) 1, none, [], []⟩,
 ⟨(some 10), .mv (.t 49), none, [], []⟩,
 ⟨(some 11), .mv (.t 50), none, [], []⟩] [1, 2, 3, 7, 8, 9, 10, 11]) (.seq (.region false [
 ⟨(some 12), .mv (.c (i64 0)), none, [], []⟩] [1, 2, 3, 7, 8, 9, 10, 11, 12]) (.seq (.region false [
 ⟨(some 51), .faddr 12 (.t 3), none, [], []⟩,
 ⟨(some 52), .load none (.t 51), none, [], []⟩,
 ⟨(some 53), .mv (.t 2), none, [], []⟩,
 ⟨(some 54), .idxs 1 (.t 52) (.t 53), none, [], []⟩,
 ⟨(some 55), .load none (.t 54), none, [], []⟩,
 ⟨(some 13), .mv (.t 55), none, [], []⟩] [1, 3, 7, 8, 9, 10, 11, 12, 13]) (.seq (.seq (.region false [
 ⟨(some 14), .mv (.c (i64 0)), none, [], []⟩] [1, 3, 7, 8, 9, 10, 11, 12, 13, 14]) (.block 0 (b9l0))) (.seq (.region false [
 ⟨(some 86), .mv (.t 12), none, [], []⟩,
 ⟨(some 16), .mv (.t 86), none, [], []⟩] [1, 3, 7, 8, 9, 10, 11, 16]) (.seq (.seq (.region false [
 ⟨(some 87), .mv (.t 8), none, [], []⟩] [1, 3, 7, 8, 9, 10, 11, 16, 87]) (.cond (.t 87) (.region false [
 ⟨(some 88), .mv (.t 16), none, [], []⟩,
 ⟨(some 89), .faddr 14 (.t 3), none, [], []⟩,
 ⟨(some 90), .load none (.t 89), none, [], []⟩,
 ⟨(some 91), .mv (.t 1), none, [], []⟩,
 ⟨(some 92), .idxs 2 (.t 90) (.t 91), none, [], []⟩,
 ⟨(some 93), .faddr 0 (.t 92), none, [], []⟩,
 ⟨(some 94), .load none (.t 93), none, [], []⟩,
 ⟨(some 95), .mm true (.t 88) (.t 94), none, [], []⟩,
 ⟨(some 16), .mv (.t 95), none, [], []⟩] [1, 3, 7, 8, 9, 10, 11, 16]) (.skip))) (.seq (.region false [
 ⟨(some 96), .mv (.t 7), none, [], []⟩,
 ⟨(some 97), .mv (.t 16), none, [], []⟩,
 ⟨(some 98), .bin .eql (.t 96) (.t 97), none, [], []⟩,
 ⟨(some 99), .mv (.t 98), none, [], []⟩,
 ⟨(some 100), .mv (.t 9), (some (99, true)), [], []⟩,
 ⟨(some 101), .pick (.t 99) (.t 100) (.c (.bool false)), none, [], []⟩,
 ⟨(some 102), .mv (.t 101), none, [], []⟩,
 ⟨(some 103), .mv (.t 11), (some (102, true)), [], []⟩,
 ⟨(some 104), .bin .eql (.t 103) (.c (i64 0)), (some (102, true)), [], []⟩,
 ⟨(some 105), .pick (.t 102) (.t 104) (.c (.bool false)), none, [], []⟩,
 ⟨(some 106), .mv (.t 105), none, [], []⟩,
 ⟨(some 107), .mv (.t 10), (some (106, true)), [], []⟩,
 ⟨(some 108), .mv (.t 8), (some (106, true)), [], []⟩,
 ⟨(some 109), .mv (.t 108), (some (106, true)), [], []⟩,
 ⟨(some 110), .faddr 14 (.t 3), (some (109, true)), [], []⟩,
 ⟨(some 111), .load none (.t 110), (some (109, true)), [], []⟩,
 ⟨(some 112), .mv (.t 1), (some (109, true)), [], []⟩,
 ⟨(some 113), .idxs 2 (.t 111) (.t 112), (some (109, true)), [], []⟩,
 ⟨(some 114), .faddr 0 (.t 113), (some (109, true)), [], []⟩,
 ⟨(some 115), .load none (.t 114), (some (109, true)), [], []⟩,
 ⟨(some 116), .mv (.t 16), (some (109, true)), [], []⟩,
 ⟨(some 117), .bin .eql (.t 115) (.t 116), (some (109, true)), [], []⟩,
 ⟨(some 118), .pick (.t 109) (.t 117) (.c (.bool false)), (some (106, true)), [], []⟩,
 ⟨(some 119), .eqb false (.t 107) (.t 118), (some (106, true)), [], []⟩,
 ⟨(some 120), .pick (.t 106) (.t 119) (.c (.bool false)), none, [], []⟩,
 ⟨(some 121), .mv (.t 120), none, [], []⟩,
 ⟨(some 122), .call 12 [], (some (121, true)), [], []⟩,
 ⟨(some 123), .pick (.t 121) (.t 122) (.c (.bool false)), none, [], []⟩,
 ⟨(some 6), .mv (.t 123), none, [], []⟩] [6]) (.ret)))))))))))
def a9 : AFn := ⟨3, [.t 6], b9, false⟩
def n9 : Ann := ⟨[[1, 2, 3], [1, 2, 3, 31], [6], [1, 2, 3, 7], [1, 2, 3, 7, 8, 9], [1, 2, 3, 7, 8, 9, 10, 11], [1, 2, 3, 7, 8, 9, 10, 11, 12], [1, 3, 7, 8, 9, 10, 11, 12, 13], [1, 3, 7, 8, 9, 10, 11, 12, 13, 14], [1, 3, 7, 8, 9, 10, 11, 12, 13, 14, 67], [1, 3, 7, 8, 9, 10, 11, 12, 13, 14, 15], [1, 3, 7, 8, 9, 10, 11, 12, 13, 14, 15, 79], [6], [1, 3, 7, 8, 9, 10, 11, 12, 13, 14, 15, 81], [1, 3, 7, 8, 9, 10, 11, 12, 13, 14, 15], [1, 3, 7, 8, 9, 10, 11, 12, 13, 14], [1, 3, 7, 8, 9, 10, 11, 12, 13, 14], [1, 3, 7, 8, 9, 10, 11, 16], [1, 3, 7, 8, 9, 10, 11, 16, 87], [1, 3, 7, 8, 9, 10, 11, 16], [6]], [⟨[], [1, 3, 7, 8, 9, 10, 11, 12, 13, 14], [48, 288, 368, 464, 512, 576, 656, 768, 1952]⟩], [], [], [], false, [(116, 1232), (109, 656), (108, 656), (107, 768), (103, 768), (100, 656), (97, 1232), (96, 576), (88, 1232), (87, 656), (16, 1232), (86, 1232), (84, 1232), (83, 1232), (12, 1232), (82, 1232), (78, 1232), (15, 1232), (11, 768), (10, 768), (50, 768), (49, 768), (44, 768), (9, 656), (8, 656), (43, 656), (42, 656), (37, 656), (7, 576), (6, 512)]⟩

/-- almadraba/almadrabalaw13.ready -/
def b10 : AC :=
 .seq (.region false [
 ⟨(some 1), .box (.t 0), none, [], []⟩,
 ⟨(some 2), .mv (.c (.bool false)), none, [], []⟩] [1]) (.seq (.region false [
 ⟨(some 3), .load (some 15) (.t 1), none, [], []⟩,
 ⟨(some 4), .call 31 [(.t 3)], none, [], []⟩,
 ⟨(some 5), .un .not (.t 4), none, [], []⟩,
 ⟨(some 6), .mv (.t 5), none, [], []⟩,
 ⟨(some 7), .load (some 15) (.t 1), (some (6, true)), [], []⟩,
 ⟨(some 8), .call 32 [(.t 7)], (some (6, true)), [], []⟩,
 ⟨(some 9), .bin .eql (.t 8) (.c (i64 0)), (some (6, true)), [], []⟩,
 ⟨(some 10), .pick (.t 6) (.t 9) (.c (.bool false)), none, [], []⟩,
 ⟨(some 2), .mv (.t 10), none, [], []⟩] [2]) (.ret))
def a10 : AFn := ⟨1, [.t 2], b10, false⟩
def n10 : Ann := ⟨[[1], [2]], [], [], [], [], false, []⟩

/-- almadraba/almadrabaref13.IsSky -/
def b11 : AC :=
 .seq (.region false [
 ⟨(some 2), .box (.t 0), none, [], []⟩,
 ⟨(some 4), .mv (.c (.bool false)), none, [], []⟩] [1, 2]) (.seq (.region false [
 ⟨(some 5), .mv (.t 1), none, [], []⟩,
 ⟨(some 6), .faddr 11 (.t 2), none, [], []⟩,
 ⟨(some 7), .load none (.t 6), none, [], []⟩,
 ⟨(some 8), .len (.t 7), none, [], []⟩,
 ⟨(some 9), .bin .sub (.t 8) (.c (i64 1)), none, [], []⟩,
 ⟨(some 10), .call 33 [(.t 5), (.c (i64 0)), (.t 9)], none, [], []⟩,
 ⟨(some 4), .mv (.t 10), none, [], []⟩] [4]) (.ret))
def a11 : AFn := ⟨2, [.t 4], b11, false⟩
def n11 : Ann := ⟨[[1, 2], [4]], [], [], [], [], false, [(4, 160)]⟩

/-- almadraba/almadrabalaw13.works -/
def b12 : AC :=
 .seq (.region false [
 ⟨(some 0), .mv (.c (.bool false)), none, [], []⟩] []) (.seq (.region false [
 ⟨(some 14), .call 34 [], none, [], []⟩,
 ⟨(some 1), .alloc [(i64 0), (i64 0), (i64 0), (i64 0), (.sl .full 2 []), (.sl .full 2 []), (.sl .full 5 []), (i64 0), (i64 0), (.sl .full 2 []), (.sl .full 2 []), (.sl .full 4 []), (.sl .full 1 []), (.sl .full 1 []), (.sl .full 2 [])], none, [], []⟩,
 ⟨none, .store 15 (.t 1) (.t 14), none, [], []⟩] [1]) (.seq (.region false [
 ⟨(some 16), .load (some 15) (.t 1), none, [], []⟩,
 ⟨(some 17), .call 17 [(.t 16), (.c (i64 1))], none, [], []⟩,
 ⟨(some 15), .mv (.t 17), none, [], []⟩,
 ⟨(some 18), .ext (.t 15) 0, none, [], []⟩,
 ⟨(some 19), .ext (.t 15) 1, none, [], []⟩,
 ⟨(some 2), .mv (.t 18), none, [], []⟩,
 ⟨(some 3), .mv (.t 19), none, [], []⟩] [1, 2, 3]) (.seq (.region false [
 ⟨(some 21), .load (some 15) (.t 1), none, [], []⟩,
 ⟨(some 22), .call 22 [(.t 21), (.c (i64 1))], none, [], []⟩,
 ⟨(some 20), .mv (.t 22), none, [], []⟩,
 ⟨(some 23), .ext (.t 20) 0, none, [], []⟩,
 ⟨(some 24), .ext (.t 20) 1, none, [], []⟩,
 ⟨(some 4), .mv (.t 23), none, [], []⟩,
 ⟨(some 5), .mv (.t 24), none, [], []⟩] [1, 2, 3, 4, 5]) (.seq (.region false [
 ⟨(some 26), .load (some 15) (.t 1), none, [], []⟩,
 ⟨(some 27), .call 35 [(.t 26), (.c (i64 0)), (.c (i64 1))], none, [], []⟩,
 ⟨(some 25), .mv (.t 27), none, [], []⟩,
 ⟨(some 28), .ext (.t 25) 0, none, [], []⟩,
 ⟨(some 29), .ext (.t 25) 1, none, [], []⟩,
 ⟨(some 6), .mv (.t 28), none, [], []⟩,
 ⟨(some 7), .mv (.t 29), none, [], []⟩] [1, 2, 3, 4, 5, 6, 7]) (.seq (.region false [
 ⟨(some 31), .load (some 15) (.t 1), none, [], []⟩,
 ⟨(some 32), .call 36 [(.t 31)], none, [], []⟩,
 ⟨(some 30), .mv (.t 32), none, [], []⟩,
 ⟨(some 33), .ext (.t 30) 0, none, [], []⟩,
 ⟨(some 34), .ext (.t 30) 1, none, [], []⟩,
 ⟨(some 8), .mv (.t 33), none, [], []⟩,
 ⟨(some 9), .mv (.t 34), none, [], []⟩] [1, 2, 3, 4, 5, 6, 7, 8, 9]) (.seq (.region false [
 ⟨(some 36), .load (some 15) (.t 1), none, [], []⟩,
 ⟨(some 37), .call 27 [(.t 36)], none, [], []⟩,
 ⟨(some 35), .mv (.t 37), none, [], []⟩,
 ⟨(some 38), .ext (.t 35) 0, none, [], []⟩,
 ⟨(some 39), .ext (.t 35) 1, none, [], []⟩,
 ⟨(some 10), .alloc [(i64 0), (i64 0)], none, [], []⟩,
 ⟨none, .store 2 (.t 10) (.t 38), none, [], []⟩,
 ⟨(some 11), .mv (.t 39), none, [], []⟩] [1, 2, 3, 4, 5, 6, 7, 8, 9, 10, 11]) (.seq (.region false [
 ⟨(some 41), .load (some 15) (.t 1), none, [], []⟩,
 ⟨(some 42), .call 37 [(.t 41)], none, [], []⟩,
 ⟨(some 40), .mv (.t 42), none, [], []⟩,
 ⟨(some 43), .ext (.t 40) 0, none, [], []⟩,
 ⟨(some 44), .ext (.t 40) 1, none, [], []⟩,
 ⟨(some 12), .mv (.t 43), none, [], []⟩,
 ⟨(some 13), .mv (.t 44), none, [], []⟩] [2, 3, 4, 5, 6, 7, 8, 9, 10, 11, 12, 13]) (.seq (.region true (spl [
 ⟨(some 45), .mv (.t 3), none, [], []⟩,
 ⟨(some 46), .bin .eql (.t 45) (.c (i64 0)), none, [0], []⟩,
 ⟨(some 47), .mv (.t 46), none, [1, 0], []⟩,
 ⟨(some 48), .mv (.t 5), (some (47, true)), [2, 1, 0], []⟩,
 ⟨(some 49), .bin .eql (.t 48) (.c (i64 0)), (some (47, true)), [3, 2, 1, 0], []⟩,
 ⟨(some 50), .pick (.t 47) (.t 49) (.c (.bool false)), none, [4, 3, 2, 1, 0], []⟩,
 ⟨(some 51), .mv (.t 50), none, [5, 4, 3, 2, 1, 0], []⟩,
 ⟨(some 52), .mv (.t 7), (some (51, true)), [6, 5, 4, 3, 2, 1, 0], []⟩,
 ⟨(some 53), .bin .eql (.t 52) (.c (i64 0)), (some (51, true)), [7, 6, 5, 4, 3, 2, 1, 0], []⟩,
 ⟨(some 54), .pick (.t 51) (.t 53) (.c (.bool false)), none, [8, 7, 6, 5, 4, 3, 2, 1, 0], []⟩,
 ⟨(some 55), .mv (.t 54), none, [9, 8, 7, 6, 5, 4, 3, 2, 1, 0], []⟩,
 ⟨(some 56), .mv (.t 9), (some (55, true)), [10, 9, 8, 7, 6, 5, 4, 3, 2, 1, 0], []⟩,
 ⟨(some 57), .bin .eql (.t 56) (.c (i64 0)), (some (55, true)), [11, 10, 9, 8, 7, 6, 5, 4, 3, 2, 1, 0], []⟩,
 ⟨(some 58), .pick (.t 55) (.t 57) (.c (.bool false)), none, [12, 11, 10, 9, 8, 7, 6, 5, 4, 3, 2, 1, 0], []⟩,
 ⟨(some 59), .mv (.t 58), none, [13, 12, 11, 10, 9, 8, 7, 6, 5, 4, 3, 2, 1, 0], []⟩,
 ⟨(some 60), .mv (.t 11), (some (59, true)), [14, 13, 12, 11, 10, 9, 8, 7, 6, 5, 4, 3, 2, 1, 0], []⟩,
 ⟨(some 61), .bin .eql (.t 60) (.c (i64 0)), (some (59, true)), [15, 14, 13, 12, 11, 10, 9, 8, 7, 6, 5, 4, 3, 2, 1, 0], []⟩,
 ⟨(some 62), .pick (.t 59) (.t 61) (.c (.bool false)), none, [16, 15, 14, 13, 12, 11, 10, 9, 8, 7, 6, 5, 4, 3, 2, 1, 0], []⟩,
 ⟨(some 63), .mv (.t 62), none, [17, 16, 15, 14, 13, 12, 11, 10, 9, 8, 7, 6, 5, 4, 3, 2, 1, 0], []⟩,
 ⟨(some 64), .mv (.t 13), (some (63, true)), [18, 17, 16, 15, 14, 13, 12, 11, 10, 9, 8, 7, 6, 5, 4, 3, 2, 1, 0], []⟩,
 ⟨(some 65), .bin .eql (.t 64) (.c (i64 0)), (some (63, true)), [19, 18, 17, 16, 15, 14, 13, 12, 11, 10, 9, 8, 7, 6, 5, 4, 3, 2, 1, 0], []⟩,
 ⟨(some 66), .pick (.t 63) (.t 65) (.c (.bool false)), none, [20, 19, 18, 17, 16, 15, 14, 13, 12, 11, 10, 9, 8, 7, 6, 5, 4, 3, 2, 1, 0], []⟩,
 ⟨(some 67), .mv (.t 66), none, [21, 20, 19, 18, 17, 16, 15, 14, 13, 12, 11, 10, 9, 8, 7, 6, 5, 4, 3, 2, 1, 0], []⟩,
 ⟨(some 68), .mv (.t 2), (some (67, true)), [22, 21, 20, 19, 18, 17, 16, 15, 14, 13, 12, 11, 10, 9, 8, 7, 6, 5, 4, 3, 2, 1, 0], []⟩,
 ⟨(some 69), .bin .eql (.t 68) (.c (i64 3)), (some (67, true)), [23, 22, 21, 20, 19, 18, 17, 16, 15, 14, 13, 12, 11, 10, 9, 8, 7, 6, 5, 4, 3, 2, 1, 0], []⟩,
 ⟨(some 70), .pick (.t 67) (.t 69) (.c (.bool false)), none, [24, 23, 22, 21, 20, 19, 18, 17, 16, 15, 14, 13, 12, 11, 10, 9, 8, 7, 6, 5, 4, 3, 2, 1, 0], []⟩,
 ⟨(some 71), .mv (.t 70), none, [25, 24, 23, 22, 21, 20, 19, 18, 17, 16, 15, 14, 13, 12, 11, 10, 9, 8, 7, 6, 5, 4, 3, 2, 1, 0], []⟩,
 ⟨(some 72), .mv (.t 4), (some (71, true)), [26, 25, 24, 23, 22, 21, 20, 19, 18, 17, 16, 15, 14, 13, 12, 11, 10, 9, 8, 7, 6, 5, 4, 3, 2, 1, 0], []⟩,
 ⟨(some 73), .pick (.t 71) (.t 72) (.c (.bool false)), none, [27, 26, 25, 24, 23, 22, 21, 20, 19, 18, 17, 16, 15, 14, 13, 12, 11, 10, 9, 8, 7, 6, 5, 4, 3, 2, 1, 0], []⟩,
 ⟨(some 74), .mv (.t 73), none, [28, 27, 26, 25, 24, 23, 22, 21, 20, 19, 18, 17, 16, 15, 14, 13, 12, 11, 10, 9, 8, 7, 6, 5, 4, 3, 2, 1, 0], []⟩,
 ⟨(some 75), .mv (.t 6), (some (74, true)), [29, 28, 27, 26, 25, 24, 23, 22, 21, 20, 19, 18, 17, 16, 15, 14, 13, 12, 11, 10, 9, 8, 7, 6, 5, 4, 3, 2, 1, 0], []⟩,
 ⟨(some 76), .bin .eql (.t 75) (.c (i64 90)), (some (74, true)), [30, 29, 28, 27, 26, 25, 24, 23, 22, 21, 20, 19, 18, 17, 16, 15, 14, 13, 12, 11, 10, 9, 8, 7, 6, 5, 4, 3, 2, 1, 0], []⟩,
 ⟨(some 77), .pick (.t 74) (.t 76) (.c (.bool false)), none, [31, 30, 29, 28, 27, 26, 25, 24, 23, 22, 21, 20, 19, 18, 17, 16, 15, 14, 13, 12, 11, 10, 9, 8, 7, 6, 5, 4, 3, 2, 1, 0], []⟩,
 ⟨(some 78), .mv (.t 77), none, [32, 31, 30, 29, 28, 27, 26, 25, 24, 23, 22, 21, 20, 19, 18, 17, 16, 15, 14, 13, 12, 11, 10, 9, 8, 7, 6, 5, 4, 3, 2, 1, 0], []⟩,
 ⟨(some 79), .mv (.t 8), (some (78, true)), [33, 32, 31, 30, 29, 28, 27, 26, 25, 24, 23, 22, 21, 20, 19, 18, 17, 16, 15, 14, 13, 12, 11, 10, 9, 8, 7, 6, 5, 4, 3, 2, 1, 0], []⟩,
 ⟨(some 80), .bin .eql (.t 79) (.c (i64 60)), (some (78, true)), [34, 33, 32, 31, 30, 29, 28, 27, 26, 25, 24, 23, 22, 21, 20, 19, 18, 17, 16, 15, 14, 13, 12, 11, 10, 9, 8, 7, 6, 5, 4, 3, 2, 1, 0], []⟩,
 ⟨(some 81), .pick (.t 78) (.t 80) (.c (.bool false)), none, [35, 34, 33, 32, 31, 30, 29, 28, 27, 26, 25, 24, 23, 22, 21, 20, 19, 18, 17, 16, 15, 14, 13, 12, 11, 10, 9, 8, 7, 6, 5, 4, 3, 2, 1, 0], []⟩,
 ⟨(some 82), .mv (.t 81), none, [36, 35, 34, 33, 32, 31, 30, 29, 28, 27, 26, 25, 24, 23, 22, 21, 20, 19, 18, 17, 16, 15, 14, 13, 12, 11, 10, 9, 8, 7, 6, 5, 4, 3, 2, 1, 0], []⟩,
 ⟨(some 83), .load (some 2) (.t 10), (some (82, true)), [37, 36, 35, 34, 33, 32, 31, 30, 29, 28, 27, 26, 25, 24, 23, 22, 21, 20, 19, 18, 17, 16, 15, 14, 13, 12, 11, 10, 9, 8, 7, 6, 5, 4, 3, 2, 1, 0], []⟩,
 ⟨(some 84), .call 38 [(.c (i64 0)), (.c (i64 1))], (some (82, true)), [37, 36, 35, 34, 33, 32, 31, 30, 29, 28, 27, 26, 25, 24, 23, 22, 21, 20, 19, 18, 17, 16, 15, 14, 13, 12, 11, 10, 9, 8, 7, 6, 5, 4, 3, 2, 1, 0], []⟩] [
 ⟨(some 85), .eqa [true, true] false (.t 83) (.t 84), (some (82, true)), [38, 39, 37, 36, 35, 34, 33, 32, 31, 30, 29, 28, 27, 26, 25, 24, 23, 22, 21, 20, 19, 18, 17, 16, 15, 14, 13, 12, 11, 10, 9, 8, 7, 6, 5, 4, 3, 2, 1, 0], []⟩,
 ⟨(some 86), .pick (.t 82) (.t 85) (.c (.bool false)), none, [40, 38, 39, 37, 36, 35, 34, 33, 32, 31, 30, 29, 28, 27, 26, 25, 24, 23, 22, 21, 20, 19, 18, 17, 16, 15, 14, 13, 12, 11, 10, 9, 8, 7, 6, 5, 4, 3, 2, 1, 0], []⟩,
 ⟨(some 87), .mv (.t 86), none, [41, 40, 38, 39, 37, 36, 35, 34, 33, 32, 31, 30, 29, 28, 27, 26, 25, 24, 23, 22, 21, 20, 19, 18, 17, 16, 15, 14, 13, 12, 11, 10, 9, 8, 7, 6, 5, 4, 3, 2, 1, 0], []⟩,
 ⟨(some 88), .mv (.t 12), (some (87, true)), [42, 41, 40, 38, 39, 37, 36, 35, 34, 33, 32, 31, 30, 29, 28, 27, 26, 25, 24, 23, 22, 21, 20, 19, 18, 17, 16, 15, 14, 13, 12, 11, 10, 9, 8, 7, 6, 5, 4, 3, 2, 1, 0], []⟩,
 ⟨(some 89), .bin .eql (.t 88) (.c (i64 30)), (some (87, true)), [43, 42, 41, 40, 38, 39, 37, 36, 35, 34, 33, 32, 31, 30, 29, 28, 27, 26, 25, 24, 23, 22, 21, 20, 19, 18, 17, 16, 15, 14, 13, 12, 11, 10, 9, 8, 7, 6, 5, 4, 3, 2, 1, 0], []⟩,
 ⟨(some 90), .pick (.t 87) (.t 89) (.c (.bool false)), none, [44, 43, 42, 41, 40, 38, 39, 37, 36, 35, 34, 33, 32, 31, 30, 29, 28, 27, 26, 25, 24, 23, 22, 21, 20, 19, 18, 17, 16, 15, 14, 13, 12, 11, 10, 9, 8, 7, 6, 5, 4, 3, 2, 1, 0], []⟩,
 ⟨(some 0), .mv (.t 90), none, [45, 44, 43, 42, 41, 40, 38, 39, 37, 36, 35, 34, 33, 32, 31, 30, 29, 28, 27, 26, 25, 24, 23, 22, 21, 20, 19, 18, 17, 16, 15, 14, 13, 12, 11, 10, 9, 8, 7, 6, 5, 4, 3, 2, 1, 0], []⟩]) [0]) (.ret)))))))))
def a12 : AFn := ⟨0, [.t 0], b12, false⟩
def n12 : Ann := ⟨[[], [1], [1, 2, 3], [1, 2, 3, 4, 5], [1, 2, 3, 4, 5, 6, 7], [1, 2, 3, 4, 5, 6, 7, 8, 9], [1, 2, 3, 4, 5, 6, 7, 8, 9, 10, 11], [2, 3, 4, 5, 6, 7, 8, 9, 10, 11, 12, 13], [0]], [], [], [], [], false, [(88, 672), (79, 512), (75, 432), (72, 352), (68, 272), (64, 672), (60, 592), (56, 512), (52, 432), (48, 352), (45, 272), (13, 672), (12, 672), (44, 672), (43, 672), (40, 672), (11, 592), (39, 592), (38, 592), (35, 592), (9, 512), (8, 512), (34, 512), (33, 512), (30, 512), (7, 432), (6, 432), (29, 432), (28, 432), (25, 432), (5, 352), (4, 352), (24, 352), (23, 352), (20, 352), (3, 272), (2, 272), (19, 272), (18, 272), (15, 272)]⟩

/-- almadraba/almadrabaref13.Copy -/
def b13l0 : AC :=
 .loop [1, 2, 3, 4] [16, 32, 48, 62, 112, 160, 224, 288, 352, 1112, 1160, 2112, 2160, 3112, 3160, 4112, 4160, 5112, 5160, 6112, 6160, 7112, 7160, 8112, 8160] (.seq (.seq (.region false [
 ⟨(some 24), .mv (.t 4), none, [], []⟩,
 ⟨(some 25), .faddr 12 (.t 1), none, [], []⟩,
 ⟨(some 26), .load none (.t 25), none, [], []⟩,
 ⟨(some 27), .len (.t 26), none, [], []⟩,
 ⟨(some 28), .bin .lss (.t 24) (.t 27), none, [], []⟩] [1, 2, 3, 4, 28]) (.cond (.t 28) (.skip) (.exit 0))) (.seq (.block 1 (.region true (spl [
 ⟨(some 31), .faddr 12 (.t 3), none, [], []⟩,
 ⟨(some 32), .load none (.t 31), none, [0], []⟩,
 ⟨(some 33), .lit [(i64 0)] 0 [], none, [], []⟩,
 ⟨(some 34), .faddr 12 (.t 1), none, [], []⟩,
 ⟨(some 35), .load none (.t 34), none, [3], []⟩,
 ⟨(some 36), .mv (.t 4), none, [], []⟩,
 ⟨(some 37), .idxs 1 (.t 35) (.t 36), none, [4, 5, 3], []⟩,
 ⟨(some 38), .load none (.t 37), none, [6, 4, 5, 3], []⟩,
 ⟨(some 39), .app 1 8 (.t 33) (.t 38), none, [2, 7, 6, 4, 5, 3], []⟩,
 ⟨(some 40), .lit [(.sl .full 1 [])] 1 [(0, (.t 39))], none, [8, 2, 7, 6, 4, 5, 3], []⟩] [
 ⟨(some 41), .app 1 24 (.t 32) (.t 40), none, [1, 9, 0, 8, 2, 7, 6, 4, 5, 3], []⟩,
 ⟨(some 42), .faddr 12 (.t 3), none, [10, 1, 9, 0, 8, 2, 7, 6, 4, 5, 3], []⟩,
 ⟨none, .store 1 (.t 42) (.t 41), none, [11, 10, 1, 9, 0, 8, 2, 7, 6, 4, 5, 3], []⟩]) [1, 2, 3, 4])) (.region false [
 ⟨(some 29), .mv (.t 4), none, [], []⟩,
 ⟨(some 30), .bin .add (.t 29) (.c (i64 1)), none, [], []⟩,
 ⟨(some 4), .mv (.t 30), none, [], []⟩] [1, 2, 3, 4])))
/-- almadraba/almadrabaref13.Copy -/
def b13 : AC :=
 .seq (.region false [
 ⟨(some 1), .box (.t 0), none, [], []⟩,
 ⟨(some 2), .alloc [(i64 0), (i64 0), (i64 0), (i64 0), (.sl .full 2 []), (.sl .full 2 []), (.sl .full 5 []), (i64 0), (i64 0), (.sl .full 2 []), (.sl .full 2 []), (.sl .full 4 []), (.sl .full 1 []), (.sl .full 1 []), (.sl .full 2 [])], none, [], []⟩] [1, 2]) (.seq (.region true (spl [
 ⟨(some 5), .faddr 0 (.t 1), none, [], []⟩,
 ⟨(some 6), .load (some 7) (.t 5), none, [0], []⟩,
 ⟨(some 7), .call 39 [(.t 6)], none, [1, 0], []⟩,
 ⟨(some 8), .faddr 7 (.t 1), none, [], []⟩,
 ⟨(some 9), .load (some 4) (.t 8), none, [3], []⟩,
 ⟨(some 10), .call 40 [(.t 9)], none, [4, 2, 3, 1, 0], []⟩,
 ⟨(some 11), .lit [(i64 0), (i64 0), (i64 0), (i64 0)] 0 [], none, [], []⟩,
 ⟨(some 12), .faddr 11 (.t 1), none, [], []⟩,
 ⟨(some 13), .load none (.t 12), none, [7], []⟩,
 ⟨(some 14), .appm 4 32 (.t 11) (.t 13), none, [6, 8, 5, 7, 4, 2, 3, 1, 0], []⟩,
 ⟨(some 15), .lit [(i64 0)] 0 [], none, [], []⟩,
 ⟨(some 16), .faddr 13 (.t 1), none, [], []⟩,
 ⟨(some 17), .load none (.t 16), none, [11], []⟩,
 ⟨(some 18), .appm 1 8 (.t 15) (.t 17), none, [10, 12, 9, 11, 6, 8, 5, 7, 4, 2, 3, 1, 0], []⟩,
 ⟨(some 19), .lit [(i64 0), (i64 0)] 0 [], none, [], []⟩,
 ⟨(some 20), .faddr 14 (.t 1), none, [], []⟩,
 ⟨(some 21), .load none (.t 20), none, [15], []⟩,
 ⟨(some 22), .appm 2 16 (.t 19) (.t 21), none, [14, 16, 13, 15, 10, 12, 9, 11, 6, 8, 5, 7, 4, 2, 3, 1, 0], []⟩,
 ⟨(some 23), .build [(i64 0), (i64 0), (i64 0), (i64 0), (.sl .full 2 []), (.sl .full 2 []), (.sl .full 5 []), (i64 0), (i64 0), (.sl .full 2 []), (.sl .full 2 []), (.sl .full 4 []), (.sl .full 1 []), (.sl .full 1 []), (.sl .full 2 [])] [(0, 7, (.t 7)), (7, 4, (.t 10)), (11, 1, (.t 14)), (13, 1, (.t 18)), (14, 1, (.t 22))], none, [17, 14, 16, 13, 15, 10, 12, 9, 11, 6, 8, 5, 7, 4, 2, 3, 1, 0], []⟩,
 ⟨(some 3), .alloc [(i64 0), (i64 0), (i64 0), (i64 0), (.sl .full 2 []), (.sl .full 2 []), (.sl .full 5 []), (i64 0), (i64 0), (.sl .full 2 []), (.sl .full 2 []), (.sl .full 4 []), (.sl .full 1 []), (.sl .full 1 []), (.sl .full 2 [])], none, [], []⟩] [
 ⟨none, .store 15 (.t 3) (.t 23), none, [18, 19, 17, 14, 16, 13, 15, 10, 12, 9, 11, 6, 8, 5, 7, 4, 2, 3, 1, 0], []⟩]) [1, 2, 3]) (.seq (.seq (.region false [
 ⟨(some 4), .mv (.c (i64 0)), none, [], []⟩] [1, 2, 3, 4]) (.block 0 (.seq (.thawc 3 12 62 101) (b13l0)))) (.seq (.region false [
 ⟨(some 43), .load (some 15) (.t 3), none, [], []⟩,
 ⟨none, .store 15 (.t 2) (.t 43), none, [], []⟩] [2]) (.ret))))
def a13 : AFn := ⟨1, [.cell 2 (some 15)], b13, true⟩
def n13 : Ann := ⟨[[1, 2], [1, 2, 3], [1, 2, 3, 4], [1, 2, 3, 4, 28], [1, 2, 3, 4], [1, 2, 3, 4], [2]], [⟨[.c 3 12 62 101], [1, 2, 3, 4], [16, 32, 48, 62, 112, 160, 224, 288, 352, 1112, 1160, 2112, 2160, 3112, 3160, 4112, 4160, 5112, 5160, 6112, 6160, 7112, 7160, 8112, 8160]⟩], [], [], [14, 18, 22], true, []⟩

/-- almadraba/almadrabalaw13.put -/
def b14l0 : AC :=
 .loop [0, 1, 2, 7, 8] [113] (.seq (.seq (.region false [
 ⟨(some 9), .mv (.t 8), none, [], []⟩,
 ⟨(some 10), .mv (.t 2), none, [], []⟩,
 ⟨(some 11), .bin .lss (.t 9) (.t 10), none, [], []⟩] [0, 1, 2, 7, 8, 11]) (.cond (.t 11) (.skip) (.exit 0))) (.seq (.block 1 (.seq (.region false [
 ⟨(some 14), .mv (.t 8), none, [], []⟩,
 ⟨(some 15), .mv (.t 1), none, [], []⟩,
 ⟨(some 16), .bin .eql (.t 14) (.t 15), none, [], []⟩,
 ⟨(some 17), .mv (.t 16), none, [], []⟩,
 ⟨(some 18), .mv (.t 0), (some (17, false)), [], []⟩,
 ⟨(some 19), .mv (.t 8), (some (17, false)), [], []⟩,
 ⟨(some 20), .call 41 [(.t 18), (.t 19)], (some (17, false)), [], []⟩,
 ⟨(some 21), .pick (.t 17) (.c (.bool true)) (.t 20), none, [], []⟩] [0, 1, 2, 7, 8, 21]) (.cond (.t 21) (.region false [
 ⟨(some 22), .mv (.t 7), none, [], []⟩,
 ⟨(some 23), .mv (.t 8), none, [], []⟩,
 ⟨(some 24), .lit [(i64 0)] 1 [(0, (.t 23))], none, [], []⟩,
 ⟨(some 25), .app 1 8 (.t 22) (.t 24), none, [], []⟩,
 ⟨(some 7), .mv (.t 25), none, [], []⟩] [0, 1, 2, 7, 8]) (.skip)))) (.region false [
 ⟨(some 12), .mv (.t 8), none, [], []⟩,
 ⟨(some 13), .bin .add (.t 12) (.c (i64 1)), none, [], []⟩,
 ⟨(some 8), .mv (.t 13), none, [], []⟩] [0, 1, 2, 7, 8])))
/-- almadraba/almadrabalaw13.put -/
def b14 : AC :=
 .seq (.region false [
 ⟨(some 6), .mv (.c (.sl .full 1 [])), none, [], []⟩] [0, 1, 2]) (.seq (.region false [
 ⟨(some 7), .mv (.c (.sl .full 1 [])), none, [], []⟩] [0, 1, 2, 7]) (.seq (.seq (.region false [
 ⟨(some 8), .mv (.c (i64 0)), none, [], []⟩] [0, 1, 2, 7, 8]) (.block 0 (.seq (.thaw 7 113 1) (b14l0)))) (.seq (.region false [
 ⟨(some 26), .mv (.t 7), none, [], []⟩,
 ⟨(some 6), .mv (.t 26), none, [], []⟩] [6]) (.ret))))
def a14 : AFn := ⟨3, [.t 6], b14, false⟩
def n14 : Ann := ⟨[[0, 1, 2], [0, 1, 2, 7], [0, 1, 2, 7, 8], [0, 1, 2, 7, 8, 11], [0, 1, 2, 7, 8, 21], [0, 1, 2, 7, 8], [0, 1, 2, 7, 8], [6]], [⟨[.t 7 113 1], [0, 1, 2, 7, 8], [113]⟩], [], [], [], false, []⟩

/-- almadraba/almadrabalaw13.worse -/
def b15l0 : AC :=
 .loop [5, 7, 11] [32, 48, 224, 304, 368, 400] (.seq (.seq (.region false [
 ⟨(some 48), .mv (.t 11), none, [], []⟩,
 ⟨(some 49), .mv (.t 5), none, [], []⟩,
 ⟨(some 50), .len (.t 49), none, [], []⟩,
 ⟨(some 51), .bin .lss (.t 48) (.t 50), none, [], []⟩] [5, 7, 11, 51]) (.cond (.t 51) (.skip) (.exit 0))) (.seq (.block 1 (.seq (.region true (spl [
 ⟨(some 54), .mv (.t 5), none, [], []⟩,
 ⟨(some 55), .mv (.t 11), none, [], []⟩,
 ⟨(some 56), .idxs 1 (.t 54) (.t 55), none, [0, 1], []⟩,
 ⟨(some 57), .load none (.t 56), none, [2, 0, 1], []⟩,
 ⟨(some 58), .mv (.t 7), none, [], []⟩,
 ⟨(some 59), .mv (.t 11), none, [], []⟩,
 ⟨(some 60), .idxs 1 (.t 58) (.t 59), none, [4, 5], []⟩,
 ⟨(some 61), .load none (.t 60), none, [6, 4, 5], []⟩] [
 ⟨(some 62), .bin .gtr (.t 57) (.t 61), none, [3, 7, 2, 0, 1, 6, 4, 5], []⟩]) [5, 7, 11, 62]) (.cond (.t 62) (.seq (.region false [
 ⟨(some 4), .mv (.c (.bool false)), none, [], []⟩] [4]) (.ret)) (.skip)))) (.region false [
 ⟨(some 52), .mv (.t 11), none, [], []⟩,
 ⟨(some 53), .bin .add (.t 52) (.c (i64 1)), none, [], []⟩,
 ⟨(some 11), .mv (.t 53), none, [], []⟩] [5, 7, 11])))
/-- almadraba/almadrabalaw13.worse -/
def b15 : AC :=
 .seq (.region false [
 ⟨(some 2), .box (.t 0), none, [], []⟩,
 ⟨(some 3), .box (.t 1), none, [], []⟩,
 ⟨(some 4), .mv (.c (.bool false)), none, [], []⟩] [2, 3]) (.seq (.region false [
 ⟨(some 13), .load (some 15) (.t 2), none, [], []⟩,
 ⟨(some 14), .call 25 [(.t 13)], none, [], []⟩,
 ⟨(some 12), .mv (.t 14), none, [], []⟩,
 ⟨(some 15), .ext (.t 12) 0, none, [], []⟩,
 ⟨(some 16), .ext (.t 12) 1, none, [], []⟩,
 ⟨(some 5), .mv (.t 15), none, [], []⟩,
 ⟨(some 6), .mv (.t 16), none, [], []⟩] [2, 3, 5, 6]) (.seq (.region false [
 ⟨(some 18), .load (some 15) (.t 3), none, [], []⟩,
 ⟨(some 19), .call 25 [(.t 18)], none, [], []⟩,
 ⟨(some 17), .mv (.t 19), none, [], []⟩,
 ⟨(some 20), .ext (.t 17) 0, none, [], []⟩,
 ⟨(some 21), .ext (.t 17) 1, none, [], []⟩,
 ⟨(some 7), .mv (.t 20), none, [], []⟩,
 ⟨(some 8), .mv (.t 21), none, [], []⟩] [2, 3, 5, 6, 7, 8]) (.seq (.region true (spl [
 ⟨(some 22), .load (some 15) (.t 2), none, [], []⟩,
 ⟨(some 23), .call 42 [(.t 22)], none, [0], []⟩,
 ⟨(some 24), .load (some 15) (.t 3), none, [], []⟩] [
 ⟨(some 25), .call 42 [(.t 24)], none, [2, 1, 0], []⟩,
 ⟨(some 9), .mv (.t 23), none, [3, 2, 1, 0], []⟩,
 ⟨(some 10), .mv (.t 25), none, [4, 3, 2, 1, 0], []⟩]) [5, 6, 7, 8, 9, 10]) (.seq (.seq (.region false [
 ⟨(some 26), .mv (.t 6), none, [], []⟩,
 ⟨(some 27), .un .not (.t 26), none, [], []⟩,
 ⟨(some 28), .mv (.t 27), none, [], []⟩,
 ⟨(some 29), .mv (.t 8), (some (28, false)), [], []⟩,
 ⟨(some 30), .un .not (.t 29), (some (28, false)), [], []⟩,
 ⟨(some 31), .pick (.t 28) (.c (.bool true)) (.t 30), none, [], []⟩,
 ⟨(some 32), .mv (.t 31), none, [], []⟩,
 ⟨(some 33), .mv (.t 5), (some (32, false)), [], []⟩,
 ⟨(some 34), .len (.t 33), (some (32, false)), [], []⟩,
 ⟨(some 35), .mv (.t 7), (some (32, false)), [], []⟩,
 ⟨(some 36), .len (.t 35), (some (32, false)), [], []⟩,
 ⟨(some 37), .bin .gtr (.t 34) (.t 36), (some (32, false)), [], []⟩,
 ⟨(some 38), .pick (.t 32) (.c (.bool true)) (.t 37), none, [], []⟩,
 ⟨(some 39), .mv (.t 38), none, [], []⟩,
 ⟨(some 40), .mv (.t 9), (some (39, false)), [], []⟩,
 ⟨(some 41), .bin .lss (.t 40) (.c (i64 0)), (some (39, false)), [], []⟩,
 ⟨(some 42), .pick (.t 39) (.c (.bool true)) (.t 41), none, [], []⟩,
 ⟨(some 43), .mv (.t 42), none, [], []⟩,
 ⟨(some 44), .mv (.t 9), (some (43, false)), [], []⟩,
 ⟨(some 45), .mv (.t 10), (some (43, false)), [], []⟩,
 ⟨(some 46), .bin .gtr (.t 44) (.t 45), (some (43, false)), [], []⟩,
 ⟨(some 47), .pick (.t 43) (.c (.bool true)) (.t 46), none, [], []⟩] [5, 7, 47]) (.cond (.t 47) (.seq (.region false [
 ⟨(some 4), .mv (.c (.bool false)), none, [], []⟩] [4]) (.ret)) (.skip))) (.seq (.seq (.region false [
 ⟨(some 11), .mv (.c (i64 0)), none, [], []⟩] [5, 7, 11]) (.block 0 (b15l0))) (.seq (.region false [
 ⟨(some 4), .mv (.c (.bool true)), none, [], []⟩] [4]) (.ret)))))))
def a15 : AFn := ⟨2, [.t 4], b15, false⟩
def n15 : Ann := ⟨[[2, 3], [2, 3, 5, 6], [2, 3, 5, 6, 7, 8], [5, 6, 7, 8, 9, 10], [5, 7, 47], [4], [5, 7, 11], [5, 7, 11, 51], [5, 7, 11, 62], [4], [5, 7, 11], [4]], [⟨[], [5, 7, 11], [32, 48, 224, 304, 368, 400]⟩], [], [], [], false, [(58, 304), (54, 224), (49, 224), (45, 400), (44, 368), (40, 368), (35, 304), (33, 224), (29, 304), (26, 224), (10, 400), (9, 368), (8, 304), (7, 304), (21, 304), (20, 304), (17, 304), (6, 224), (5, 224), (16, 224), (15, 224), (12, 224)]⟩

/-- almadraba/almadrabalaw13.inside -/
def b16 : AC :=
 .seq (.region false [
 ⟨(some 2), .box (.t 0), none, [], []⟩,
 ⟨(some 3), .box (.t 1), none, [], []⟩,
 ⟨(some 4), .mv (.c (.bool false)), none, [], []⟩] [2, 3]) (.seq (.region false [
 ⟨(some 5), .faddr 0 (.t 3), none, [], []⟩,
 ⟨(some 6), .load none (.t 5), none, [], []⟩,
 ⟨(some 7), .faddr 0 (.t 2), none, [], []⟩,
 ⟨(some 8), .load none (.t 7), none, [], []⟩,
 ⟨(some 9), .bin .leq (.t 6) (.t 8), none, [], []⟩,
 ⟨(some 10), .mv (.t 9), none, [], []⟩,
 ⟨(some 11), .faddr 0 (.t 2), (some (10, true)), [], []⟩,
 ⟨(some 12), .load none (.t 11), (some (10, true)), [], []⟩,
 ⟨(some 13), .faddr 1 (.t 2), (some (10, true)), [], []⟩,
 ⟨(some 14), .load none (.t 13), (some (10, true)), [], []⟩,
 ⟨(some 15), .bin .leq (.t 12) (.t 14), (some (10, true)), [], []⟩,
 ⟨(some 16), .pick (.t 10) (.t 15) (.c (.bool false)), none, [], []⟩,
 ⟨(some 17), .mv (.t 16), none, [], []⟩,
 ⟨(some 18), .faddr 1 (.t 2), (some (17, true)), [], []⟩,
 ⟨(some 19), .load none (.t 18), (some (17, true)), [], []⟩,
 ⟨(some 20), .faddr 1 (.t 3), (some (17, true)), [], []⟩,
 ⟨(some 21), .load none (.t 20), (some (17, true)), [], []⟩,
 ⟨(some 22), .bin .leq (.t 19) (.t 21), (some (17, true)), [], []⟩,
 ⟨(some 23), .pick (.t 17) (.t 22) (.c (.bool false)), none, [], []⟩,
 ⟨(some 4), .mv (.t 23), none, [], []⟩] [4]) (.ret))
def a16 : AFn := ⟨2, [.t 4], b16, false⟩
def n16 : Ann := ⟨[[2, 3], [4]], [], [], [], [], false, []⟩

/-- almadraba/skies.Calm -/
def b17 : AC :=
 .seq (.region false [
 ⟨(some 2), .box (.t 0), none, [], []⟩,
 ⟨(some 4), .mv (.c (i64 0)), none, [], []⟩,
 ⟨(some 5), .mv (.c (i64 0)), none, [], []⟩] [1, 2]) (.seq (.region true (spl [
 ⟨(some 9), .load (some 15) (.t 2), none, [], []⟩,
 ⟨(some 10), .load (some 15) (.t 2), none, [], []⟩,
 ⟨(some 11), .mv (.t 1), none, [], []⟩,
 ⟨(some 12), .call 44 [(.t 10), (.t 11)], none, [1, 2], []⟩,
 ⟨(some 13), .call 43 [(.t 9), (.t 12)], none, [0, 3, 1, 2], []⟩,
 ⟨(some 8), .mv (.t 13), none, [4, 0, 3, 1, 2], []⟩,
 ⟨(some 14), .ext (.t 8) 0, none, [5, 4, 0, 3, 1, 2], []⟩,
 ⟨(some 15), .ext (.t 8) 1, none, [5, 4, 0, 3, 1, 2], []⟩,
 ⟨(some 6), .mv (.t 14), none, [6, 5, 4, 0, 3, 1, 2], []⟩] [
 ⟨(some 7), .mv (.t 15), none, [7, 8, 6, 5, 4, 0, 3, 1, 2], []⟩]) [1, 6, 7]) (.seq (.seq (.region false [
 ⟨(some 16), .mv (.t 7), none, [], []⟩,
 ⟨(some 17), .bin .neq (.t 16) (.c (i64 0)), none, [], []⟩] [1, 6, 7, 17]) (.cond (.t 17) (.seq (.region false [
 ⟨(some 18), .mv (.t 7), none, [], []⟩,
 ⟨(some 4), .mv (.c (i64 0)), none, [], []⟩,
 ⟨(some 5), .mv (.t 18), none, [], []⟩] [4, 5]) (.ret)) (.skip))) (.seq (.region false [
 ⟨(some 19), .mv (.t 6), none, [], []⟩,
 ⟨(some 20), .mv (.t 1), none, [], []⟩,
 ⟨(some 21), .nilck (.t 19), none, [], []⟩,
 ⟨(some 22), .faddr 15 (.t 21), none, [], []⟩,
 ⟨(some 23), .idxa 4 1 (.t 22) (.t 20), none, [], []⟩,
 ⟨(some 24), .load none (.t 23), none, [], []⟩,
 ⟨(some 4), .mv (.t 24), none, [], []⟩,
 ⟨(some 5), .mv (.c (i64 0)), none, [], []⟩] [4, 5]) (.ret))))
def a17 : AFn := ⟨2, [.t 4, .t 5], b17, false⟩
def n17 : Ann := ⟨[[1, 2], [1, 6, 7], [1, 6, 7, 17], [4, 5], [4, 5]], [], [], [], [], false, [(19, 208), (5, 208), (18, 208), (16, 208), (7, 208), (6, 208), (15, 208), (14, 208), (8, 208)]⟩

/-- almadraba/almadrabaref01.Within -/
def b18 : AC :=
 .seq (.region false [
 ⟨(some 6), .mv (.c (.bool false)), none, [], []⟩] [0, 1, 2]) (.seq (.region false [
 ⟨(some 7), .mv (.t 1), none, [], []⟩,
 ⟨(some 8), .mv (.t 0), none, [], []⟩,
 ⟨(some 9), .bin .leq (.t 7) (.t 8), none, [], []⟩,
 ⟨(some 10), .mv (.t 9), none, [], []⟩,
 ⟨(some 11), .mv (.t 0), (some (10, true)), [], []⟩,
 ⟨(some 12), .mv (.t 2), (some (10, true)), [], []⟩,
 ⟨(some 13), .bin .leq (.t 11) (.t 12), (some (10, true)), [], []⟩,
 ⟨(some 14), .pick (.t 10) (.t 13) (.c (.bool false)), none, [], []⟩,
 ⟨(some 6), .mv (.t 14), none, [], []⟩] [6]) (.ret))
def a18 : AFn := ⟨3, [.t 6], b18, false⟩
def n18 : Ann := ⟨[[0, 1, 2], [6]], [], [], [], [], false, []⟩

/-- almadraba/almadrabaref05.IsBoat -/
def b19 : AC :=
 .seq (.region false [
 ⟨(some 2), .box (.t 0), none, [], []⟩,
 ⟨(some 4), .mv (.c (.bool false)), none, [], []⟩] [1, 2]) (.seq (.region false [
 ⟨(some 5), .mv (.t 1), none, [], []⟩,
 ⟨(some 6), .faddr 3 (.t 2), none, [], []⟩,
 ⟨(some 7), .load none (.t 6), none, [], []⟩,
 ⟨(some 8), .len (.t 7), none, [], []⟩,
 ⟨(some 9), .bin .sub (.t 8) (.c (i64 1)), none, [], []⟩,
 ⟨(some 10), .call 45 [(.t 5), (.c (i64 0)), (.t 9)], none, [], []⟩,
 ⟨(some 4), .mv (.t 10), none, [], []⟩] [4]) (.ret))
def a19 : AFn := ⟨2, [.t 4], b19, false⟩
def n19 : Ann := ⟨[[1, 2], [4]], [], [], [], [], false, [(4, 160)]⟩

/-- almadraba/almadrabaref05.Stronger -/
def b20 : AC :=
 .seq (.region false [
 ⟨(some 2), .box (.t 0), none, [], []⟩,
 ⟨(some 4), .alloc [(i64 0), (i64 0), (.sl .full 2 []), (.sl .full 2 [])], none, [], []⟩] [1, 2, 4]) (.seq (.region false [
 ⟨(some 7), .load (some 4) (.t 2), none, [], []⟩,
 ⟨(some 8), .call 40 [(.t 7)], none, [], []⟩,
 ⟨(some 5), .alloc [(i64 0), (i64 0), (.sl .full 2 []), (.sl .full 2 [])], none, [], []⟩,
 ⟨none, .store 4 (.t 5) (.t 8), none, [], []⟩] [1, 4, 5]) (.seq (.region false [
 ⟨(some 9), .faddr 3 (.t 5), none, [], []⟩,
 ⟨(some 10), .load none (.t 9), none, [], []⟩,
 ⟨(some 11), .mv (.t 1), none, [], []⟩,
 ⟨(some 12), .idxs 2 (.t 10) (.t 11), none, [], []⟩,
 ⟨(some 13), .load (some 2) (.t 12), none, [], []⟩,
 ⟨(some 6), .alloc [(i64 0), (i64 0)], none, [], []⟩,
 ⟨none, .store 2 (.t 6) (.t 13), none, [], []⟩] [1, 4, 5, 6]) (.seq (.region false [
 ⟨(some 14), .faddr 0 (.t 6), none, [], []⟩,
 ⟨(some 15), .load none (.t 14), none, [], []⟩,
 ⟨(some 16), .bin .add (.t 15) (.c (i64 1)), none, [], []⟩,
 ⟨(some 17), .faddr 0 (.t 6), none, [], []⟩,
 ⟨none, .store 1 (.t 17) (.t 16), none, [], []⟩] [1, 4, 5, 6]) (.seq (.region false [
 ⟨(some 18), .faddr 3 (.t 5), none, [], []⟩,
 ⟨(some 19), .load none (.t 18), none, [], []⟩,
 ⟨(some 20), .mv (.t 1), none, [], []⟩,
 ⟨(some 21), .load (some 2) (.t 6), none, [], []⟩,
 ⟨(some 22), .idxs 2 (.t 19) (.t 20), none, [], []⟩,
 ⟨none, .store 2 (.t 22) (.t 21), none, [], []⟩] [4, 5]) (.seq (.region false [
 ⟨(some 23), .load (some 4) (.t 5), none, [], []⟩,
 ⟨none, .store 4 (.t 4) (.t 23), none, [], []⟩] [4]) (.ret))))))
def a20 : AFn := ⟨2, [.cell 4 (some 4)], b20, false⟩
def n20 : Ann := ⟨[[1, 2, 4], [1, 4, 5], [1, 4, 5, 6], [1, 4, 5, 6], [4, 5], [4]], [], [], [], [], false, []⟩

/-- almadraba/almadrabaref13.Heavier -/
def b21 : AC :=
 .seq (.region false [
 ⟨(some 2), .box (.t 0), none, [], []⟩,
 ⟨(some 4), .alloc [(i64 0), (i64 0), (i64 0), (i64 0), (.sl .full 2 []), (.sl .full 2 []), (.sl .full 5 []), (i64 0), (i64 0), (.sl .full 2 []), (.sl .full 2 []), (.sl .full 4 []), (.sl .full 1 []), (.sl .full 1 []), (.sl .full 2 [])], none, [], []⟩] [1, 2, 4]) (.seq (.region false [
 ⟨(some 6), .load (some 15) (.t 2), none, [], []⟩,
 ⟨(some 7), .call 13 [(.t 6)], none, [], []⟩,
 ⟨(some 5), .alloc [(i64 0), (i64 0), (i64 0), (i64 0), (.sl .full 2 []), (.sl .full 2 []), (.sl .full 5 []), (i64 0), (i64 0), (.sl .full 2 []), (.sl .full 2 []), (.sl .full 4 []), (.sl .full 1 []), (.sl .full 1 []), (.sl .full 2 [])], none, [], []⟩,
 ⟨none, .store 15 (.t 5) (.t 7), none, [], []⟩] [1, 2, 4, 5]) (.seq (.region false [
 ⟨(some 8), .faddr 0 (.t 2), none, [], []⟩,
 ⟨(some 9), .load (some 7) (.t 8), none, [], []⟩,
 ⟨(some 10), .mv (.t 1), none, [], []⟩,
 ⟨(some 11), .call 46 [(.t 9), (.t 10), (.c (i64 1))], none, [], []⟩,
 ⟨(some 12), .faddr 0 (.t 5), none, [], []⟩,
 ⟨none, .store 7 (.t 12) (.t 11), none, [], []⟩] [4, 5]) (.seq (.region false [
 ⟨(some 13), .load (some 15) (.t 5), none, [], []⟩,
 ⟨none, .store 15 (.t 4) (.t 13), none, [], []⟩] [4]) (.ret))))
def a21 : AFn := ⟨2, [.cell 4 (some 15)], b21, false⟩
def n21 : Ann := ⟨[[1, 2, 4], [1, 2, 4, 5], [4, 5], [4]], [], [], [], [], false, []⟩

/-- almadraba/skies.Holds -/
def b22 : AC :=
 .seq (.region false [
 ⟨(some 2), .box (.t 0), none, [], []⟩,
 ⟨(some 4), .mv (.c (.bool false)), none, [], []⟩,
 ⟨(some 5), .mv (.c (i64 0)), none, [], []⟩] [1, 2]) (.seq (.region true (spl [
 ⟨(some 9), .load (some 15) (.t 2), none, [], []⟩,
 ⟨(some 10), .load (some 15) (.t 2), none, [], []⟩,
 ⟨(some 11), .mv (.t 1), none, [], []⟩,
 ⟨(some 12), .call 47 [(.t 10), (.t 11)], none, [1, 2], []⟩,
 ⟨(some 13), .call 43 [(.t 9), (.t 12)], none, [0, 3, 1, 2], []⟩,
 ⟨(some 8), .mv (.t 13), none, [4, 0, 3, 1, 2], []⟩,
 ⟨(some 14), .ext (.t 8) 0, none, [5, 4, 0, 3, 1, 2], []⟩,
 ⟨(some 15), .ext (.t 8) 1, none, [5, 4, 0, 3, 1, 2], []⟩,
 ⟨(some 6), .mv (.t 14), none, [6, 5, 4, 0, 3, 1, 2], []⟩] [
 ⟨(some 7), .mv (.t 15), none, [7, 8, 6, 5, 4, 0, 3, 1, 2], []⟩]) [1, 6, 7]) (.seq (.seq (.region false [
 ⟨(some 16), .mv (.t 7), none, [], []⟩,
 ⟨(some 17), .bin .neq (.t 16) (.c (i64 0)), none, [], []⟩] [1, 6, 7, 17]) (.cond (.t 17) (.seq (.region false [
 ⟨(some 18), .mv (.t 7), none, [], []⟩,
 ⟨(some 4), .mv (.c (.bool false)), none, [], []⟩,
 ⟨(some 5), .mv (.t 18), none, [], []⟩] [4, 5]) (.ret)) (.skip))) (.seq (.region false [
 ⟨(some 19), .mv (.t 6), none, [], []⟩,
 ⟨(some 20), .mv (.t 1), none, [], []⟩,
 ⟨(some 21), .nilck (.t 19), none, [], []⟩,
 ⟨(some 22), .faddr 19 (.t 21), none, [], []⟩,
 ⟨(some 23), .idxa 5 1 (.t 22) (.t 20), none, [], []⟩,
 ⟨(some 24), .load none (.t 23), none, [], []⟩,
 ⟨(some 25), .bin .eql (.t 24) (.c (i64 1)), none, [], []⟩,
 ⟨(some 4), .mv (.t 25), none, [], []⟩,
 ⟨(some 5), .mv (.c (i64 0)), none, [], []⟩] [4, 5]) (.ret))))
def a22 : AFn := ⟨2, [.t 4, .t 5], b22, false⟩
def n22 : Ann := ⟨[[1, 2], [1, 6, 7], [1, 6, 7, 17], [4, 5], [4, 5]], [], [], [], [], false, [(19, 208), (5, 208), (18, 208), (16, 208), (7, 208), (6, 208), (15, 208), (14, 208), (8, 208)]⟩

/-- almadraba/almadrabalaw13.worth -/
def b23 : AC :=
 .seq (.region false [
 ⟨(some 3), .box (.t 0), none, [], []⟩,
 ⟨(some 6), .mv (.c (i64 0)), none, [], []⟩] [1, 2, 3]) (.seq (.region false [
 ⟨(some 10), .load (some 15) (.t 3), none, [], []⟩,
 ⟨(some 11), .mv (.t 1), none, [], []⟩,
 ⟨(some 12), .mv (.t 2), none, [], []⟩,
 ⟨(some 13), .call 35 [(.t 10), (.t 11), (.t 12)], none, [], []⟩,
 ⟨(some 9), .mv (.t 13), none, [], []⟩,
 ⟨(some 14), .ext (.t 9) 0, none, [], []⟩,
 ⟨(some 15), .ext (.t 9) 1, none, [], []⟩,
 ⟨(some 7), .mv (.t 14), none, [], []⟩,
 ⟨(some 8), .mv (.t 15), none, [], []⟩] [7, 8]) (.seq (.seq (.region false [
 ⟨(some 16), .mv (.t 8), none, [], []⟩,
 ⟨(some 17), .bin .neq (.t 16) (.c (i64 0)), none, [], []⟩,
 ⟨(some 18), .mv (.t 17), none, [], []⟩,
 ⟨(some 19), .mv (.t 7), (some (18, false)), [], []⟩,
 ⟨(some 20), .bin .lss (.t 19) (.c (i64 0)), (some (18, false)), [], []⟩,
 ⟨(some 21), .pick (.t 18) (.c (.bool true)) (.t 20), none, [], []⟩,
 ⟨(some 22), .mv (.t 21), none, [], []⟩,
 ⟨(some 23), .mv (.t 7), (some (22, false)), [], []⟩,
 ⟨(some 24), .bin .gtr (.t 23) (.c (i64 2000)), (some (22, false)), [], []⟩,
 ⟨(some 25), .pick (.t 22) (.c (.bool true)) (.t 24), none, [], []⟩] [7, 25]) (.cond (.t 25) (.seq (.region false [
 ⟨(some 6), .mv (.c (i64 (-1))), none, [], []⟩] [6]) (.ret)) (.skip))) (.seq (.region false [
 ⟨(some 26), .mv (.t 7), none, [], []⟩,
 ⟨(some 6), .mv (.t 26), none, [], []⟩] [6]) (.ret))))
def a23 : AFn := ⟨3, [.t 6], b23, false⟩
def n23 : Ann := ⟨[[1, 2, 3], [7, 8], [7, 25], [6], [6]], [], [], [], [], false, [(6, 208), (26, 208), (23, 208), (19, 208), (16, 208), (8, 208), (7, 208), (15, 208), (14, 208), (9, 208)]⟩

/-- almadraba/almadrabaref13.IsDay -/
def b24 : AC :=
 .seq (.region false [
 ⟨(some 2), .box (.t 0), none, [], []⟩,
 ⟨(some 4), .mv (.c (.bool false)), none, [], []⟩] [1, 2]) (.seq (.region false [
 ⟨(some 5), .mv (.t 1), none, [], []⟩,
 ⟨(some 6), .faddr 14 (.t 2), none, [], []⟩,
 ⟨(some 7), .load none (.t 6), none, [], []⟩,
 ⟨(some 8), .len (.t 7), none, [], []⟩,
 ⟨(some 9), .bin .sub (.t 8) (.c (i64 1)), none, [], []⟩,
 ⟨(some 10), .call 33 [(.t 5), (.c (i64 0)), (.t 9)], none, [], []⟩,
 ⟨(some 4), .mv (.t 10), none, [], []⟩] [4]) (.ret))
def a24 : AFn := ⟨2, [.t 4], b24, false⟩
def n24 : Ann := ⟨[[1, 2], [4]], [], [], [], [], false, [(4, 160)]⟩

/-- almadraba/almadrabalaw13.all -/
def b25l1 : AC :=
 .loop [1, 4, 5, 6] [16, 65] (.seq (.seq (.region false [
 ⟨(some 15), .mv (.t 6), none, [], []⟩,
 ⟨(some 16), .faddr 11 (.t 1), none, [], []⟩,
 ⟨(some 17), .load none (.t 16), none, [], []⟩,
 ⟨(some 18), .len (.t 17), none, [], []⟩,
 ⟨(some 19), .bin .lss (.t 15) (.t 18), none, [], []⟩] [1, 4, 5, 6, 19]) (.cond (.t 19) (.skip) (.exit 2))) (.seq (.block 3 (.seq (.region false [
 ⟨(some 22), .load (some 15) (.t 1), none, [], []⟩,
 ⟨(some 23), .mv (.t 5), none, [], []⟩,
 ⟨(some 24), .mv (.t 6), none, [], []⟩,
 ⟨(some 25), .call 23 [(.t 22), (.t 23), (.t 24)], none, [], []⟩,
 ⟨(some 7), .mv (.t 25), none, [], []⟩] [1, 4, 5, 6, 7]) (.seq (.seq (.region false [
 ⟨(some 26), .mv (.t 7), none, [], []⟩,
 ⟨(some 27), .bin .lss (.t 26) (.c (i64 0)), none, [], []⟩] [1, 4, 5, 6, 7, 27]) (.cond (.t 27) (.seq (.region false [
 ⟨(some 2), .mv (.c (.sl .full 1 [])), none, [], []⟩,
 ⟨(some 3), .mv (.c (.bool false)), none, [], []⟩] [2, 3]) (.ret)) (.skip))) (.region false [
 ⟨(some 28), .mv (.t 4), none, [], []⟩,
 ⟨(some 29), .mv (.t 7), none, [], []⟩,
 ⟨(some 30), .lit [(i64 0)] 1 [(0, (.t 29))], none, [], []⟩,
 ⟨(some 31), .app 1 8 (.t 28) (.t 30), none, [], []⟩,
 ⟨(some 4), .mv (.t 31), none, [], []⟩] [1, 4, 5, 6])))) (.region false [
 ⟨(some 20), .mv (.t 6), none, [], []⟩,
 ⟨(some 21), .bin .add (.t 20) (.c (i64 1)), none, [], []⟩,
 ⟨(some 6), .mv (.t 21), none, [], []⟩] [1, 4, 5, 6])))
/-- almadraba/almadrabalaw13.all -/
def b25l0 : AC :=
 .loop [1, 4, 5] [16, 65] (.seq (.seq (.region false [
 ⟨(some 8), .mv (.t 5), none, [], []⟩,
 ⟨(some 9), .faddr 14 (.t 1), none, [], []⟩,
 ⟨(some 10), .load none (.t 9), none, [], []⟩,
 ⟨(some 11), .len (.t 10), none, [], []⟩,
 ⟨(some 12), .bin .lss (.t 8) (.t 11), none, [], []⟩] [1, 4, 5, 12]) (.cond (.t 12) (.skip) (.exit 0))) (.seq (.block 1 (.seq (.region false [
 ⟨(some 6), .mv (.c (i64 0)), none, [], []⟩] [1, 4, 5, 6]) (.block 2 (b25l1)))) (.region false [
 ⟨(some 13), .mv (.t 5), none, [], []⟩,
 ⟨(some 14), .bin .add (.t 13) (.c (i64 1)), none, [], []⟩,
 ⟨(some 5), .mv (.t 14), none, [], []⟩] [1, 4, 5])))
/-- almadraba/almadrabalaw13.all -/
def b25 : AC :=
 .seq (.region false [
 ⟨(some 1), .box (.t 0), none, [], []⟩,
 ⟨(some 2), .mv (.c (.sl .full 1 [])), none, [], []⟩,
 ⟨(some 3), .mv (.c (.bool false)), none, [], []⟩] [1]) (.seq (.region false [
 ⟨(some 4), .mv (.c (.sl .full 1 [])), none, [], []⟩] [1, 4]) (.seq (.seq (.region false [
 ⟨(some 5), .mv (.c (i64 0)), none, [], []⟩] [1, 4, 5]) (.block 0 (.seq (.thaw 4 65 1) (b25l0)))) (.seq (.region false [
 ⟨(some 32), .mv (.t 4), none, [], []⟩,
 ⟨(some 2), .mv (.t 32), none, [], []⟩,
 ⟨(some 3), .mv (.c (.bool true)), none, [], []⟩] [2, 3]) (.ret))))
def a25 : AFn := ⟨1, [.t 2, .t 3], b25, false⟩
def n25 : Ann := ⟨[[1], [1, 4], [1, 4, 5], [1, 4, 5, 12], [1, 4, 5, 6], [1, 4, 5, 6, 19], [1, 4, 5, 6, 7], [1, 4, 5, 6, 7, 27], [2, 3], [1, 4, 5, 6], [1, 4, 5, 6], [1, 4, 5], [2, 3]], [⟨[.t 4 65 1], [1, 4, 5], [16, 65]⟩, ⟨[], [1, 4, 5, 6], [16, 65]⟩], [], [], [], false, [(29, 400), (26, 400), (7, 400)]⟩

/-- almadraba/almadrabaref13.IsCourse -/
def b26l0 : AC :=
 .loop [1, 2, 5, 6] [32] (.seq (.seq (.region false [
 ⟨(some 15), .mv (.t 6), none, [], []⟩,
 ⟨(some 16), .mv (.t 1), none, [], []⟩,
 ⟨(some 17), .len (.t 16), none, [], []⟩,
 ⟨(some 18), .bin .lss (.t 15) (.t 17), none, [], []⟩] [1, 2, 5, 6, 18]) (.cond (.t 18) (.skip) (.exit 0))) (.seq (.block 1 (.seq (.seq (.region false [
 ⟨(some 21), .mv (.t 5), none, [], []⟩,
 ⟨(some 22), .mv (.t 1), none, [], []⟩,
 ⟨(some 23), .mv (.t 6), none, [], []⟩,
 ⟨(some 24), .idxs 1 (.t 22) (.t 23), none, [], []⟩,
 ⟨(some 25), .load none (.t 24), none, [], []⟩,
 ⟨(some 26), .call 41 [(.t 21), (.t 25)], none, [], []⟩,
 ⟨(some 27), .un .not (.t 26), none, [], []⟩] [1, 2, 6, 27]) (.cond (.t 27) (.seq (.region false [
 ⟨(some 4), .mv (.c (.bool false)), none, [], []⟩] [4]) (.ret)) (.skip))) (.region true (spl [
 ⟨(some 28), .faddr 12 (.t 2), none, [], []⟩,
 ⟨(some 29), .load none (.t 28), none, [0], []⟩,
 ⟨(some 30), .mv (.t 1), none, [], []⟩,
 ⟨(some 31), .mv (.t 6), none, [], []⟩,
 ⟨(some 32), .idxs 1 (.t 30) (.t 31), none, [2, 3], []⟩,
 ⟨(some 33), .load none (.t 32), none, [4, 2, 3], []⟩] [
 ⟨(some 34), .idxs 1 (.t 29) (.t 33), none, [1, 5, 0, 4, 2, 3], []⟩,
 ⟨(some 35), .load none (.t 34), none, [6, 1, 5, 0, 4, 2, 3], []⟩,
 ⟨(some 5), .mv (.t 35), none, [7, 6, 1, 5, 0, 4, 2, 3], []⟩]) [1, 2, 5, 6]))) (.region false [
 ⟨(some 19), .mv (.t 6), none, [], []⟩,
 ⟨(some 20), .bin .add (.t 19) (.c (i64 1)), none, [], []⟩,
 ⟨(some 6), .mv (.t 20), none, [], []⟩] [1, 2, 5, 6])))
/-- almadraba/almadrabaref13.IsCourse -/
def b26 : AC :=
 .seq (.region false [
 ⟨(some 2), .box (.t 0), none, [], []⟩,
 ⟨(some 4), .mv (.c (.bool false)), none, [], []⟩] [1, 2]) (.seq (.seq (.region false [
 ⟨(some 7), .mv (.t 1), none, [], []⟩,
 ⟨(some 8), .len (.t 7), none, [], []⟩,
 ⟨(some 9), .faddr 14 (.t 2), none, [], []⟩,
 ⟨(some 10), .load none (.t 9), none, [], []⟩,
 ⟨(some 11), .len (.t 10), none, [], []⟩,
 ⟨(some 12), .bin .neq (.t 8) (.t 11), none, [], []⟩] [1, 2, 12]) (.cond (.t 12) (.seq (.region false [
 ⟨(some 4), .mv (.c (.bool false)), none, [], []⟩] [4]) (.ret)) (.skip))) (.seq (.region false [
 ⟨(some 13), .faddr 13 (.t 2), none, [], []⟩,
 ⟨(some 14), .load none (.t 13), none, [], []⟩,
 ⟨(some 5), .mv (.t 14), none, [], []⟩] [1, 2, 5]) (.seq (.seq (.region false [
 ⟨(some 6), .mv (.c (i64 0)), none, [], []⟩] [1, 2, 5, 6]) (.block 0 (b26l0))) (.seq (.region false [
 ⟨(some 4), .mv (.c (.bool true)), none, [], []⟩] [4]) (.ret)))))
def a26 : AFn := ⟨2, [.t 4], b26, false⟩
def n26 : Ann := ⟨[[1, 2], [1, 2, 12], [4], [1, 2, 5], [1, 2, 5, 6], [1, 2, 5, 6, 18], [1, 2, 6, 27], [4], [1, 2, 5, 6], [1, 2, 5, 6], [4]], [⟨[], [1, 2, 5, 6], [32]⟩], [], [], [], false, []⟩

/-- almadraba/skies.Off -/
def b27l0 : AC :=
 .loop [2, 3, 4, 6, 26, 27, 28] [16, 32, 48, 64, 96, 192] (.seq (.region false [
 ⟨(some 29), .bin .lss (.t 28) (.t 27), none, [], []⟩] [2, 3, 4, 6, 26, 27, 28, 29]) (.seq (.cond (.t 29) (.skip) (.exit 2)) (.seq (.block 3 (.seq (.region false [
 ⟨(some 30), .mv (.t 28), none, [], []⟩,
 ⟨(some 31), .idxs 1 (.t 26) (.t 28), none, [], []⟩,
 ⟨(some 32), .load none (.t 31), none, [], []⟩,
 ⟨(some 8), .mv (.t 30), none, [], []⟩,
 ⟨(some 9), .mv (.t 32), none, [], []⟩] [2, 3, 4, 6, 8, 9, 26, 27, 28]) (.seq (.region false [
 ⟨(some 33), .load none (.t 4), none, [], []⟩,
 ⟨(some 34), .mv (.t 8), none, [], []⟩,
 ⟨(some 35), .mv (.t 9), none, [], []⟩,
 ⟨(some 36), .call 49 [(.t 33), (.t 34), (.t 35)], none, [], []⟩] [2, 3, 4, 6, 8, 26, 27, 28, 36]) (.cond (.t 36) (.seq (.region false [
 ⟨(some 37), .faddr 0 (.t 6), none, [], []⟩,
 ⟨(some 38), .load none (.t 37), none, [], []⟩,
 ⟨(some 39), .mv (.t 8), none, [], []⟩,
 ⟨(some 40), .mm false (.t 38) (.t 39), none, [], []⟩,
 ⟨(some 41), .faddr 1 (.t 6), none, [], []⟩,
 ⟨(some 42), .load none (.t 41), none, [], []⟩,
 ⟨(some 43), .mv (.t 8), none, [], []⟩,
 ⟨(some 44), .mm true (.t 42) (.t 43), none, [], []⟩,
 ⟨(some 45), .build [(i64 0), (i64 0)] [(0, 1, (.t 40)), (1, 1, (.t 44))], none, [], []⟩,
 ⟨none, .store 2 (.t 6) (.t 45), none, [], []⟩] [2, 3, 6]) (.exit 1)) (.skip))))) (.region false [
 ⟨(some 46), .bin .add (.t 28) (.c (i64 1)), none, [], []⟩,
 ⟨(some 28), .mv (.t 46), none, [], []⟩] [2, 3, 4, 6, 26, 27, 28]))))
/-- almadraba/skies.Off -/
def b27l1 : AC :=
 .region false [
 ⟨(some 7), .mv (.t 25), none, [], []⟩] [2, 3, 4, 6, 7]
/-- almadraba/skies.Off -/
def b27l2 : AC :=
 .block 1 (.seq (.seq (.region false [
 ⟨(some 26), .mv (.t 7), none, [], []⟩,
 ⟨(some 27), .len (.t 26), none, [], []⟩,
 ⟨(some 28), .mv (.c (i64 0)), none, [], []⟩] [2, 3, 4, 6, 26, 27, 28]) (.block 2 (b27l0))) (.seq (.region false [
 ⟨(some 47), .build [(i64 0), (i64 0)] [], none, [], []⟩,
 ⟨none, .store 2 (.t 2) (.t 47), none, [], []⟩,
 ⟨none, .store 1 (.t 3) (.c (i64 3)), none, [], []⟩] [2, 3]) (.ret)))
/-- almadraba/skies.Off -/
def b27 : AC :=
 .seq (.region false [
 ⟨(some 1), .box (.t 0), none, [], []⟩,
 ⟨(some 2), .alloc [(i64 0), (i64 0)], none, [], []⟩,
 ⟨(some 3), .alloc [(i64 0)], none, [], []⟩] [1, 2, 3]) (.scope (.seq (.region false [
 ⟨(some 11), .load (some 15) (.t 1), none, [], []⟩,
 ⟨(some 12), .call 43 [(.t 11), (.c (.bool true))], none, [], []⟩,
 ⟨(some 10), .mv (.t 12), none, [], []⟩,
 ⟨(some 13), .ext (.t 10) 0, none, [], []⟩,
 ⟨(some 14), .ext (.t 10) 1, none, [], []⟩,
 ⟨(some 4), .alloc [.nilp], none, [], []⟩,
 ⟨none, .store 1 (.t 4) (.t 13), none, [], []⟩,
 ⟨(some 5), .mv (.t 14), none, [], []⟩] [1, 2, 3, 4, 5]) (.seq (.seq (.region false [
 ⟨(some 15), .mv (.t 5), none, [], []⟩,
 ⟨(some 16), .bin .neq (.t 15) (.c (i64 0)), none, [], []⟩] [1, 2, 3, 4, 5, 16]) (.cond (.t 16) (.seq (.region false [
 ⟨(some 17), .build [(i64 0), (i64 0)] [], none, [], []⟩,
 ⟨(some 18), .mv (.t 5), none, [], []⟩,
 ⟨none, .store 2 (.t 2) (.t 17), none, [], []⟩,
 ⟨none, .store 1 (.t 3) (.t 18), none, [], []⟩] [2, 3]) (.ret)) (.skip))) (.seq (.region false [
 ⟨(some 19), .faddr 14 (.t 1), none, [], []⟩,
 ⟨(some 20), .load none (.t 19), none, [], []⟩,
 ⟨(some 21), .len (.t 20), none, [], []⟩,
 ⟨(some 22), .build [(i64 0), (i64 0)] [(0, 1, (.t 21)), (1, 1, (.c (i64 (-1))))], none, [], []⟩,
 ⟨(some 6), .alloc [(i64 0), (i64 0)], none, [], []⟩,
 ⟨none, .store 2 (.t 6) (.t 22), none, [], []⟩] [2, 3, 4, 6]) (.seq (.label) (.seq (.seq (.region false [
 ⟨(some 23), .load none (.t 4), none, [], []⟩,
 ⟨(some 24), .mkfn 48 [(.t 23)] [], none, [], []⟩] [2, 3, 4, 6, 24]) (.block 0 (.rng 432 [25] b27l1 b27l2 (.t 24)))) (.seq (.region false [
 ⟨(some 48), .load (some 2) (.t 6), none, [], []⟩,
 ⟨none, .store 2 (.t 2) (.t 48), none, [], []⟩,
 ⟨none, .store 1 (.t 3) (.c (i64 0)), none, [], []⟩] [2, 3]) (.ret))))))))
def a27 : AFn := ⟨1, [.cell 2 (some 2), .cell 3 none], b27, false⟩
def n27 : Ann := ⟨[[1, 2, 3], [1, 2, 3, 4, 5], [1, 2, 3, 4, 5, 16], [2, 3], [2, 3, 4, 6], [2, 3, 4, 6, 24], [2, 3, 4, 6, 7], [2, 3, 4, 6, 26, 27, 28], [2, 3, 4, 6, 26, 27, 28, 29], [2, 3, 4, 6, 8, 9, 26, 27, 28], [2, 3, 4, 6, 8, 26, 27, 28, 36], [2, 3, 6], [2, 3, 4, 6, 26, 27, 28], [2, 3], [2, 3]], [⟨[], [2, 3, 4, 6, 26, 27, 28], [16, 32, 48, 64, 96, 192]⟩], [432], [], [], false, [(18, 192), (15, 192), (5, 192), (14, 192), (13, 192), (10, 192)]⟩

/-- almadraba/almadrabalaw13.isKnown -/
def b28 : AC :=
 .seq (.region false [
 ⟨(some 2), .mv (.c (.bool false)), none, [], []⟩] [0]) (.seq (.region false [
 ⟨(some 3), .mv (.t 0), none, [], []⟩,
 ⟨(some 4), .bin .eql (.t 3) (.c (i64 0)), none, [], []⟩,
 ⟨(some 5), .mv (.t 4), none, [], []⟩,
 ⟨(some 6), .mv (.t 0), (some (5, false)), [], []⟩,
 ⟨(some 7), .bin .eql (.t 6) (.c (i64 3)), (some (5, false)), [], []⟩,
 ⟨(some 8), .pick (.t 5) (.c (.bool true)) (.t 7), none, [], []⟩,
 ⟨(some 2), .mv (.t 8), none, [], []⟩] [2]) (.ret))
def a28 : AFn := ⟨1, [.t 2], b28, false⟩
def n28 : Ann := ⟨[[0], [2]], [], [], [], [], false, []⟩

/-- almadraba/almadrabalaw13.may -/
def b29 : AC :=
 .seq (.region false [
 ⟨(some 3), .box (.t 0), none, [], []⟩,
 ⟨(some 6), .mv (.c (.bool false)), none, [], []⟩,
 ⟨(some 7), .mv (.c (.bool false)), none, [], []⟩] [1, 2, 3]) (.seq (.region false [
 ⟨(some 11), .load (some 15) (.t 3), none, [], []⟩,
 ⟨(some 12), .mv (.t 1), none, [], []⟩,
 ⟨(some 13), .mv (.t 2), none, [], []⟩,
 ⟨(some 14), .call 50 [(.t 11), (.t 12), (.t 13)], none, [], []⟩,
 ⟨(some 10), .mv (.t 14), none, [], []⟩,
 ⟨(some 15), .ext (.t 10) 0, none, [], []⟩,
 ⟨(some 16), .ext (.t 10) 1, none, [], []⟩,
 ⟨(some 8), .mv (.t 15), none, [], []⟩,
 ⟨(some 9), .mv (.t 16), none, [], []⟩] [8, 9]) (.seq (.region false [
 ⟨(some 17), .mv (.t 8), none, [], []⟩,
 ⟨(some 18), .mv (.t 9), none, [], []⟩,
 ⟨(some 19), .bin .eql (.t 18) (.c (i64 0)), none, [], []⟩,
 ⟨(some 6), .mv (.t 17), none, [], []⟩,
 ⟨(some 7), .mv (.t 19), none, [], []⟩] [6, 7]) (.ret)))
def a29 : AFn := ⟨3, [.t 6, .t 7], b29, false⟩
def n29 : Ann := ⟨[[1, 2, 3], [8, 9], [6, 7]], [], [], [], [], false, [(6, 224), (18, 224), (17, 224), (9, 224), (8, 224), (16, 224), (15, 224), (10, 224)]⟩

/-- almadraba/skies.Lift -/
def b30 : AC :=
 .seq (.region false [
 ⟨(some 3), .box (.t 0), none, [], []⟩,
 ⟨(some 6), .mv (.c (.bool false)), none, [], []⟩,
 ⟨(some 7), .mv (.c (i64 0)), none, [], []⟩] [1, 2, 3]) (.seq (.region true (spl [
 ⟨(some 11), .load (some 15) (.t 3), none, [], []⟩,
 ⟨(some 12), .load (some 15) (.t 3), none, [], []⟩,
 ⟨(some 13), .mv (.t 1), none, [], []⟩,
 ⟨(some 14), .call 47 [(.t 12), (.t 13)], none, [1, 2], []⟩,
 ⟨(some 15), .mv (.t 14), none, [3, 1, 2], []⟩,
 ⟨(some 16), .load (some 15) (.t 3), (some (15, true)), [4, 3, 1, 2], []⟩,
 ⟨(some 17), .mv (.t 2), (some (15, true)), [4, 3, 1, 2], []⟩,
 ⟨(some 18), .call 44 [(.t 16), (.t 17)], (some (15, true)), [5, 6, 4, 3, 1, 2], []⟩,
 ⟨(some 19), .pick (.t 15) (.t 18) (.c (.bool false)), none, [7, 5, 6, 4, 3, 1, 2], []⟩,
 ⟨(some 20), .call 43 [(.t 11), (.t 19)], none, [0, 8, 7, 5, 6, 4, 3, 1, 2], []⟩,
 ⟨(some 10), .mv (.t 20), none, [9, 0, 8, 7, 5, 6, 4, 3, 1, 2], []⟩,
 ⟨(some 21), .ext (.t 10) 0, none, [10, 9, 0, 8, 7, 5, 6, 4, 3, 1, 2], []⟩,
 ⟨(some 22), .ext (.t 10) 1, none, [10, 9, 0, 8, 7, 5, 6, 4, 3, 1, 2], []⟩,
 ⟨(some 8), .mv (.t 21), none, [11, 10, 9, 0, 8, 7, 5, 6, 4, 3, 1, 2], []⟩] [
 ⟨(some 9), .mv (.t 22), none, [12, 13, 11, 10, 9, 0, 8, 7, 5, 6, 4, 3, 1, 2], []⟩]) [1, 2, 8, 9]) (.seq (.seq (.region false [
 ⟨(some 23), .mv (.t 9), none, [], []⟩,
 ⟨(some 24), .bin .neq (.t 23) (.c (i64 0)), none, [], []⟩] [1, 2, 8, 9, 24]) (.cond (.t 24) (.seq (.region false [
 ⟨(some 25), .mv (.t 9), none, [], []⟩,
 ⟨(some 6), .mv (.c (.bool false)), none, [], []⟩,
 ⟨(some 7), .mv (.t 25), none, [], []⟩] [6, 7]) (.ret)) (.skip))) (.seq (.region false [
 ⟨(some 26), .mv (.t 8), none, [], []⟩,
 ⟨(some 27), .mv (.t 1), none, [], []⟩,
 ⟨(some 28), .mv (.t 2), none, [], []⟩,
 ⟨(some 29), .call 51 [(.t 26), (.t 27), (.t 28)], none, [], []⟩,
 ⟨(some 6), .mv (.t 29), none, [], []⟩,
 ⟨(some 7), .mv (.c (i64 0)), none, [], []⟩] [6, 7]) (.ret))))
def a30 : AFn := ⟨3, [.t 6, .t 7], b30, false⟩
def n30 : Ann := ⟨[[1, 2, 3], [1, 2, 8, 9], [1, 2, 8, 9, 24], [6, 7], [6, 7]], [], [], [], [], false, [(6, 464), (26, 320), (7, 320), (25, 320), (23, 320), (9, 320), (8, 320), (22, 320), (21, 320), (10, 320), (15, 224)]⟩

/-- almadraba/almadrabalaw13.Far -/
def b31l0 : AC :=
 .loop [1, 3, 4] [16, 96, 128] (.seq (.seq (.region false [
 ⟨(some 20), .mv (.t 4), none, [], []⟩,
 ⟨(some 21), .faddr 11 (.t 1), none, [], []⟩,
 ⟨(some 22), .load none (.t 21), none, [], []⟩,
 ⟨(some 23), .len (.t 22), none, [], []⟩,
 ⟨(some 24), .bin .lss (.t 20) (.t 23), none, [], []⟩] [1, 3, 4, 24]) (.cond (.t 24) (.skip) (.exit 0))) (.seq (.block 1 (.region false [
 ⟨(some 27), .mv (.t 3), none, [], []⟩,
 ⟨(some 28), .mv (.t 27), none, [], []⟩,
 ⟨(some 29), .load (some 15) (.t 1), (some (28, false)), [], []⟩,
 ⟨(some 30), .mv (.t 4), (some (28, false)), [], []⟩,
 ⟨(some 31), .call 54 [(.t 29), (.t 30)], (some (28, false)), [], []⟩,
 ⟨(some 32), .call 53 [(.t 31)], (some (28, false)), [], []⟩,
 ⟨(some 33), .pick (.t 28) (.c (.bool true)) (.t 32), none, [], []⟩,
 ⟨(some 3), .mv (.t 33), none, [], []⟩] [1, 3, 4])) (.region false [
 ⟨(some 25), .mv (.t 4), none, [], []⟩,
 ⟨(some 26), .bin .add (.t 25) (.c (i64 1)), none, [], []⟩,
 ⟨(some 4), .mv (.t 26), none, [], []⟩] [1, 3, 4])))
/-- almadraba/almadrabalaw13.Far -/
def b31 : AC :=
 .seq (.region false [
 ⟨(some 1), .box (.t 0), none, [], []⟩,
 ⟨(some 2), .mv (.c (.bool false)), none, [], []⟩] [1]) (.seq (.seq (.region false [
 ⟨(some 5), .load (some 15) (.t 1), none, [], []⟩,
 ⟨(some 6), .call 52 [(.t 5)], none, [], []⟩] [1, 6]) (.cond (.t 6) (.seq (.region false [
 ⟨(some 2), .mv (.c (.bool true)), none, [], []⟩] [2]) (.ret)) (.skip))) (.seq (.seq (.region false [
 ⟨(some 7), .load (some 15) (.t 1), none, [], []⟩,
 ⟨(some 8), .call 32 [(.t 7)], none, [], []⟩,
 ⟨(some 9), .bin .neq (.t 8) (.c (i64 0)), none, [], []⟩] [1, 9]) (.cond (.t 9) (.seq (.region false [
 ⟨(some 2), .mv (.c (.bool false)), none, [], []⟩] [2]) (.ret)) (.skip))) (.seq (.region false [
 ⟨(some 10), .faddr 11 (.t 1), none, [], []⟩,
 ⟨(some 11), .load none (.t 10), none, [], []⟩,
 ⟨(some 12), .len (.t 11), none, [], []⟩,
 ⟨(some 13), .bin .gtr (.t 12) (.c (i64 3)), none, [], []⟩,
 ⟨(some 14), .mv (.t 13), none, [], []⟩,
 ⟨(some 15), .faddr 14 (.t 1), (some (14, false)), [], []⟩,
 ⟨(some 16), .load none (.t 15), (some (14, false)), [], []⟩,
 ⟨(some 17), .len (.t 16), (some (14, false)), [], []⟩,
 ⟨(some 18), .bin .gtr (.t 17) (.c (i64 4)), (some (14, false)), [], []⟩,
 ⟨(some 19), .pick (.t 14) (.c (.bool true)) (.t 18), none, [], []⟩,
 ⟨(some 3), .mv (.t 19), none, [], []⟩] [1, 3]) (.seq (.seq (.region false [
 ⟨(some 4), .mv (.c (i64 0)), none, [], []⟩] [1, 3, 4]) (.block 0 (b31l0))) (.seq (.region false [
 ⟨(some 34), .mv (.t 3), none, [], []⟩,
 ⟨(some 2), .mv (.t 34), none, [], []⟩] [2]) (.ret))))))
def a31 : AFn := ⟨1, [.t 2], b31, false⟩
def n31 : Ann := ⟨[[1], [1, 6], [2], [1, 9], [2], [1, 3], [1, 3, 4], [1, 3, 4, 24], [1, 3, 4], [1, 3, 4], [2]], [⟨[], [1, 3, 4], [16, 96, 128]⟩], [], [], [], false, []⟩

/-- almadraba/almadrabaref13.Check -/
def b32l0 : AC :=
 .loop [1, 3] [16, 112, 192, 304, 560, 1456] (.seq (.seq (.region false [
 ⟨(some 44), .mv (.t 3), none, [], []⟩,
 ⟨(some 45), .faddr 11 (.t 1), none, [], []⟩,
 ⟨(some 46), .load none (.t 45), none, [], []⟩,
 ⟨(some 47), .len (.t 46), none, [], []⟩,
 ⟨(some 48), .bin .lss (.t 44) (.t 47), none, [], []⟩] [1, 3, 48]) (.cond (.t 48) (.skip) (.exit 0))) (.seq (.block 1 (.seq (.region true (spl [
 ⟨(some 51), .faddr 11 (.t 1), none, [], []⟩,
 ⟨(some 52), .load none (.t 51), none, [0], []⟩,
 ⟨(some 53), .mv (.t 3), none, [], []⟩,
 ⟨(some 54), .idxs 4 (.t 52) (.t 53), none, [1, 2, 0], []⟩,
 ⟨(some 55), .faddr 0 (.t 54), none, [3, 1, 2, 0], []⟩,
 ⟨(some 56), .load (some 2) (.t 55), none, [4, 3, 1, 2, 0], []⟩,
 ⟨(some 57), .call 58 [(.t 56), (.c (i64 20))], none, [5, 4, 3, 1, 2, 0], []⟩,
 ⟨(some 58), .un .not (.t 57), none, [6, 5, 4, 3, 1, 2, 0], []⟩,
 ⟨(some 59), .mv (.t 58), none, [7, 6, 5, 4, 3, 1, 2, 0], []⟩,
 ⟨(some 60), .faddr 11 (.t 1), (some (59, false)), [8, 7, 6, 5, 4, 3, 1, 2, 0], []⟩,
 ⟨(some 61), .load none (.t 60), (some (59, false)), [9, 8, 7, 6, 5, 4, 3, 1, 2, 0], []⟩,
 ⟨(some 62), .mv (.t 3), (some (59, false)), [8, 7, 6, 5, 4, 3, 1, 2, 0], []⟩,
 ⟨(some 63), .idxs 4 (.t 61) (.t 62), (some (59, false)), [10, 11, 9, 8, 7, 6, 5, 4, 3, 1, 2, 0], []⟩,
 ⟨(some 64), .faddr 2 (.t 63), (some (59, false)), [12, 10, 11, 9, 8, 7, 6, 5, 4, 3, 1, 2, 0], []⟩,
 ⟨(some 65), .load (some 2) (.t 64), (some (59, false)), [13, 12, 10, 11, 9, 8, 7, 6, 5, 4, 3, 1, 2, 0], []⟩,
 ⟨(some 66), .call 58 [(.t 65), (.c (i64 20))], (some (59, false)), [14, 13, 12, 10, 11, 9, 8, 7, 6, 5, 4, 3, 1, 2, 0], []⟩,
 ⟨(some 67), .un .not (.t 66), (some (59, false)), [15, 14, 13, 12, 10, 11, 9, 8, 7, 6, 5, 4, 3, 1, 2, 0], []⟩,
 ⟨(some 68), .pick (.t 59) (.c (.bool true)) (.t 67), none, [16, 15, 14, 13, 12, 10, 11, 9, 8, 7, 6, 5, 4, 3, 1, 2, 0], []⟩,
 ⟨(some 69), .mv (.t 68), none, [17, 16, 15, 14, 13, 12, 10, 11, 9, 8, 7, 6, 5, 4, 3, 1, 2, 0], []⟩,
 ⟨(some 70), .load (some 15) (.t 1), (some (69, false)), [18, 17, 16, 15, 14, 13, 12, 10, 11, 9, 8, 7, 6, 5, 4, 3, 1, 2, 0], []⟩,
 ⟨(some 71), .faddr 12 (.t 1), (some (69, false)), [18, 17, 16, 15, 14, 13, 12, 10, 11, 9, 8, 7, 6, 5, 4, 3, 1, 2, 0], []⟩,
 ⟨(some 72), .load none (.t 71), (some (69, false)), [20, 18, 17, 16, 15, 14, 13, 12, 10, 11, 9, 8, 7, 6, 5, 4, 3, 1, 2, 0], []⟩,
 ⟨(some 73), .mv (.t 3), (some (69, false)), [18, 17, 16, 15, 14, 13, 12, 10, 11, 9, 8, 7, 6, 5, 4, 3, 1, 2, 0], []⟩,
 ⟨(some 74), .idxs 1 (.t 72) (.t 73), (some (69, false)), [21, 22, 20, 18, 17, 16, 15, 14, 13, 12, 10, 11, 9, 8, 7, 6, 5, 4, 3, 1, 2, 0], []⟩,
 ⟨(some 75), .load none (.t 74), (some (69, false)), [23, 21, 22, 20, 18, 17, 16, 15, 14, 13, 12, 10, 11, 9, 8, 7, 6, 5, 4, 3, 1, 2, 0], []⟩] [
 ⟨(some 76), .call 57 [(.t 70), (.t 75)], (some (69, false)), [19, 24, 23, 21, 22, 20, 18, 17, 16, 15, 14, 13, 12, 10, 11, 9, 8, 7, 6, 5, 4, 3, 1, 2, 0], []⟩,
 ⟨(some 77), .un .not (.t 76), (some (69, false)), [25, 19, 24, 23, 21, 22, 20, 18, 17, 16, 15, 14, 13, 12, 10, 11, 9, 8, 7, 6, 5, 4, 3, 1, 2, 0], []⟩,
 ⟨(some 78), .pick (.t 69) (.c (.bool true)) (.t 77), none, [26, 25, 19, 24, 23, 21, 22, 20, 18, 17, 16, 15, 14, 13, 12, 10, 11, 9, 8, 7, 6, 5, 4, 3, 1, 2, 0], []⟩]) [1, 3, 78]) (.cond (.t 78) (.seq (.region false [
 ⟨(some 2), .mv (.c (i64 130)), none, [], []⟩] [2]) (.ret)) (.skip)))) (.region false [
 ⟨(some 49), .mv (.t 3), none, [], []⟩,
 ⟨(some 50), .bin .add (.t 49) (.c (i64 1)), none, [], []⟩,
 ⟨(some 3), .mv (.t 50), none, [], []⟩] [1, 3])))
/-- almadraba/almadrabaref13.Check -/
def b32l1 : AC :=
 .loop [1, 4] [16, 112, 192, 304, 560, 912, 1056, 1216] (.seq (.seq (.region false [
 ⟨(some 79), .mv (.t 4), none, [], []⟩,
 ⟨(some 80), .faddr 14 (.t 1), none, [], []⟩,
 ⟨(some 81), .load none (.t 80), none, [], []⟩,
 ⟨(some 82), .len (.t 81), none, [], []⟩,
 ⟨(some 83), .bin .lss (.t 79) (.t 82), none, [], []⟩] [1, 4, 83]) (.cond (.t 83) (.skip) (.exit 2))) (.seq (.block 3 (.seq (.region false [
 ⟨(some 86), .faddr 14 (.t 1), none, [], []⟩,
 ⟨(some 87), .load none (.t 86), none, [], []⟩,
 ⟨(some 88), .mv (.t 4), none, [], []⟩,
 ⟨(some 89), .idxs 2 (.t 87) (.t 88), none, [], []⟩,
 ⟨(some 90), .load (some 2) (.t 89), none, [], []⟩,
 ⟨(some 91), .call 58 [(.t 90), (.c (i64 2000))], none, [], []⟩,
 ⟨(some 92), .un .not (.t 91), none, [], []⟩] [1, 4, 92]) (.cond (.t 92) (.seq (.region false [
 ⟨(some 2), .mv (.c (i64 130)), none, [], []⟩] [2]) (.ret)) (.skip)))) (.region false [
 ⟨(some 84), .mv (.t 4), none, [], []⟩,
 ⟨(some 85), .bin .add (.t 84) (.c (i64 1)), none, [], []⟩,
 ⟨(some 4), .mv (.t 85), none, [], []⟩] [1, 4])))
/-- almadraba/almadrabaref13.Check -/
def b32 : AC :=
 .seq (.region false [
 ⟨(some 1), .box (.t 0), none, [], []⟩,
 ⟨(some 2), .mv (.c (i64 0)), none, [], []⟩] [1]) (.seq (.seq (.region false [
 ⟨(some 5), .faddr 0 (.t 1), none, [], []⟩,
 ⟨(some 6), .load (some 7) (.t 5), none, [], []⟩,
 ⟨(some 7), .call 55 [(.t 6)], none, [], []⟩,
 ⟨(some 8), .bin .neq (.t 7) (.c (i64 0)), none, [], []⟩,
 ⟨(some 9), .mv (.t 8), none, [], []⟩,
 ⟨(some 10), .faddr 7 (.t 1), (some (9, false)), [], []⟩,
 ⟨(some 11), .load (some 4) (.t 10), (some (9, false)), [], []⟩,
 ⟨(some 12), .call 56 [(.t 11)], (some (9, false)), [], []⟩,
 ⟨(some 13), .bin .neq (.t 12) (.c (i64 0)), (some (9, false)), [], []⟩,
 ⟨(some 14), .pick (.t 9) (.c (.bool true)) (.t 13), none, [], []⟩,
 ⟨(some 15), .mv (.t 14), none, [], []⟩,
 ⟨(some 16), .faddr 11 (.t 1), (some (15, false)), [], []⟩,
 ⟨(some 17), .load none (.t 16), (some (15, false)), [], []⟩,
 ⟨(some 18), .len (.t 17), (some (15, false)), [], []⟩,
 ⟨(some 19), .call 33 [(.t 18), (.c (i64 1)), (.c (i64 4))], (some (15, false)), [], []⟩,
 ⟨(some 20), .un .not (.t 19), (some (15, false)), [], []⟩,
 ⟨(some 21), .pick (.t 15) (.c (.bool true)) (.t 20), none, [], []⟩,
 ⟨(some 22), .mv (.t 21), none, [], []⟩,
 ⟨(some 23), .faddr 12 (.t 1), (some (22, false)), [], []⟩,
 ⟨(some 24), .load none (.t 23), (some (22, false)), [], []⟩,
 ⟨(some 25), .len (.t 24), (some (22, false)), [], []⟩,
 ⟨(some 26), .faddr 11 (.t 1), (some (22, false)), [], []⟩,
 ⟨(some 27), .load none (.t 26), (some (22, false)), [], []⟩,
 ⟨(some 28), .len (.t 27), (some (22, false)), [], []⟩,
 ⟨(some 29), .bin .neq (.t 25) (.t 28), (some (22, false)), [], []⟩,
 ⟨(some 30), .pick (.t 22) (.c (.bool true)) (.t 29), none, [], []⟩,
 ⟨(some 31), .mv (.t 30), none, [], []⟩,
 ⟨(some 32), .load (some 15) (.t 1), (some (31, false)), [], []⟩,
 ⟨(some 33), .faddr 13 (.t 1), (some (31, false)), [], []⟩,
 ⟨(some 34), .load none (.t 33), (some (31, false)), [], []⟩,
 ⟨(some 35), .call 57 [(.t 32), (.t 34)], (some (31, false)), [], []⟩,
 ⟨(some 36), .un .not (.t 35), (some (31, false)), [], []⟩,
 ⟨(some 37), .pick (.t 31) (.c (.bool true)) (.t 36), none, [], []⟩,
 ⟨(some 38), .mv (.t 37), none, [], []⟩,
 ⟨(some 39), .faddr 14 (.t 1), (some (38, false)), [], []⟩,
 ⟨(some 40), .load none (.t 39), (some (38, false)), [], []⟩,
 ⟨(some 41), .len (.t 40), (some (38, false)), [], []⟩,
 ⟨(some 42), .bin .gtr (.t 41) (.c (i64 5)), (some (38, false)), [], []⟩,
 ⟨(some 43), .pick (.t 38) (.c (.bool true)) (.t 42), none, [], []⟩] [1, 43]) (.cond (.t 43) (.seq (.region false [
 ⟨(some 2), .mv (.c (i64 130)), none, [], []⟩] [2]) (.ret)) (.skip))) (.seq (.seq (.region false [
 ⟨(some 3), .mv (.c (i64 0)), none, [], []⟩] [1, 3]) (.block 0 (b32l0))) (.seq (.seq (.region false [
 ⟨(some 4), .mv (.c (i64 0)), none, [], []⟩] [1, 4]) (.block 2 (b32l1))) (.seq (.region false [
 ⟨(some 2), .mv (.c (i64 0)), none, [], []⟩] [2]) (.ret)))))
def a32 : AFn := ⟨1, [.t 2], b32, false⟩
def n32 : Ann := ⟨[[1], [1, 43], [2], [1, 3], [1, 3, 48], [1, 3, 78], [2], [1, 3], [1, 4], [1, 4, 83], [1, 4, 92], [2], [1, 4], [2]], [⟨[], [1, 3], [16, 112, 192, 304, 560, 1456]⟩, ⟨[], [1, 4], [16, 112, 192, 304, 560, 912, 1056, 1216]⟩], [], [], [], false, []⟩

/-- almadraba/almadrabaref13.within -/
def b33 : AC :=
 .seq (.region false [
 ⟨(some 6), .mv (.c (.bool false)), none, [], []⟩] [0, 1, 2]) (.seq (.region false [
 ⟨(some 7), .mv (.t 0), none, [], []⟩,
 ⟨(some 8), .mv (.t 1), none, [], []⟩,
 ⟨(some 9), .mv (.t 2), none, [], []⟩,
 ⟨(some 10), .call 18 [(.t 7), (.t 8), (.t 9)], none, [], []⟩,
 ⟨(some 6), .mv (.t 10), none, [], []⟩] [6]) (.ret))
def a33 : AFn := ⟨3, [.t 6], b33, false⟩
def n33 : Ann := ⟨[[0, 1, 2], [6]], [], [], [], [], false, [(6, 160)]⟩

/-- almadraba/almadrabalaw13.Example -/
def b34 : AC :=
 .seq (.region false [
 ⟨(some 0), .alloc [(i64 0), (i64 0), (i64 0), (i64 0), (.sl .full 2 []), (.sl .full 2 []), (.sl .full 5 []), (i64 0), (i64 0), (.sl .full 2 []), (.sl .full 2 []), (.sl .full 4 []), (.sl .full 1 []), (.sl .full 1 []), (.sl .full 2 [])], none, [], []⟩] [0]) (.seq (.region false [
 ⟨(some 4), .call 38 [(.c (i64 2)), (.c (i64 4))], none, [], []⟩,
 ⟨(some 5), .call 38 [(.c (i64 1)), (.c (i64 3))], none, [], []⟩,
 ⟨(some 6), .call 38 [(.c (i64 2)), (.c (i64 3))], none, [], []⟩,
 ⟨(some 7), .call 38 [(.c (i64 1)), (.c (i64 4))], none, [], []⟩,
 ⟨(some 8), .lit [(i64 0), (i64 0)] 2 [(0, (.t 6)), (1, (.t 7))], none, [], []⟩,
 ⟨(some 9), .build [(i64 0), (i64 0)] [(0, 1, (.c (i64 6))), (1, 1, (.c (i64 0)))], none, [], []⟩,
 ⟨(some 10), .build [(i64 0), (i64 0)] [(0, 1, (.c (i64 5))), (1, 1, (.c (i64 1)))], none, [], []⟩,
 ⟨(some 11), .build [(i64 0), (i64 0)] [(0, 1, (.c (i64 4))), (1, 1, (.c (i64 0)))], none, [], []⟩,
 ⟨(some 12), .lit [(i64 0), (i64 0)] 3 [(0, (.t 9)), (1, (.t 10)), (2, (.t 11))], none, [], []⟩,
 ⟨(some 13), .build [(i64 0), (i64 0), (i64 0), (i64 0), (i64 0)] [(0, 1, (.c (i64 2))), (1, 1, (.c (i64 1))), (2, 1, (.c (i64 3))), (3, 1, (.c (i64 8))), (4, 1, (.c (i64 9)))], none, [], []⟩,
 ⟨(some 14), .build [(i64 0), (i64 0), (i64 0), (i64 0), (i64 0)] [(0, 1, (.c (i64 1))), (1, 1, (.c (i64 2))), (2, 1, (.c (i64 2))), (3, 1, (.c (i64 6))), (4, 1, (.c (i64 6)))], none, [], []⟩,
 ⟨(some 15), .lit [(i64 0), (i64 0), (i64 0), (i64 0), (i64 0)] 2 [(0, (.t 13)), (1, (.t 14))], none, [], []⟩,
 ⟨(some 16), .build [(i64 0), (i64 0), (i64 0), (i64 0), (.sl .full 2 []), (.sl .full 2 []), (.sl .full 5 [])] [(0, 2, (.t 4)), (2, 2, (.t 5)), (4, 1, (.t 8)), (5, 1, (.t 12)), (6, 1, (.t 15))], none, [], []⟩,
 ⟨(some 1), .alloc [(i64 0), (i64 0), (i64 0), (i64 0), (.sl .full 2 []), (.sl .full 2 []), (.sl .full 5 [])], none, [], []⟩,
 ⟨none, .store 7 (.t 1) (.t 16), none, [], []⟩] [0, 1]) (.seq (.region false [
 ⟨(some 18), .call 59 [], none, [], []⟩,
 ⟨(some 17), .mv (.t 18), none, [], []⟩,
 ⟨(some 19), .ext (.t 17) 0, none, [], []⟩,
 ⟨(some 20), .ext (.t 17) 1, none, [], []⟩,
 ⟨(some 2), .alloc [(i64 0), (i64 0), (.sl .full 2 []), (.sl .full 2 [])], none, [], []⟩,
 ⟨(some 3), .alloc [(i64 0), (i64 0), (.sl .full 2 []), (.sl .full 2 [])], none, [], []⟩,
 ⟨none, .store 4 (.t 2) (.t 19), none, [], []⟩,
 ⟨none, .store 4 (.t 3) (.t 20), none, [], []⟩] [0, 1, 2]) (.seq (.region true (spl [
 ⟨(some 21), .load (some 7) (.t 1), none, [], []⟩,
 ⟨(some 22), .load (some 4) (.t 2), none, [], []⟩,
 ⟨(some 23), .call 38 [(.c (i64 0)), (.c (i64 1))], none, [], []⟩,
 ⟨(some 24), .call 38 [(.c (i64 0)), (.c (i64 0))], none, [2], []⟩,
 ⟨(some 25), .build [(i64 0), (i64 0), (i64 0), (i64 0)] [(0, 2, (.t 23)), (2, 2, (.t 24))], none, [3, 2], []⟩,
 ⟨(some 26), .call 38 [(.c (i64 2)), (.c (i64 4))], none, [3, 2], []⟩,
 ⟨(some 27), .call 38 [(.c (i64 1)), (.c (i64 3))], none, [5, 3, 2], []⟩,
 ⟨(some 28), .build [(i64 0), (i64 0), (i64 0), (i64 0)] [(0, 2, (.t 26)), (2, 2, (.t 27))], none, [6, 5, 3, 2], []⟩,
 ⟨(some 29), .lit [(i64 0), (i64 0), (i64 0), (i64 0)] 2 [(0, (.t 25)), (1, (.t 28))], none, [4, 7, 6, 5, 3, 2], []⟩,
 ⟨(some 30), .lit [(i64 0)] 2 [(0, (.c (i64 0))), (1, (.c (i64 1)))], none, [], []⟩,
 ⟨(some 31), .lit [(i64 0)] 1 [(0, (.c (i64 0)))], none, [], []⟩,
 ⟨(some 32), .lit [(.sl .full 1 [])] 2 [(0, (.t 30)), (1, (.t 31))], none, [9, 10], []⟩,
 ⟨(some 33), .lit [(i64 0)] 2 [(0, (.c (i64 0))), (1, (.c (i64 1)))], none, [], []⟩,
 ⟨(some 34), .call 38 [(.c (i64 60)), (.c (i64 80))], none, [6, 5, 3, 2], []⟩,
 ⟨(some 35), .call 38 [(.c (i64 90)), (.c (i64 120))], none, [13, 6, 5, 3, 2], []⟩,
 ⟨(some 36), .call 38 [(.c (i64 100)), (.c (i64 121))], none, [14, 13, 6, 5, 3, 2], []⟩,
 ⟨(some 37), .lit [(i64 0), (i64 0)] 3 [(0, (.t 34)), (1, (.t 35)), (2, (.t 36))], none, [15, 14, 13, 6, 5, 3, 2], []⟩] [
 ⟨(some 38), .build [(i64 0), (i64 0), (i64 0), (i64 0), (.sl .full 2 []), (.sl .full 2 []), (.sl .full 5 []), (i64 0), (i64 0), (.sl .full 2 []), (.sl .full 2 []), (.sl .full 4 []), (.sl .full 1 []), (.sl .full 1 []), (.sl .full 2 [])] [(0, 7, (.t 21)), (7, 4, (.t 22)), (11, 1, (.t 29)), (12, 1, (.t 32)), (13, 1, (.t 33)), (14, 1, (.t 37))], none, [0, 1, 8, 11, 12, 16, 4, 7, 9, 10, 15, 14, 13, 6, 5, 3, 2], []⟩,
 ⟨none, .store 15 (.t 0) (.t 38), none, [17, 0, 1, 8, 11, 12, 16, 4, 7, 9, 10, 15, 14, 13, 6, 5, 3, 2], []⟩]) [0]) (.ret))))
def a34 : AFn := ⟨0, [.cell 0 (some 15)], b34, false⟩
def n34 : Ann := ⟨[[0], [0, 1], [0, 1, 2], [0]], [], [], [], [], false, [(20, 288), (19, 288), (17, 288)]⟩

/-- almadraba/skies.Worth -/
def b35 : AC :=
 .seq (.region false [
 ⟨(some 3), .box (.t 0), none, [], []⟩,
 ⟨(some 6), .mv (.c (i64 0)), none, [], []⟩,
 ⟨(some 7), .mv (.c (i64 0)), none, [], []⟩] [1, 2, 3]) (.seq (.region true (spl [
 ⟨(some 11), .load (some 15) (.t 3), none, [], []⟩,
 ⟨(some 12), .load (some 15) (.t 3), none, [], []⟩,
 ⟨(some 13), .mv (.t 1), none, [], []⟩,
 ⟨(some 14), .call 47 [(.t 12), (.t 13)], none, [1, 2], []⟩,
 ⟨(some 15), .mv (.t 14), none, [3, 1, 2], []⟩,
 ⟨(some 16), .load (some 15) (.t 3), (some (15, true)), [4, 3, 1, 2], []⟩,
 ⟨(some 17), .mv (.t 2), (some (15, true)), [4, 3, 1, 2], []⟩,
 ⟨(some 18), .call 44 [(.t 16), (.t 17)], (some (15, true)), [5, 6, 4, 3, 1, 2], []⟩,
 ⟨(some 19), .pick (.t 15) (.t 18) (.c (.bool false)), none, [7, 5, 6, 4, 3, 1, 2], []⟩,
 ⟨(some 20), .call 43 [(.t 11), (.t 19)], none, [0, 8, 7, 5, 6, 4, 3, 1, 2], []⟩,
 ⟨(some 10), .mv (.t 20), none, [9, 0, 8, 7, 5, 6, 4, 3, 1, 2], []⟩,
 ⟨(some 21), .ext (.t 10) 0, none, [10, 9, 0, 8, 7, 5, 6, 4, 3, 1, 2], []⟩,
 ⟨(some 22), .ext (.t 10) 1, none, [10, 9, 0, 8, 7, 5, 6, 4, 3, 1, 2], []⟩,
 ⟨(some 8), .mv (.t 21), none, [11, 10, 9, 0, 8, 7, 5, 6, 4, 3, 1, 2], []⟩] [
 ⟨(some 9), .mv (.t 22), none, [12, 13, 11, 10, 9, 0, 8, 7, 5, 6, 4, 3, 1, 2], []⟩]) [1, 2, 8, 9]) (.seq (.seq (.region false [
 ⟨(some 23), .mv (.t 9), none, [], []⟩,
 ⟨(some 24), .bin .neq (.t 23) (.c (i64 0)), none, [], []⟩] [1, 2, 8, 9, 24]) (.cond (.t 24) (.seq (.region false [
 ⟨(some 25), .mv (.t 9), none, [], []⟩,
 ⟨(some 6), .mv (.c (i64 0)), none, [], []⟩,
 ⟨(some 7), .mv (.t 25), none, [], []⟩] [6, 7]) (.ret)) (.skip))) (.seq (.region false [
 ⟨(some 26), .mv (.t 8), none, [], []⟩,
 ⟨(some 27), .mv (.t 1), none, [], []⟩,
 ⟨(some 28), .mv (.t 2), none, [], []⟩,
 ⟨(some 29), .call 60 [(.t 26), (.t 27), (.t 28)], none, [], []⟩,
 ⟨(some 6), .mv (.t 29), none, [], []⟩,
 ⟨(some 7), .mv (.c (i64 0)), none, [], []⟩] [6, 7]) (.ret))))
def a35 : AFn := ⟨3, [.t 6, .t 7], b35, false⟩
def n35 : Ann := ⟨[[1, 2, 3], [1, 2, 8, 9], [1, 2, 8, 9, 24], [6, 7], [6, 7]], [], [], [], [], false, [(6, 464), (26, 320), (7, 320), (25, 320), (23, 320), (9, 320), (8, 320), (22, 320), (21, 320), (10, 320), (15, 224)]⟩

/-- almadraba/skies.Best -/
def b36 : AC :=
 .seq (.region false [
 ⟨(some 1), .box (.t 0), none, [], []⟩,
 ⟨(some 2), .mv (.c (i64 0)), none, [], []⟩,
 ⟨(some 3), .mv (.c (i64 0)), none, [], []⟩] [1]) (.seq (.region false [
 ⟨(some 7), .load (some 15) (.t 1), none, [], []⟩,
 ⟨(some 8), .call 43 [(.t 7), (.c (.bool true))], none, [], []⟩,
 ⟨(some 6), .mv (.t 8), none, [], []⟩,
 ⟨(some 9), .ext (.t 6) 0, none, [], []⟩,
 ⟨(some 10), .ext (.t 6) 1, none, [], []⟩,
 ⟨(some 4), .mv (.t 9), none, [], []⟩,
 ⟨(some 5), .mv (.t 10), none, [], []⟩] [1, 4, 5]) (.seq (.seq (.region false [
 ⟨(some 11), .mv (.t 5), none, [], []⟩,
 ⟨(some 12), .bin .neq (.t 11) (.c (i64 0)), none, [], []⟩] [1, 4, 5, 12]) (.cond (.t 12) (.seq (.region false [
 ⟨(some 13), .mv (.t 5), none, [], []⟩,
 ⟨(some 2), .mv (.c (i64 0)), none, [], []⟩,
 ⟨(some 3), .mv (.t 13), none, [], []⟩] [2, 3]) (.ret)) (.skip))) (.seq (.region false [
 ⟨(some 14), .mv (.t 4), none, [], []⟩,
 ⟨(some 15), .faddr 13 (.t 1), none, [], []⟩,
 ⟨(some 16), .load none (.t 15), none, [], []⟩,
 ⟨(some 17), .call 61 [(.t 14), (.c (i64 0)), (.t 16)], none, [], []⟩,
 ⟨(some 2), .mv (.t 17), none, [], []⟩,
 ⟨(some 3), .mv (.c (i64 0)), none, [], []⟩] [2, 3]) (.ret))))
def a36 : AFn := ⟨1, [.t 2, .t 3], b36, false⟩
def n36 : Ann := ⟨[[1], [1, 4, 5], [1, 4, 5, 12], [2, 3], [2, 3]], [], [], [], [], false, [(2, 272), (14, 128), (3, 128), (13, 128), (11, 128), (5, 128), (4, 128), (10, 128), (9, 128), (6, 128)]⟩

/-- almadraba/skies.Regret -/
def b37l0 : AC :=
 .loop [1, 4, 6, 8, 25, 26, 27] [16, 64, 96, 208, 384] (.seq (.region false [
 ⟨(some 28), .bin .lss (.t 27) (.t 26), none, [], []⟩] [1, 4, 6, 8, 25, 26, 27, 28]) (.seq (.cond (.t 28) (.skip) (.exit 2)) (.seq (.block 3 (.seq (.region false [
 ⟨(some 29), .mv (.t 27), none, [], []⟩,
 ⟨(some 30), .idxs 1 (.t 25) (.t 27), none, [], []⟩,
 ⟨(some 31), .load none (.t 30), none, [], []⟩,
 ⟨(some 9), .mv (.t 29), none, [], []⟩,
 ⟨(some 10), .mv (.t 31), none, [], []⟩] [1, 4, 6, 8, 9, 10, 25, 26, 27]) (.seq (.region false [
 ⟨(some 32), .load none (.t 4), none, [], []⟩,
 ⟨(some 33), .mv (.t 9), none, [], []⟩,
 ⟨(some 34), .mv (.t 10), none, [], []⟩,
 ⟨(some 35), .call 49 [(.t 32), (.t 33), (.t 34)], none, [], []⟩] [1, 4, 6, 8, 9, 25, 26, 27, 35]) (.cond (.t 35) (.region true (spl [
 ⟨(some 36), .load none (.t 6), none, [], []⟩,
 ⟨(some 37), .faddr 14 (.t 1), none, [], []⟩,
 ⟨(some 38), .load none (.t 37), none, [1], []⟩,
 ⟨(some 39), .mv (.t 9), none, [], []⟩,
 ⟨(some 40), .idxs 2 (.t 38) (.t 39), none, [2, 3, 1], []⟩,
 ⟨(some 41), .faddr 0 (.t 40), none, [4, 2, 3, 1], []⟩,
 ⟨(some 42), .load none (.t 41), none, [5, 4, 2, 3, 1], []⟩,
 ⟨(some 43), .mv (.t 8), none, [], []⟩,
 ⟨(some 44), .bin .sub (.t 42) (.t 43), none, [6, 7, 5, 4, 2, 3, 1], []⟩] [
 ⟨(some 45), .mm true (.t 36) (.t 44), none, [0, 8, 6, 7, 5, 4, 2, 3, 1], []⟩,
 ⟨none, .store 1 (.t 6) (.t 45), none, [9, 0, 8, 6, 7, 5, 4, 2, 3, 1], []⟩]) [1, 4, 6, 8, 25, 26, 27]) (.skip))))) (.region false [
 ⟨(some 46), .bin .add (.t 27) (.c (i64 1)), none, [], []⟩,
 ⟨(some 27), .mv (.t 46), none, [], []⟩] [1, 4, 6, 8, 25, 26, 27]))))
/-- almadraba/skies.Regret -/
def b37l1 : AC :=
 .region false [
 ⟨(some 7), .mv (.t 21), none, [], []⟩] [1, 4, 6, 7]
/-- almadraba/skies.Regret -/
def b37l2 : AC :=
 .block 1 (.seq (.region false [
 ⟨(some 22), .load none (.t 4), none, [], []⟩,
 ⟨(some 23), .mv (.t 7), none, [], []⟩,
 ⟨(some 24), .call 62 [(.t 22), (.t 23)], none, [], []⟩,
 ⟨(some 8), .mv (.t 24), none, [], []⟩] [1, 4, 6, 7, 8]) (.seq (.region false [
 ⟨(some 25), .mv (.t 7), none, [], []⟩,
 ⟨(some 26), .len (.t 25), none, [], []⟩,
 ⟨(some 27), .mv (.c (i64 0)), none, [], []⟩] [1, 4, 6, 8, 25, 26, 27]) (.block 2 (b37l0))))
/-- almadraba/skies.Regret -/
def b37 : AC :=
 .seq (.region false [
 ⟨(some 1), .box (.t 0), none, [], []⟩,
 ⟨(some 2), .mv (.c (i64 0)), none, [], []⟩,
 ⟨(some 3), .mv (.c (i64 0)), none, [], []⟩] [1]) (.seq (.region false [
 ⟨(some 12), .load (some 15) (.t 1), none, [], []⟩,
 ⟨(some 13), .call 43 [(.t 12), (.c (.bool true))], none, [], []⟩,
 ⟨(some 11), .mv (.t 13), none, [], []⟩,
 ⟨(some 14), .ext (.t 11) 0, none, [], []⟩,
 ⟨(some 15), .ext (.t 11) 1, none, [], []⟩,
 ⟨(some 4), .alloc [.nilp], none, [], []⟩,
 ⟨none, .store 1 (.t 4) (.t 14), none, [], []⟩,
 ⟨(some 5), .mv (.t 15), none, [], []⟩] [1, 4, 5]) (.seq (.seq (.region false [
 ⟨(some 16), .mv (.t 5), none, [], []⟩,
 ⟨(some 17), .bin .neq (.t 16) (.c (i64 0)), none, [], []⟩] [1, 4, 5, 17]) (.cond (.t 17) (.seq (.region false [
 ⟨(some 18), .mv (.t 5), none, [], []⟩,
 ⟨(some 2), .mv (.c (i64 0)), none, [], []⟩,
 ⟨(some 3), .mv (.t 18), none, [], []⟩] [2, 3]) (.ret)) (.skip))) (.seq (.region false [
 ⟨(some 6), .alloc [(i64 0)], none, [], []⟩,
 ⟨none, .store 1 (.t 6) (.c (i64 0)), none, [], []⟩] [1, 4, 6]) (.seq (.seq (.region false [
 ⟨(some 19), .load none (.t 4), none, [], []⟩,
 ⟨(some 20), .mkfn 48 [(.t 19)] [], none, [], []⟩] [1, 4, 6, 20]) (.block 0 (.rng 592 [21] b37l1 b37l2 (.t 20)))) (.seq (.region false [
 ⟨(some 47), .load none (.t 6), none, [], []⟩,
 ⟨(some 2), .mv (.t 47), none, [], []⟩,
 ⟨(some 3), .mv (.c (i64 0)), none, [], []⟩] [2, 3]) (.ret))))))
def a37 : AFn := ⟨1, [.t 2, .t 3], b37, false⟩
def n37 : Ann := ⟨[[1], [1, 4, 5], [1, 4, 5, 17], [2, 3], [1, 4, 6], [1, 4, 6, 20], [1, 4, 6, 7], [1, 4, 6, 7, 8], [1, 4, 6, 8, 25, 26, 27], [1, 4, 6, 8, 25, 26, 27, 28], [1, 4, 6, 8, 9, 10, 25, 26, 27], [1, 4, 6, 8, 9, 25, 26, 27, 35], [1, 4, 6, 8, 25, 26, 27], [1, 4, 6, 8, 25, 26, 27], [2, 3]], [⟨[], [1, 4, 6, 8, 25, 26, 27], [16, 64, 96, 208, 384]⟩], [592], [], [], false, [(43, 384), (8, 384), (3, 208), (18, 208), (16, 208), (5, 208), (15, 208), (14, 208), (11, 208)]⟩

/-- almadraba/almadrabalaw13.span -/
def b38 : AC :=
 .seq (.region false [
 ⟨(some 4), .alloc [(i64 0), (i64 0)], none, [], []⟩] [0, 1, 4]) (.seq (.region false [
 ⟨(some 5), .mv (.t 0), none, [], []⟩,
 ⟨(some 6), .mv (.t 1), none, [], []⟩,
 ⟨(some 7), .build [(i64 0), (i64 0)] [(0, 1, (.t 5)), (1, 1, (.t 6))], none, [], []⟩,
 ⟨none, .store 2 (.t 4) (.t 7), none, [], []⟩] [4]) (.ret))
def a38 : AFn := ⟨2, [.cell 4 (some 2)], b38, false⟩
def n38 : Ann := ⟨[[0, 1, 4], [4]], [], [], [], [], false, []⟩

/-- almadraba/almadrabaref02.Copy -/
def b39 : AC :=
 .seq (.region false [
 ⟨(some 1), .box (.t 0), none, [], []⟩,
 ⟨(some 2), .alloc [(i64 0), (i64 0), (i64 0), (i64 0), (.sl .full 2 []), (.sl .full 2 []), (.sl .full 5 [])], none, [], []⟩] [1, 2]) (.seq (.region false [
 ⟨(some 4), .load (some 7) (.t 1), none, [], []⟩,
 ⟨(some 3), .alloc [(i64 0), (i64 0), (i64 0), (i64 0), (.sl .full 2 []), (.sl .full 2 []), (.sl .full 5 [])], none, [], []⟩,
 ⟨none, .store 7 (.t 3) (.t 4), none, [], []⟩] [1, 2, 3]) (.seq (.region false [
 ⟨(some 5), .lit [(i64 0), (i64 0)] 0 [], none, [], []⟩,
 ⟨(some 6), .faddr 4 (.t 1), none, [], []⟩,
 ⟨(some 7), .load none (.t 6), none, [], []⟩,
 ⟨(some 8), .appm 2 16 (.t 5) (.t 7), none, [], []⟩,
 ⟨(some 9), .faddr 4 (.t 3), none, [], []⟩,
 ⟨none, .store 1 (.t 9) (.t 8), none, [], []⟩] [1, 2, 3]) (.seq (.region false [
 ⟨(some 10), .lit [(i64 0), (i64 0)] 0 [], none, [], []⟩,
 ⟨(some 11), .faddr 5 (.t 1), none, [], []⟩,
 ⟨(some 12), .load none (.t 11), none, [], []⟩,
 ⟨(some 13), .appm 2 16 (.t 10) (.t 12), none, [], []⟩,
 ⟨(some 14), .faddr 5 (.t 3), none, [], []⟩,
 ⟨none, .store 1 (.t 14) (.t 13), none, [], []⟩] [1, 2, 3]) (.seq (.region false [
 ⟨(some 15), .lit [(i64 0), (i64 0), (i64 0), (i64 0), (i64 0)] 0 [], none, [], []⟩,
 ⟨(some 16), .faddr 6 (.t 1), none, [], []⟩,
 ⟨(some 17), .load none (.t 16), none, [], []⟩,
 ⟨(some 18), .appm 5 40 (.t 15) (.t 17), none, [], []⟩,
 ⟨(some 19), .faddr 6 (.t 3), none, [], []⟩,
 ⟨none, .store 1 (.t 19) (.t 18), none, [], []⟩] [2, 3]) (.seq (.region false [
 ⟨(some 20), .load (some 7) (.t 3), none, [], []⟩,
 ⟨none, .store 7 (.t 2) (.t 20), none, [], []⟩] [2]) (.ret))))))
def a39 : AFn := ⟨1, [.cell 2 (some 7)], b39, true⟩
def n39 : Ann := ⟨[[1, 2], [1, 2, 3], [1, 2, 3], [1, 2, 3], [2, 3], [2]], [], [], [], [8, 13, 18], true, []⟩

/-- almadraba/almadrabaref05.Copy -/
def b40 : AC :=
 .seq (.region false [
 ⟨(some 1), .box (.t 0), none, [], []⟩,
 ⟨(some 2), .alloc [(i64 0), (i64 0), (.sl .full 2 []), (.sl .full 2 [])], none, [], []⟩] [1, 2]) (.seq (.region true (spl [
 ⟨(some 3), .faddr 0 (.t 1), none, [], []⟩,
 ⟨(some 4), .load (some 2) (.t 3), none, [0], []⟩,
 ⟨(some 5), .lit [(i64 0), (i64 0)] 0 [], none, [], []⟩,
 ⟨(some 6), .faddr 2 (.t 1), none, [], []⟩,
 ⟨(some 7), .load none (.t 6), none, [3], []⟩,
 ⟨(some 8), .appm 2 16 (.t 5) (.t 7), none, [2, 4, 3], []⟩,
 ⟨(some 9), .lit [(i64 0), (i64 0)] 0 [], none, [], []⟩,
 ⟨(some 10), .faddr 3 (.t 1), none, [], []⟩,
 ⟨(some 11), .load none (.t 10), none, [7], []⟩,
 ⟨(some 12), .appm 2 16 (.t 9) (.t 11), none, [6, 8, 5, 7, 2, 4, 3], []⟩] [
 ⟨(some 13), .build [(i64 0), (i64 0), (.sl .full 2 []), (.sl .full 2 [])] [(0, 2, (.t 4)), (2, 1, (.t 8)), (3, 1, (.t 12))], none, [1, 9, 0, 6, 8, 5, 7, 2, 4, 3], []⟩,
 ⟨none, .store 4 (.t 2) (.t 13), none, [10, 1, 9, 0, 6, 8, 5, 7, 2, 4, 3], []⟩]) [2]) (.ret))
def a40 : AFn := ⟨1, [.cell 2 (some 4)], b40, true⟩
def n40 : Ann := ⟨[[1, 2], [2]], [], [], [], [8, 12], true, []⟩

/-- almadraba/almadrabaref01.In -/
def b41l0 : AC :=
 .loop [0, 1, 5] [] (.seq (.seq (.region false [
 ⟨(some 6), .mv (.t 5), none, [], []⟩,
 ⟨(some 7), .mv (.t 0), none, [], []⟩,
 ⟨(some 8), .len (.t 7), none, [], []⟩,
 ⟨(some 9), .bin .lss (.t 6) (.t 8), none, [], []⟩] [0, 1, 5, 9]) (.cond (.t 9) (.skip) (.exit 0))) (.seq (.block 1 (.seq (.region false [
 ⟨(some 12), .mv (.t 0), none, [], []⟩,
 ⟨(some 13), .mv (.t 5), none, [], []⟩,
 ⟨(some 14), .idxs 1 (.t 12) (.t 13), none, [], []⟩,
 ⟨(some 15), .load none (.t 14), none, [], []⟩,
 ⟨(some 16), .mv (.t 1), none, [], []⟩,
 ⟨(some 17), .bin .eql (.t 15) (.t 16), none, [], []⟩] [0, 1, 5, 17]) (.cond (.t 17) (.seq (.region false [
 ⟨(some 4), .mv (.c (.bool true)), none, [], []⟩] [4]) (.ret)) (.skip)))) (.region false [
 ⟨(some 10), .mv (.t 5), none, [], []⟩,
 ⟨(some 11), .bin .add (.t 10) (.c (i64 1)), none, [], []⟩,
 ⟨(some 5), .mv (.t 11), none, [], []⟩] [0, 1, 5])))
/-- almadraba/almadrabaref01.In -/
def b41 : AC :=
 .seq (.region false [
 ⟨(some 4), .mv (.c (.bool false)), none, [], []⟩] [0, 1]) (.seq (.seq (.region false [
 ⟨(some 5), .mv (.c (i64 0)), none, [], []⟩] [0, 1, 5]) (.block 0 (b41l0))) (.seq (.region false [
 ⟨(some 4), .mv (.c (.bool false)), none, [], []⟩] [4]) (.ret)))
def a41 : AFn := ⟨2, [.t 4], b41, false⟩
def n41 : Ann := ⟨[[0, 1], [0, 1, 5], [0, 1, 5, 9], [0, 1, 5, 17], [4], [0, 1, 5], [4]], [⟨[], [0, 1, 5], []⟩], [], [], [], false, []⟩

/-- almadraba/almadrabalaw13.best -/
def b42 : AC :=
 .seq (.region false [
 ⟨(some 1), .box (.t 0), none, [], []⟩,
 ⟨(some 2), .mv (.c (i64 0)), none, [], []⟩] [1]) (.seq (.region false [
 ⟨(some 6), .load (some 15) (.t 1), none, [], []⟩,
 ⟨(some 7), .call 36 [(.t 6)], none, [], []⟩,
 ⟨(some 5), .mv (.t 7), none, [], []⟩,
 ⟨(some 8), .ext (.t 5) 0, none, [], []⟩,
 ⟨(some 9), .ext (.t 5) 1, none, [], []⟩,
 ⟨(some 3), .mv (.t 8), none, [], []⟩,
 ⟨(some 4), .mv (.t 9), none, [], []⟩] [3, 4]) (.seq (.seq (.region false [
 ⟨(some 10), .mv (.t 4), none, [], []⟩,
 ⟨(some 11), .bin .neq (.t 10) (.c (i64 0)), none, [], []⟩,
 ⟨(some 12), .mv (.t 11), none, [], []⟩,
 ⟨(some 13), .mv (.t 3), (some (12, false)), [], []⟩,
 ⟨(some 14), .bin .lss (.t 13) (.c (i64 0)), (some (12, false)), [], []⟩,
 ⟨(some 15), .pick (.t 12) (.c (.bool true)) (.t 14), none, [], []⟩,
 ⟨(some 16), .mv (.t 15), none, [], []⟩,
 ⟨(some 17), .mv (.t 3), (some (16, false)), [], []⟩,
 ⟨(some 18), .bin .gtr (.t 17) (.c (i64 2000)), (some (16, false)), [], []⟩,
 ⟨(some 19), .pick (.t 16) (.c (.bool true)) (.t 18), none, [], []⟩] [3, 19]) (.cond (.t 19) (.seq (.region false [
 ⟨(some 2), .mv (.c (i64 (-1))), none, [], []⟩] [2]) (.ret)) (.skip))) (.seq (.region false [
 ⟨(some 20), .mv (.t 3), none, [], []⟩,
 ⟨(some 2), .mv (.t 20), none, [], []⟩] [2]) (.ret))))
def a42 : AFn := ⟨1, [.t 2], b42, false⟩
def n42 : Ann := ⟨[[1], [3, 4], [3, 19], [2], [2]], [], [], [], [], false, [(2, 112), (20, 112), (17, 112), (13, 112), (10, 112), (4, 112), (3, 112), (9, 112), (8, 112), (5, 112)]⟩

/-- almadraba/skies.open -/
def b43l0 : AC :=
 .loop [2, 7, 27, 28, 29] [32, 192, 208, 272, 400, 1072] (.seq (.region false [
 ⟨(some 30), .bin .lss (.t 29) (.t 28), none, [], []⟩] [2, 7, 27, 28, 29, 30]) (.seq (.cond (.t 30) (.skip) (.exit 0)) (.seq (.block 1 (.seq (.region false [
 ⟨(some 31), .mv (.t 29), none, [], []⟩,
 ⟨(some 32), .idxs 4 (.t 27) (.t 29), none, [], []⟩,
 ⟨(some 33), .load (some 4) (.t 32), none, [], []⟩,
 ⟨(some 9), .alloc [(i64 0), (i64 0), (i64 0), (i64 0)], none, [], []⟩,
 ⟨(some 8), .mv (.t 31), none, [], []⟩,
 ⟨none, .store 4 (.t 9) (.t 33), none, [], []⟩] [2, 7, 8, 9, 27, 28, 29]) (.seq (.region false [
 ⟨(some 34), .faddr 0 (.t 2), none, [], []⟩,
 ⟨(some 35), .load (some 7) (.t 34), none, [], []⟩,
 ⟨(some 10), .alloc [(i64 0), (i64 0), (i64 0), (i64 0), (.sl .full 2 []), (.sl .full 2 []), (.sl .full 5 [])], none, [], []⟩,
 ⟨none, .store 7 (.t 10) (.t 35), none, [], []⟩] [2, 7, 8, 9, 10, 27, 28, 29]) (.seq (.region true (spl [
 ⟨(some 36), .faddr 0 (.t 9), none, [], []⟩,
 ⟨(some 37), .load (some 2) (.t 36), none, [0], []⟩,
 ⟨(some 38), .faddr 2 (.t 9), none, [], [160]⟩,
 ⟨(some 39), .load (some 2) (.t 38), none, [2], [160]⟩,
 ⟨(some 40), .faddr 0 (.t 10), none, [1, 0], []⟩,
 ⟨none, .store 2 (.t 40) (.t 37), none, [4, 1, 0], []⟩] [
 ⟨(some 41), .faddr 2 (.t 10), none, [3, 5, 2, 4, 1, 0], []⟩,
 ⟨none, .store 2 (.t 41) (.t 39), none, [6, 3, 5, 2, 4, 1, 0], []⟩]) [2, 7, 8, 10, 27, 28, 29]) (.region true (spl [
 ⟨(some 43), .mv (.t 7), none, [], []⟩,
 ⟨(some 44), .mv (.t 8), none, [], []⟩,
 ⟨(some 45), .load (some 7) (.t 10), none, [], []⟩,
 ⟨(some 46), .call 64 [(.t 45)], none, [2], []⟩,
 ⟨(some 42), .mv (.t 46), none, [3, 2], []⟩,
 ⟨(some 47), .ext (.t 42) 0, none, [4, 3, 2], []⟩,
 ⟨(some 48), .ext (.t 42) 1, none, [4, 3, 2], [400]⟩,
 ⟨(some 49), .nilck (.t 43), none, [0], []⟩,
 ⟨(some 50), .faddr 15 (.t 49), none, [7, 0], []⟩,
 ⟨(some 51), .idxa 4 1 (.t 50) (.t 44), none, [8, 1, 5, 7, 0, 4, 3, 2], []⟩,
 ⟨none, .store 1 (.t 51) (.t 47), none, [9, 8, 1, 5, 7, 0, 4, 3, 2], []⟩] [
]) [2, 7, 27, 28, 29]))))) (.region false [
 ⟨(some 52), .bin .add (.t 29) (.c (i64 1)), none, [], []⟩,
 ⟨(some 29), .mv (.t 52), none, [], []⟩] [2, 7, 27, 28, 29]))))
/-- almadraba/skies.open -/
def b43l1 : AC :=
 .loop [2, 7, 54, 55, 56] [32, 144, 160, 272, 400, 736] (.seq (.region false [
 ⟨(some 57), .bin .lss (.t 56) (.t 55), none, [], []⟩] [2, 7, 54, 55, 56, 57]) (.seq (.cond (.t 57) (.skip) (.exit 2)) (.seq (.block 3 (.seq (.region false [
 ⟨(some 58), .mv (.t 56), none, [], []⟩,
 ⟨(some 59), .idxs 2 (.t 54) (.t 56), none, [], []⟩,
 ⟨(some 60), .load (some 2) (.t 59), none, [], []⟩,
 ⟨(some 12), .alloc [(i64 0), (i64 0)], none, [], []⟩,
 ⟨(some 11), .mv (.t 58), none, [], []⟩,
 ⟨none, .store 2 (.t 12) (.t 60), none, [], []⟩] [2, 7, 11, 12, 54, 55, 56]) (.seq (.region false [
 ⟨(some 61), .faddr 7 (.t 2), none, [], []⟩,
 ⟨(some 62), .load (some 4) (.t 61), none, [], []⟩,
 ⟨(some 13), .alloc [(i64 0), (i64 0), (.sl .full 2 []), (.sl .full 2 [])], none, [], []⟩,
 ⟨none, .store 4 (.t 13) (.t 62), none, [], []⟩] [2, 7, 11, 12, 13, 54, 55, 56]) (.seq (.region false [
 ⟨(some 63), .load (some 2) (.t 12), none, [], []⟩,
 ⟨(some 64), .faddr 0 (.t 13), none, [], []⟩,
 ⟨none, .store 2 (.t 64) (.t 63), none, [], []⟩] [2, 7, 11, 13, 54, 55, 56]) (.seq (.region false [
 ⟨(some 66), .load (some 4) (.t 13), none, [], []⟩,
 ⟨(some 67), .call 65 [(.t 66)], none, [], []⟩,
 ⟨(some 65), .mv (.t 67), none, [], []⟩,
 ⟨(some 68), .ext (.t 65) 0, none, [], []⟩,
 ⟨(some 69), .ext (.t 65) 1, none, [], []⟩,
 ⟨(some 14), .mv (.t 68), none, [], []⟩,
 ⟨(some 15), .mv (.t 69), none, [], []⟩] [2, 7, 11, 15, 54, 55, 56]) (.seq (.region false [
 ⟨(some 70), .mv (.t 15), none, [], []⟩,
 ⟨(some 71), .bin .eql (.t 70) (.c (i64 0)), none, [], []⟩] [2, 7, 11, 54, 55, 56, 71]) (.cond (.t 71) (.region false [
 ⟨(some 72), .mv (.t 7), none, [], []⟩,
 ⟨(some 73), .mv (.t 11), none, [], []⟩,
 ⟨(some 74), .nilck (.t 72), none, [], []⟩,
 ⟨(some 75), .faddr 19 (.t 74), none, [], []⟩,
 ⟨(some 76), .idxa 5 1 (.t 75) (.t 73), none, [], []⟩,
 ⟨none, .store 1 (.t 76) (.c (i64 1)), none, [], []⟩] [2, 7, 54, 55, 56]) (.skip)))))))) (.region false [
 ⟨(some 77), .bin .add (.t 56) (.c (i64 1)), none, [], []⟩,
 ⟨(some 56), .mv (.t 77), none, [], []⟩] [2, 7, 54, 55, 56]))))
/-- almadraba/skies.open -/
def b43 : AC :=
 .seq (.region false [
 ⟨(some 2), .box (.t 0), none, [], []⟩,
 ⟨(some 4), .mv (.c .nilp), none, [], []⟩,
 ⟨(some 5), .mv (.c (i64 0)), none, [], []⟩] [1, 2]) (.seq (.seq (.region false [
 ⟨(some 16), .load (some 15) (.t 2), none, [], []⟩,
 ⟨(some 17), .call 63 [(.t 16)], none, [], []⟩,
 ⟨(some 6), .mv (.t 17), none, [], []⟩] [1, 2, 6]) (.seq (.region false [
 ⟨(some 18), .mv (.t 6), none, [], []⟩,
 ⟨(some 19), .bin .neq (.t 18) (.c (i64 0)), none, [], []⟩] [1, 2, 6, 19]) (.cond (.t 19) (.seq (.region false [
 ⟨(some 20), .mv (.t 6), none, [], []⟩,
 ⟨(some 4), .mv (.c .nilp), none, [], []⟩,
 ⟨(some 5), .mv (.t 20), none, [], []⟩] [4, 5]) (.ret)) (.skip)))) (.seq (.seq (.region false [
 ⟨(some 21), .mv (.t 1), none, [], []⟩,
 ⟨(some 22), .un .not (.t 21), none, [], []⟩] [2, 22]) (.cond (.t 22) (.seq (.region false [
 ⟨(some 4), .mv (.c .nilp), none, [], []⟩,
 ⟨(some 5), .mv (.c (i64 1)), none, [], []⟩] [4, 5]) (.ret)) (.skip))) (.seq (.region false [
 ⟨(some 23), .load (some 15) (.t 2), none, [], []⟩,
 ⟨(some 24), .build [(i64 0), (i64 0), (i64 0), (i64 0), (.sl .full 2 []), (.sl .full 2 []), (.sl .full 5 []), (i64 0), (i64 0), (.sl .full 2 []), (.sl .full 2 []), (.sl .full 4 []), (.sl .full 1 []), (.sl .full 1 []), (.sl .full 2 []), (i64 0), (i64 0), (i64 0), (i64 0), (i64 0), (i64 0), (i64 0), (i64 0), (i64 0)] [(0, 15, (.t 23))], none, [], []⟩,
 ⟨(some 25), .box (.t 24), none, [], []⟩,
 ⟨(some 7), .mv (.t 25), none, [], []⟩] [2, 7]) (.seq (.seq (.region false [
 ⟨(some 26), .faddr 11 (.t 2), none, [], []⟩,
 ⟨(some 27), .load none (.t 26), none, [], []⟩,
 ⟨(some 28), .len (.t 27), none, [], []⟩,
 ⟨(some 29), .mv (.c (i64 0)), none, [], []⟩] [2, 7, 27, 28, 29]) (.block 0 (b43l0))) (.seq (.seq (.region false [
 ⟨(some 53), .faddr 14 (.t 2), none, [], []⟩,
 ⟨(some 54), .load none (.t 53), none, [], []⟩,
 ⟨(some 55), .len (.t 54), none, [], []⟩,
 ⟨(some 56), .mv (.c (i64 0)), none, [], []⟩] [2, 7, 54, 55, 56]) (.block 2 (b43l1))) (.seq (.region false [
 ⟨(some 78), .mv (.t 7), none, [], []⟩,
 ⟨(some 4), .mv (.t 78), none, [], []⟩,
 ⟨(some 5), .mv (.c (i64 0)), none, [], []⟩] [4, 5]) (.ret)))))))
def a43 : AFn := ⟨2, [.t 4, .t 5], b43, false⟩
def n43 : Ann := ⟨[[1, 2], [1, 2, 6], [1, 2, 6, 19], [4, 5], [2, 22], [4, 5], [2, 7], [2, 7, 27, 28, 29], [2, 7, 27, 28, 29, 30], [2, 7, 8, 9, 27, 28, 29], [2, 7, 8, 9, 10, 27, 28, 29], [2, 7, 8, 10, 27, 28, 29], [2, 7, 27, 28, 29], [2, 7, 27, 28, 29], [2, 7, 54, 55, 56], [2, 7, 54, 55, 56, 57], [2, 7, 11, 12, 54, 55, 56], [2, 7, 11, 12, 13, 54, 55, 56], [2, 7, 11, 13, 54, 55, 56], [2, 7, 11, 15, 54, 55, 56], [2, 7, 11, 54, 55, 56, 71], [2, 7, 54, 55, 56], [2, 7, 54, 55, 56], [4, 5]], [⟨[], [2, 7, 27, 28, 29], [32, 192, 208, 272, 400, 1072]⟩, ⟨[], [2, 7, 54, 55, 56], [32, 144, 160, 272, 400, 736]⟩], [], [], [], false, [(4, 400), (78, 400), (72, 400), (70, 1072), (15, 1072), (14, 1072), (69, 1072), (68, 1072), (65, 1072), (48, 736), (47, 736), (42, 736), (43, 400), (7, 400), (5, 272), (20, 272), (18, 272), (6, 272)]⟩

/-- almadraba/skies.isSky -/
def b44 : AC :=
 .seq (.region false [
 ⟨(some 2), .box (.t 0), none, [], []⟩,
 ⟨(some 4), .mv (.c (.bool false)), none, [], []⟩] [1, 2]) (.seq (.region false [
 ⟨(some 5), .mv (.t 1), none, [], []⟩,
 ⟨(some 6), .faddr 11 (.t 2), none, [], []⟩,
 ⟨(some 7), .load none (.t 6), none, [], []⟩,
 ⟨(some 8), .len (.t 7), none, [], []⟩,
 ⟨(some 9), .bin .sub (.t 8) (.c (i64 1)), none, [], []⟩,
 ⟨(some 10), .call 66 [(.t 5), (.c (i64 0)), (.t 9)], none, [], []⟩,
 ⟨(some 4), .mv (.t 10), none, [], []⟩] [4]) (.ret))
def a44 : AFn := ⟨2, [.t 4], b44, false⟩
def n44 : Ann := ⟨[[1, 2], [4]], [], [], [], [], false, [(4, 160)]⟩

/-- almadraba/almadrabaref05.within -/
def b45 : AC :=
 .seq (.region false [
 ⟨(some 6), .mv (.c (.bool false)), none, [], []⟩] [0, 1, 2]) (.seq (.region false [
 ⟨(some 7), .mv (.t 0), none, [], []⟩,
 ⟨(some 8), .mv (.t 1), none, [], []⟩,
 ⟨(some 9), .mv (.t 2), none, [], []⟩,
 ⟨(some 10), .call 18 [(.t 7), (.t 8), (.t 9)], none, [], []⟩,
 ⟨(some 6), .mv (.t 10), none, [], []⟩] [6]) (.ret))
def a45 : AFn := ⟨3, [.t 6], b45, false⟩
def n45 : Ann := ⟨[[0, 1, 2], [6]], [], [], [], [], false, [(6, 160)]⟩

/-- almadraba/almadrabaref02.Heavier -/
def b46 : AC :=
 .seq (.region false [
 ⟨(some 3), .box (.t 0), none, [], []⟩,
 ⟨(some 6), .alloc [(i64 0), (i64 0), (i64 0), (i64 0), (.sl .full 2 []), (.sl .full 2 []), (.sl .full 5 [])], none, [], []⟩] [1, 2, 3, 6]) (.seq (.region false [
 ⟨(some 9), .load (some 7) (.t 3), none, [], []⟩,
 ⟨(some 10), .call 39 [(.t 9)], none, [], []⟩,
 ⟨(some 7), .alloc [(i64 0), (i64 0), (i64 0), (i64 0), (.sl .full 2 []), (.sl .full 2 []), (.sl .full 5 [])], none, [], []⟩,
 ⟨none, .store 7 (.t 7) (.t 10), none, [], []⟩] [1, 2, 6, 7]) (.seq (.region false [
 ⟨(some 11), .faddr 5 (.t 7), none, [], []⟩,
 ⟨(some 12), .load none (.t 11), none, [], []⟩,
 ⟨(some 13), .mv (.t 1), none, [], []⟩,
 ⟨(some 14), .idxs 2 (.t 12) (.t 13), none, [], []⟩,
 ⟨(some 15), .load (some 2) (.t 14), none, [], []⟩,
 ⟨(some 8), .alloc [(i64 0), (i64 0)], none, [], []⟩,
 ⟨none, .store 2 (.t 8) (.t 15), none, [], []⟩] [1, 2, 6, 7, 8]) (.seq (.region false [
 ⟨(some 16), .faddr 0 (.t 8), none, [], []⟩,
 ⟨(some 17), .load none (.t 16), none, [], []⟩,
 ⟨(some 18), .mv (.t 2), none, [], []⟩,
 ⟨(some 19), .bin .add (.t 17) (.t 18), none, [], []⟩,
 ⟨(some 20), .faddr 0 (.t 8), none, [], []⟩,
 ⟨none, .store 1 (.t 20) (.t 19), none, [], []⟩] [1, 6, 7, 8]) (.seq (.region false [
 ⟨(some 21), .faddr 5 (.t 7), none, [], []⟩,
 ⟨(some 22), .load none (.t 21), none, [], []⟩,
 ⟨(some 23), .mv (.t 1), none, [], []⟩,
 ⟨(some 24), .load (some 2) (.t 8), none, [], []⟩,
 ⟨(some 25), .idxs 2 (.t 22) (.t 23), none, [], []⟩,
 ⟨none, .store 2 (.t 25) (.t 24), none, [], []⟩] [6, 7]) (.seq (.region false [
 ⟨(some 26), .load (some 7) (.t 7), none, [], []⟩,
 ⟨none, .store 7 (.t 6) (.t 26), none, [], []⟩] [6]) (.ret))))))
def a46 : AFn := ⟨3, [.cell 6 (some 7)], b46, false⟩
def n46 : Ann := ⟨[[1, 2, 3, 6], [1, 2, 6, 7], [1, 2, 6, 7, 8], [1, 6, 7, 8], [6, 7], [6]], [], [], [], [], false, []⟩

/-- almadraba/skies.isDay -/
def b47 : AC :=
 .seq (.region false [
 ⟨(some 2), .box (.t 0), none, [], []⟩,
 ⟨(some 4), .mv (.c (.bool false)), none, [], []⟩] [1, 2]) (.seq (.region false [
 ⟨(some 5), .mv (.t 1), none, [], []⟩,
 ⟨(some 6), .faddr 14 (.t 2), none, [], []⟩,
 ⟨(some 7), .load none (.t 6), none, [], []⟩,
 ⟨(some 8), .len (.t 7), none, [], []⟩,
 ⟨(some 9), .bin .sub (.t 8) (.c (i64 1)), none, [], []⟩,
 ⟨(some 10), .call 66 [(.t 5), (.c (i64 0)), (.t 9)], none, [], []⟩,
 ⟨(some 4), .mv (.t 10), none, [], []⟩] [4]) (.ret))
def a47 : AFn := ⟨2, [.t 4], b47, false⟩
def n47 : Ann := ⟨[[1, 2], [4]], [], [], [], [], false, [(4, 160)]⟩

/-- (*almadraba/skies.season).courses -/
def b48 : AC :=
 .seq (.region false [
 ⟨(some 2), .box (.t 0), none, [], []⟩,
 ⟨(some 3), .box (.t 1), none, [], []⟩] [2, 3]) (.seq (.region false [
 ⟨(some 4), .alloc [.nilf], none, [], []⟩] [2, 3, 4]) (.seq (.region false [
 ⟨(some 5), .mkfn 67 [] [(.t 2), (.t 3), (.t 4)], none, [], []⟩,
 ⟨none, .store 1 (.t 4) (.t 5), none, [], []⟩] [2, 4]) (.region true (spl [
 ⟨(some 6), .load none (.t 4), none, [], []⟩,
 ⟨(some 7), .load none (.t 2), none, [], []⟩,
 ⟨(some 8), .nilck (.t 7), none, [1], []⟩,
 ⟨(some 9), .faddr 0 (.t 8), none, [2, 1], []⟩,
 ⟨(some 10), .faddr 13 (.t 9), none, [3, 2, 1], []⟩,
 ⟨(some 11), .load none (.t 10), none, [4, 3, 2, 1], []⟩] [
 ⟨(some 12), .callv (.t 6) [(.c (.sl .full 1 [])), (.t 11)], none, [0, 5, 4, 3, 2, 1], []⟩]) [])))
def a48 : AFn := ⟨2, [], b48, false⟩
def n48 : Ann := ⟨[[2, 3], [2, 3, 4], [2, 4], []], [], [], [], [], false, []⟩

/-- (*almadraba/skies.season).may -/
def b49 : AC :=
 .seq (.region false [
 ⟨(some 6), .mv (.c (.bool false)), none, [], []⟩] [0, 1, 2]) (.seq (.region false [
 ⟨(some 7), .mv (.t 0), none, [], []⟩,
 ⟨(some 8), .mv (.t 2), none, [], []⟩,
 ⟨(some 9), .nilck (.t 7), none, [], []⟩,
 ⟨(some 10), .faddr 15 (.t 9), none, [], []⟩,
 ⟨(some 11), .idxa 4 1 (.t 10) (.t 8), none, [], []⟩,
 ⟨(some 12), .load none (.t 11), none, [], []⟩,
 ⟨(some 13), .bin .eql (.t 12) (.c (i64 1)), none, [], []⟩,
 ⟨(some 14), .mv (.t 13), none, [], []⟩,
 ⟨(some 15), .mv (.t 0), (some (14, true)), [], []⟩,
 ⟨(some 16), .mv (.t 1), (some (14, true)), [], []⟩,
 ⟨(some 17), .nilck (.t 15), (some (14, true)), [], []⟩,
 ⟨(some 18), .faddr 19 (.t 17), (some (14, true)), [], []⟩,
 ⟨(some 19), .idxa 5 1 (.t 18) (.t 16), (some (14, true)), [], []⟩,
 ⟨(some 20), .load none (.t 19), (some (14, true)), [], []⟩,
 ⟨(some 21), .bin .eql (.t 20) (.c (i64 1)), (some (14, true)), [], []⟩,
 ⟨(some 22), .pick (.t 14) (.t 21) (.c (.bool false)), none, [], []⟩,
 ⟨(some 6), .mv (.t 22), none, [], []⟩] [6]) (.ret))
def a49 : AFn := ⟨3, [.t 6], b49, false⟩
def n49 : Ann := ⟨[[0, 1, 2], [6]], [], [], [], [], false, []⟩

/-- almadraba/skies.May -/
def b50 : AC :=
 .seq (.region false [
 ⟨(some 3), .box (.t 0), none, [], []⟩,
 ⟨(some 6), .mv (.c (.bool false)), none, [], []⟩,
 ⟨(some 7), .mv (.c (i64 0)), none, [], []⟩] [1, 2, 3]) (.seq (.region true (spl [
 ⟨(some 11), .load (some 15) (.t 3), none, [], []⟩,
 ⟨(some 12), .load (some 15) (.t 3), none, [], []⟩,
 ⟨(some 13), .mv (.t 1), none, [], []⟩,
 ⟨(some 14), .call 47 [(.t 12), (.t 13)], none, [1, 2], []⟩,
 ⟨(some 15), .mv (.t 14), none, [3, 1, 2], []⟩,
 ⟨(some 16), .load (some 15) (.t 3), (some (15, true)), [4, 3, 1, 2], []⟩,
 ⟨(some 17), .mv (.t 2), (some (15, true)), [4, 3, 1, 2], []⟩,
 ⟨(some 18), .call 44 [(.t 16), (.t 17)], (some (15, true)), [5, 6, 4, 3, 1, 2], []⟩,
 ⟨(some 19), .pick (.t 15) (.t 18) (.c (.bool false)), none, [7, 5, 6, 4, 3, 1, 2], []⟩,
 ⟨(some 20), .call 43 [(.t 11), (.t 19)], none, [0, 8, 7, 5, 6, 4, 3, 1, 2], []⟩,
 ⟨(some 10), .mv (.t 20), none, [9, 0, 8, 7, 5, 6, 4, 3, 1, 2], []⟩,
 ⟨(some 21), .ext (.t 10) 0, none, [10, 9, 0, 8, 7, 5, 6, 4, 3, 1, 2], []⟩,
 ⟨(some 22), .ext (.t 10) 1, none, [10, 9, 0, 8, 7, 5, 6, 4, 3, 1, 2], []⟩,
 ⟨(some 8), .mv (.t 21), none, [11, 10, 9, 0, 8, 7, 5, 6, 4, 3, 1, 2], []⟩] [
 ⟨(some 9), .mv (.t 22), none, [12, 13, 11, 10, 9, 0, 8, 7, 5, 6, 4, 3, 1, 2], []⟩]) [1, 2, 8, 9]) (.seq (.seq (.region false [
 ⟨(some 23), .mv (.t 9), none, [], []⟩,
 ⟨(some 24), .bin .neq (.t 23) (.c (i64 0)), none, [], []⟩] [1, 2, 8, 9, 24]) (.cond (.t 24) (.seq (.region false [
 ⟨(some 25), .mv (.t 9), none, [], []⟩,
 ⟨(some 6), .mv (.c (.bool false)), none, [], []⟩,
 ⟨(some 7), .mv (.t 25), none, [], []⟩] [6, 7]) (.ret)) (.skip))) (.seq (.region false [
 ⟨(some 26), .mv (.t 8), none, [], []⟩,
 ⟨(some 27), .mv (.t 1), none, [], []⟩,
 ⟨(some 28), .mv (.t 2), none, [], []⟩,
 ⟨(some 29), .call 49 [(.t 26), (.t 27), (.t 28)], none, [], []⟩,
 ⟨(some 6), .mv (.t 29), none, [], []⟩,
 ⟨(some 7), .mv (.c (i64 0)), none, [], []⟩] [6, 7]) (.ret))))
def a50 : AFn := ⟨3, [.t 6, .t 7], b50, false⟩
def n50 : Ann := ⟨[[1, 2, 3], [1, 2, 8, 9], [1, 2, 8, 9, 24], [6, 7], [6, 7]], [], [], [], [], false, [(6, 464), (26, 320), (7, 320), (25, 320), (23, 320), (9, 320), (8, 320), (22, 320), (21, 320), (10, 320), (15, 224)]⟩

/-- (*almadraba/skies.season).lift -/
def b51 : AC :=
 .seq (.region false [
 ⟨(some 6), .mv (.c (.bool false)), none, [], []⟩] [0, 1, 2]) (.seq (.region true (spl [
 ⟨(some 7), .mv (.t 0), none, [], []⟩,
 ⟨(some 8), .mv (.t 1), none, [], []⟩,
 ⟨(some 9), .mv (.t 2), none, [], []⟩,
 ⟨(some 10), .call 49 [(.t 7), (.t 8), (.t 9)], none, [0, 1, 2], []⟩,
 ⟨(some 11), .mv (.t 10), none, [3, 0, 1, 2], []⟩,
 ⟨(some 12), .mv (.t 0), (some (11, true)), [4, 3, 0, 1, 2], []⟩,
 ⟨(some 13), .nilck (.t 12), (some (11, true)), [5, 4, 3, 0, 1, 2], []⟩,
 ⟨(some 14), .faddr 0 (.t 13), (some (11, true)), [6, 5, 4, 3, 0, 1, 2], []⟩,
 ⟨(some 15), .faddr 14 (.t 14), (some (11, true)), [7, 6, 5, 4, 3, 0, 1, 2], []⟩,
 ⟨(some 16), .load none (.t 15), (some (11, true)), [8, 7, 6, 5, 4, 3, 0, 1, 2], []⟩,
 ⟨(some 17), .mv (.t 1), (some (11, true)), [4, 3, 0, 1, 2], []⟩,
 ⟨(some 18), .idxs 2 (.t 16) (.t 17), (some (11, true)), [9, 10, 8, 7, 6, 5, 4, 3, 0, 1, 2], []⟩,
 ⟨(some 19), .faddr 0 (.t 18), (some (11, true)), [11, 9, 10, 8, 7, 6, 5, 4, 3, 0, 1, 2], []⟩,
 ⟨(some 20), .load none (.t 19), (some (11, true)), [12, 11, 9, 10, 8, 7, 6, 5, 4, 3, 0, 1, 2], []⟩,
 ⟨(some 21), .mv (.t 0), (some (11, true)), [4, 3, 0, 1, 2], []⟩,
 ⟨(some 22), .mv (.t 1), (some (11, true)), [4, 3, 0, 1, 2], []⟩,
 ⟨(some 23), .mv (.t 2), (some (11, true)), [4, 3, 0, 1, 2], []⟩,
 ⟨(some 24), .call 60 [(.t 21), (.t 22), (.t 23)], (some (11, true)), [14, 15, 16, 4, 3, 0, 1, 2], []⟩] [
 ⟨(some 25), .bin .geq (.t 20) (.t 24), (some (11, true)), [13, 17, 12, 11, 9, 10, 8, 7, 6, 5, 14, 15, 16, 4, 3, 0, 1, 2], []⟩,
 ⟨(some 26), .pick (.t 11) (.t 25) (.c (.bool false)), none, [18, 13, 17, 12, 11, 9, 10, 8, 7, 6, 5, 14, 15, 16, 4, 3, 0, 1, 2], []⟩,
 ⟨(some 6), .mv (.t 26), none, [19, 18, 13, 17, 12, 11, 9, 10, 8, 7, 6, 5, 14, 15, 16, 4, 3, 0, 1, 2], []⟩]) [6]) (.ret))
def a51 : AFn := ⟨3, [.t 6], b51, false⟩
def n51 : Ann := ⟨[[0, 1, 2], [6]], [], [], [], [], false, [(11, 160)]⟩

/-- almadraba/almadrabalaw13.Huge -/
def b52l0 : AC :=
 .loop [1, 3] [16, 112, 176] (.seq (.seq (.region false [
 ⟨(some 37), .mv (.t 3), none, [], []⟩,
 ⟨(some 38), .faddr 12 (.t 1), none, [], []⟩,
 ⟨(some 39), .load none (.t 38), none, [], []⟩,
 ⟨(some 40), .len (.t 39), none, [], []⟩,
 ⟨(some 41), .bin .lss (.t 37) (.t 40), none, [], []⟩] [1, 3, 41]) (.cond (.t 41) (.skip) (.exit 0))) (.seq (.block 1 (.seq (.region false [
 ⟨(some 44), .faddr 12 (.t 1), none, [], []⟩,
 ⟨(some 45), .load none (.t 44), none, [], []⟩,
 ⟨(some 46), .mv (.t 3), none, [], []⟩,
 ⟨(some 47), .idxs 1 (.t 45) (.t 46), none, [], []⟩,
 ⟨(some 48), .load none (.t 47), none, [], []⟩,
 ⟨(some 49), .len (.t 48), none, [], []⟩,
 ⟨(some 50), .bin .gtr (.t 49) (.c (i64 40)), none, [], []⟩] [1, 3, 50]) (.cond (.t 50) (.seq (.region false [
 ⟨(some 2), .mv (.c (.bool true)), none, [], []⟩] [2]) (.ret)) (.skip)))) (.region false [
 ⟨(some 42), .mv (.t 3), none, [], []⟩,
 ⟨(some 43), .bin .add (.t 42) (.c (i64 1)), none, [], []⟩,
 ⟨(some 3), .mv (.t 43), none, [], []⟩] [1, 3])))
/-- almadraba/almadrabalaw13.Huge -/
def b52 : AC :=
 .seq (.region false [
 ⟨(some 1), .box (.t 0), none, [], []⟩,
 ⟨(some 2), .mv (.c (.bool false)), none, [], []⟩] [1]) (.seq (.seq (.region false [
 ⟨(some 4), .faddr 0 (.t 1), none, [], []⟩,
 ⟨(some 5), .load (some 7) (.t 4), none, [], []⟩,
 ⟨(some 6), .build [(i64 0), (i64 0), (.sl .full 1 [])] [], none, [], []⟩,
 ⟨(some 7), .call 68 [(.t 5), (.t 6)], none, [], []⟩,
 ⟨(some 8), .mv (.t 7), none, [], []⟩,
 ⟨(some 9), .faddr 7 (.t 1), (some (8, false)), [], []⟩,
 ⟨(some 10), .load (some 4) (.t 9), (some (8, false)), [], []⟩,
 ⟨(some 11), .call 69 [(.t 10)], (some (8, false)), [], []⟩,
 ⟨(some 12), .pick (.t 8) (.c (.bool true)) (.t 11), none, [], []⟩,
 ⟨(some 13), .mv (.t 12), none, [], []⟩,
 ⟨(some 14), .faddr 11 (.t 1), (some (13, false)), [], []⟩,
 ⟨(some 15), .load none (.t 14), (some (13, false)), [], []⟩,
 ⟨(some 16), .len (.t 15), (some (13, false)), [], []⟩,
 ⟨(some 17), .bin .gtr (.t 16) (.c (i64 40)), (some (13, false)), [], []⟩,
 ⟨(some 18), .pick (.t 13) (.c (.bool true)) (.t 17), none, [], []⟩,
 ⟨(some 19), .mv (.t 18), none, [], []⟩,
 ⟨(some 20), .faddr 12 (.t 1), (some (19, false)), [], []⟩,
 ⟨(some 21), .load none (.t 20), (some (19, false)), [], []⟩,
 ⟨(some 22), .len (.t 21), (some (19, false)), [], []⟩,
 ⟨(some 23), .bin .gtr (.t 22) (.c (i64 40)), (some (19, false)), [], []⟩,
 ⟨(some 24), .pick (.t 19) (.c (.bool true)) (.t 23), none, [], []⟩,
 ⟨(some 25), .mv (.t 24), none, [], []⟩,
 ⟨(some 26), .faddr 13 (.t 1), (some (25, false)), [], []⟩,
 ⟨(some 27), .load none (.t 26), (some (25, false)), [], []⟩,
 ⟨(some 28), .len (.t 27), (some (25, false)), [], []⟩,
 ⟨(some 29), .bin .gtr (.t 28) (.c (i64 40)), (some (25, false)), [], []⟩,
 ⟨(some 30), .pick (.t 25) (.c (.bool true)) (.t 29), none, [], []⟩,
 ⟨(some 31), .mv (.t 30), none, [], []⟩,
 ⟨(some 32), .faddr 14 (.t 1), (some (31, false)), [], []⟩,
 ⟨(some 33), .load none (.t 32), (some (31, false)), [], []⟩,
 ⟨(some 34), .len (.t 33), (some (31, false)), [], []⟩,
 ⟨(some 35), .bin .gtr (.t 34) (.c (i64 40)), (some (31, false)), [], []⟩,
 ⟨(some 36), .pick (.t 31) (.c (.bool true)) (.t 35), none, [], []⟩] [1, 36]) (.cond (.t 36) (.seq (.region false [
 ⟨(some 2), .mv (.c (.bool true)), none, [], []⟩] [2]) (.ret)) (.skip))) (.seq (.seq (.region false [
 ⟨(some 3), .mv (.c (i64 0)), none, [], []⟩] [1, 3]) (.block 0 (b52l0))) (.seq (.region false [
 ⟨(some 2), .mv (.c (.bool false)), none, [], []⟩] [2]) (.ret))))
def a52 : AFn := ⟨1, [.t 2], b52, false⟩
def n52 : Ann := ⟨[[1], [1, 36], [2], [1, 3], [1, 3, 41], [1, 3, 50], [2], [1, 3], [2]], [⟨[], [1, 3], [16, 112, 176]⟩], [], [], [], false, [(8, 112)]⟩

/-- almadraba/almadrabalaw02.Far -/
def b53l0 : AC :=
 .loop [1, 3, 4] [16, 112, 144] (.seq (.seq (.region false [
 ⟨(some 19), .mv (.t 4), none, [], []⟩,
 ⟨(some 20), .faddr 4 (.t 1), none, [], []⟩,
 ⟨(some 21), .load none (.t 20), none, [], []⟩,
 ⟨(some 22), .len (.t 21), none, [], []⟩,
 ⟨(some 23), .bin .lss (.t 19) (.t 22), none, [], []⟩] [1, 3, 4, 23]) (.cond (.t 23) (.skip) (.exit 0))) (.seq (.block 1 (.region true (spl [
 ⟨(some 26), .mv (.t 3), none, [], []⟩,
 ⟨(some 27), .faddr 4 (.t 1), none, [], []⟩,
 ⟨(some 28), .load none (.t 27), none, [1], []⟩,
 ⟨(some 29), .mv (.t 4), none, [], []⟩,
 ⟨(some 30), .idxs 2 (.t 28) (.t 29), none, [2, 3, 1], []⟩,
 ⟨(some 31), .faddr 1 (.t 30), none, [4, 2, 3, 1], []⟩,
 ⟨(some 32), .load none (.t 31), none, [5, 4, 2, 3, 1], []⟩,
 ⟨(some 33), .faddr 4 (.t 1), none, [], []⟩,
 ⟨(some 34), .load none (.t 33), none, [7], []⟩,
 ⟨(some 35), .mv (.t 4), none, [], []⟩,
 ⟨(some 36), .idxs 2 (.t 34) (.t 35), none, [8, 9, 7], []⟩,
 ⟨(some 37), .faddr 0 (.t 36), none, [10, 8, 9, 7], []⟩,
 ⟨(some 38), .load none (.t 37), none, [11, 10, 8, 9, 7], []⟩,
 ⟨(some 39), .bin .sub (.t 32) (.t 38), none, [6, 12, 5, 4, 2, 3, 1, 11, 10, 8, 9, 7], []⟩,
 ⟨(some 40), .bin .add (.t 39) (.c (i64 1)), none, [13, 6, 12, 5, 4, 2, 3, 1, 11, 10, 8, 9, 7], []⟩] [
 ⟨(some 41), .bin .mul (.t 26) (.t 40), none, [0, 14, 13, 6, 12, 5, 4, 2, 3, 1, 11, 10, 8, 9, 7], []⟩,
 ⟨(some 3), .mv (.t 41), none, [15, 0, 14, 13, 6, 12, 5, 4, 2, 3, 1, 11, 10, 8, 9, 7], []⟩]) [1, 3, 4])) (.region false [
 ⟨(some 24), .mv (.t 4), none, [], []⟩,
 ⟨(some 25), .bin .add (.t 24) (.c (i64 1)), none, [], []⟩,
 ⟨(some 4), .mv (.t 25), none, [], []⟩] [1, 3, 4])))
/-- almadraba/almadrabalaw02.Far -/
def b53 : AC :=
 .seq (.region false [
 ⟨(some 1), .box (.t 0), none, [], []⟩,
 ⟨(some 2), .mv (.c (.bool false)), none, [], []⟩] [1]) (.seq (.seq (.region false [
 ⟨(some 5), .load (some 7) (.t 1), none, [], []⟩,
 ⟨(some 6), .build [(i64 0), (i64 0), (.sl .full 1 [])] [], none, [], []⟩,
 ⟨(some 7), .call 68 [(.t 5), (.t 6)], none, [], []⟩] [1, 7]) (.cond (.t 7) (.seq (.region false [
 ⟨(some 2), .mv (.c (.bool true)), none, [], []⟩] [2]) (.ret)) (.skip))) (.seq (.seq (.region false [
 ⟨(some 8), .load (some 7) (.t 1), none, [], []⟩,
 ⟨(some 9), .call 55 [(.t 8)], none, [], []⟩,
 ⟨(some 10), .bin .neq (.t 9) (.c (i64 0)), none, [], []⟩] [1, 10]) (.cond (.t 10) (.seq (.region false [
 ⟨(some 2), .mv (.c (.bool false)), none, [], []⟩] [2]) (.ret)) (.skip))) (.seq (.region false [
 ⟨(some 11), .faddr 2 (.t 1), none, [], []⟩,
 ⟨(some 12), .faddr 1 (.t 11), none, [], []⟩,
 ⟨(some 13), .load none (.t 12), none, [], []⟩,
 ⟨(some 14), .faddr 2 (.t 1), none, [], []⟩,
 ⟨(some 15), .faddr 0 (.t 14), none, [], []⟩,
 ⟨(some 16), .load none (.t 15), none, [], []⟩,
 ⟨(some 17), .bin .sub (.t 13) (.t 16), none, [], []⟩,
 ⟨(some 18), .bin .add (.t 17) (.c (i64 1)), none, [], []⟩,
 ⟨(some 3), .mv (.t 18), none, [], []⟩] [1, 3]) (.seq (.seq (.region false [
 ⟨(some 4), .mv (.c (i64 0)), none, [], []⟩] [1, 3, 4]) (.block 0 (b53l0))) (.seq (.region false [
 ⟨(some 42), .mv (.t 3), none, [], []⟩,
 ⟨(some 43), .bin .gtr (.t 42) (.c (i64 24)), none, [], []⟩,
 ⟨(some 44), .mv (.t 43), none, [], []⟩,
 ⟨(some 45), .mv (.t 3), (some (44, false)), [], []⟩,
 ⟨(some 46), .faddr 0 (.t 1), (some (44, false)), [], []⟩,
 ⟨(some 47), .faddr 1 (.t 46), (some (44, false)), [], []⟩,
 ⟨(some 48), .load none (.t 47), (some (44, false)), [], []⟩,
 ⟨(some 49), .faddr 0 (.t 1), (some (44, false)), [], []⟩,
 ⟨(some 50), .faddr 0 (.t 49), (some (44, false)), [], []⟩,
 ⟨(some 51), .load none (.t 50), (some (44, false)), [], []⟩,
 ⟨(some 52), .bin .sub (.t 48) (.t 51), (some (44, false)), [], []⟩,
 ⟨(some 53), .bin .add (.t 52) (.c (i64 1)), (some (44, false)), [], []⟩,
 ⟨(some 54), .bin .mul (.t 45) (.t 53), (some (44, false)), [], []⟩,
 ⟨(some 55), .bin .gtr (.t 54) (.c (i64 100)), (some (44, false)), [], []⟩,
 ⟨(some 56), .pick (.t 44) (.c (.bool true)) (.t 55), none, [], []⟩,
 ⟨(some 2), .mv (.t 56), none, [], []⟩] [2]) (.ret))))))
def a53 : AFn := ⟨1, [.t 2], b53, false⟩
def n53 : Ann := ⟨[[1], [1, 7], [2], [1, 10], [2], [1, 3], [1, 3, 4], [1, 3, 4, 23], [1, 3, 4], [1, 3, 4], [2]], [⟨[], [1, 3, 4], [16, 112, 144]⟩], [], [], [], false, []⟩

/-- almadraba/almadrabaref13.NetOf -/
def b54 : AC :=
 .seq (.region false [
 ⟨(some 2), .box (.t 0), none, [], []⟩,
 ⟨(some 4), .alloc [(i64 0), (i64 0), (i64 0), (i64 0), (.sl .full 2 []), (.sl .full 2 []), (.sl .full 5 [])], none, [], []⟩] [1, 2, 4]) (.seq (.region false [
 ⟨(some 6), .faddr 0 (.t 2), none, [], []⟩,
 ⟨(some 7), .load (some 7) (.t 6), none, [], []⟩,
 ⟨(some 8), .call 39 [(.t 7)], none, [], []⟩,
 ⟨(some 5), .alloc [(i64 0), (i64 0), (i64 0), (i64 0), (.sl .full 2 []), (.sl .full 2 []), (.sl .full 5 [])], none, [], []⟩,
 ⟨none, .store 7 (.t 5) (.t 8), none, [], []⟩] [1, 2, 4, 5]) (.seq (.region true (spl [
 ⟨(some 9), .faddr 11 (.t 2), none, [], []⟩,
 ⟨(some 10), .load none (.t 9), none, [0], []⟩,
 ⟨(some 11), .mv (.t 1), none, [], []⟩,
 ⟨(some 12), .idxs 4 (.t 10) (.t 11), none, [1, 2, 0], []⟩,
 ⟨(some 13), .faddr 0 (.t 12), none, [3, 1, 2, 0], []⟩,
 ⟨(some 14), .load (some 2) (.t 13), none, [4, 3, 1, 2, 0], []⟩,
 ⟨(some 15), .faddr 11 (.t 2), none, [], [80]⟩,
 ⟨(some 16), .load none (.t 15), none, [6], [80]⟩,
 ⟨(some 17), .mv (.t 1), none, [], [80]⟩,
 ⟨(some 18), .idxs 4 (.t 16) (.t 17), none, [7, 8, 6], [80]⟩,
 ⟨(some 19), .faddr 2 (.t 18), none, [9, 7, 8, 6], [80]⟩,
 ⟨(some 20), .load (some 2) (.t 19), none, [10, 9, 7, 8, 6], [80]⟩,
 ⟨(some 21), .faddr 0 (.t 5), none, [5, 4, 3, 1, 2, 0], []⟩,
 ⟨none, .store 2 (.t 21) (.t 14), none, [12, 5, 4, 3, 1, 2, 0], []⟩] [
 ⟨(some 22), .faddr 2 (.t 5), none, [11, 13, 10, 9, 7, 8, 6, 12, 5, 4, 3, 1, 2, 0], []⟩,
 ⟨none, .store 2 (.t 22) (.t 20), none, [14, 11, 13, 10, 9, 7, 8, 6, 12, 5, 4, 3, 1, 2, 0], []⟩]) [4, 5]) (.seq (.region false [
 ⟨(some 23), .load (some 7) (.t 5), none, [], []⟩,
 ⟨none, .store 7 (.t 4) (.t 23), none, [], []⟩] [4]) (.ret))))
def a54 : AFn := ⟨2, [.cell 4 (some 7)], b54, false⟩
def n54 : Ann := ⟨[[1, 2, 4], [1, 2, 4, 5], [4, 5], [4]], [], [], [], [], false, []⟩

/-- almadraba/almadrabaref02.Check -/
def b55l0 : AC :=
 .loop [1, 3] [16, 96, 144, 224, 1072, 1280, 1552, 1632, 1728, 1824, 1920] (.seq (.seq (.region false [
 ⟨(some 40), .mv (.t 3), none, [], []⟩,
 ⟨(some 41), .faddr 4 (.t 1), none, [], []⟩,
 ⟨(some 42), .load none (.t 41), none, [], []⟩,
 ⟨(some 43), .len (.t 42), none, [], []⟩,
 ⟨(some 44), .bin .lss (.t 40) (.t 43), none, [], []⟩] [1, 3, 44]) (.cond (.t 44) (.skip) (.exit 0))) (.seq (.block 1 (.seq (.region false [
 ⟨(some 47), .faddr 4 (.t 1), none, [], []⟩,
 ⟨(some 48), .load none (.t 47), none, [], []⟩,
 ⟨(some 49), .mv (.t 3), none, [], []⟩,
 ⟨(some 50), .idxs 2 (.t 48) (.t 49), none, [], []⟩,
 ⟨(some 51), .load (some 2) (.t 50), none, [], []⟩,
 ⟨(some 52), .call 70 [(.t 51), (.c (i64 9))], none, [], []⟩,
 ⟨(some 53), .un .not (.t 52), none, [], []⟩] [1, 3, 53]) (.cond (.t 53) (.seq (.region false [
 ⟨(some 2), .mv (.c (i64 20)), none, [], []⟩] [2]) (.ret)) (.skip)))) (.region false [
 ⟨(some 45), .mv (.t 3), none, [], []⟩,
 ⟨(some 46), .bin .add (.t 45) (.c (i64 1)), none, [], []⟩,
 ⟨(some 3), .mv (.t 46), none, [], []⟩] [1, 3])))
/-- almadraba/almadrabaref02.Check -/
def b55l1 : AC :=
 .loop [1, 4] [16, 96, 144, 224, 832, 1552, 1632, 1728, 1824, 1920] (.seq (.seq (.region false [
 ⟨(some 54), .mv (.t 4), none, [], []⟩,
 ⟨(some 55), .faddr 5 (.t 1), none, [], []⟩,
 ⟨(some 56), .load none (.t 55), none, [], []⟩,
 ⟨(some 57), .len (.t 56), none, [], []⟩,
 ⟨(some 58), .bin .lss (.t 54) (.t 57), none, [], []⟩] [1, 4, 58]) (.cond (.t 58) (.skip) (.exit 2))) (.seq (.block 3 (.seq (.region true (spl [
 ⟨(some 61), .faddr 5 (.t 1), none, [], []⟩,
 ⟨(some 62), .load none (.t 61), none, [0], []⟩,
 ⟨(some 63), .mv (.t 4), none, [], []⟩,
 ⟨(some 64), .idxs 2 (.t 62) (.t 63), none, [1, 2, 0], []⟩,
 ⟨(some 65), .faddr 0 (.t 64), none, [3, 1, 2, 0], []⟩,
 ⟨(some 66), .load none (.t 65), none, [4, 3, 1, 2, 0], []⟩,
 ⟨(some 67), .call 71 [(.t 66), (.c (i64 0)), (.c (i64 20))], none, [5, 4, 3, 1, 2, 0], []⟩,
 ⟨(some 68), .un .not (.t 67), none, [6, 5, 4, 3, 1, 2, 0], []⟩,
 ⟨(some 69), .mv (.t 68), none, [7, 6, 5, 4, 3, 1, 2, 0], []⟩,
 ⟨(some 70), .faddr 5 (.t 1), (some (69, false)), [8, 7, 6, 5, 4, 3, 1, 2, 0], []⟩,
 ⟨(some 71), .load none (.t 70), (some (69, false)), [9, 8, 7, 6, 5, 4, 3, 1, 2, 0], []⟩,
 ⟨(some 72), .mv (.t 4), (some (69, false)), [8, 7, 6, 5, 4, 3, 1, 2, 0], []⟩,
 ⟨(some 73), .idxs 2 (.t 71) (.t 72), (some (69, false)), [10, 11, 9, 8, 7, 6, 5, 4, 3, 1, 2, 0], []⟩,
 ⟨(some 74), .faddr 1 (.t 73), (some (69, false)), [12, 10, 11, 9, 8, 7, 6, 5, 4, 3, 1, 2, 0], []⟩,
 ⟨(some 75), .load none (.t 74), (some (69, false)), [13, 12, 10, 11, 9, 8, 7, 6, 5, 4, 3, 1, 2, 0], []⟩,
 ⟨(some 76), .faddr 4 (.t 1), (some (69, false)), [8, 7, 6, 5, 4, 3, 1, 2, 0], []⟩,
 ⟨(some 77), .load none (.t 76), (some (69, false)), [15, 8, 7, 6, 5, 4, 3, 1, 2, 0], []⟩,
 ⟨(some 78), .len (.t 77), (some (69, false)), [16, 15, 8, 7, 6, 5, 4, 3, 1, 2, 0], []⟩,
 ⟨(some 79), .bin .sub (.t 78) (.c (i64 1)), (some (69, false)), [17, 16, 15, 8, 7, 6, 5, 4, 3, 1, 2, 0], []⟩] [
 ⟨(some 80), .call 71 [(.t 75), (.c (i64 0)), (.t 79)], (some (69, false)), [14, 18, 13, 12, 10, 11, 9, 17, 16, 15, 8, 7, 6, 5, 4, 3, 1, 2, 0], []⟩,
 ⟨(some 81), .un .not (.t 80), (some (69, false)), [19, 14, 18, 13, 12, 10, 11, 9, 17, 16, 15, 8, 7, 6, 5, 4, 3, 1, 2, 0], []⟩,
 ⟨(some 82), .pick (.t 69) (.c (.bool true)) (.t 81), none, [20, 19, 14, 18, 13, 12, 10, 11, 9, 17, 16, 15, 8, 7, 6, 5, 4, 3, 1, 2, 0], []⟩]) [1, 4, 82]) (.cond (.t 82) (.seq (.region false [
 ⟨(some 2), .mv (.c (i64 20)), none, [], []⟩] [2]) (.ret)) (.skip)))) (.region false [
 ⟨(some 59), .mv (.t 4), none, [], []⟩,
 ⟨(some 60), .bin .add (.t 59) (.c (i64 1)), none, [], []⟩,
 ⟨(some 4), .mv (.t 60), none, [], []⟩] [1, 4])))
/-- almadraba/almadrabaref02.Check -/
def b55l2 : AC :=
 .loop [1, 5] [16, 144, 224, 832, 1072, 1280] (.seq (.seq (.region false [
 ⟨(some 83), .mv (.t 5), none, [], []⟩,
 ⟨(some 84), .faddr 6 (.t 1), none, [], []⟩,
 ⟨(some 85), .load none (.t 84), none, [], []⟩,
 ⟨(some 86), .len (.t 85), none, [], []⟩,
 ⟨(some 87), .bin .lss (.t 83) (.t 86), none, [], []⟩] [1, 5, 87]) (.cond (.t 87) (.skip) (.exit 4))) (.seq (.block 5 (.seq (.region false [
 ⟨(some 90), .faddr 6 (.t 1), none, [], []⟩,
 ⟨(some 91), .load none (.t 90), none, [], []⟩,
 ⟨(some 92), .mv (.t 5), none, [], []⟩,
 ⟨(some 93), .idxs 5 (.t 91) (.t 92), none, [], []⟩,
 ⟨(some 94), .load (some 5) (.t 93), none, [], []⟩,
 ⟨(some 6), .alloc [(i64 0), (i64 0), (i64 0), (i64 0), (i64 0)], none, [], []⟩,
 ⟨none, .store 5 (.t 6) (.t 94), none, [], []⟩] [1, 5, 6]) (.seq (.region false [
 ⟨(some 95), .faddr 0 (.t 6), none, [], []⟩,
 ⟨(some 96), .load none (.t 95), none, [], []⟩,
 ⟨(some 97), .call 71 [(.t 96), (.c (i64 0)), (.c (i64 9))], none, [], []⟩,
 ⟨(some 98), .un .not (.t 97), none, [], []⟩,
 ⟨(some 99), .mv (.t 98), none, [], []⟩,
 ⟨(some 100), .faddr 1 (.t 6), (some (99, false)), [], []⟩,
 ⟨(some 101), .load none (.t 100), (some (99, false)), [], []⟩,
 ⟨(some 102), .call 71 [(.t 101), (.c (i64 0)), (.c (i64 9))], (some (99, false)), [], []⟩,
 ⟨(some 103), .un .not (.t 102), (some (99, false)), [], []⟩,
 ⟨(some 104), .pick (.t 99) (.c (.bool true)) (.t 103), none, [], []⟩,
 ⟨(some 105), .mv (.t 104), none, [], []⟩,
 ⟨(some 106), .faddr 2 (.t 6), (some (105, false)), [], []⟩,
 ⟨(some 107), .load none (.t 106), (some (105, false)), [], []⟩,
 ⟨(some 108), .call 71 [(.t 107), (.c (i64 0)), (.c (i64 9))], (some (105, false)), [], []⟩,
 ⟨(some 109), .un .not (.t 108), (some (105, false)), [], []⟩,
 ⟨(some 110), .pick (.t 105) (.c (.bool true)) (.t 109), none, [], []⟩,
 ⟨(some 111), .mv (.t 110), none, [], []⟩,
 ⟨(some 112), .faddr 3 (.t 6), (some (111, false)), [], []⟩,
 ⟨(some 113), .load none (.t 112), (some (111, false)), [], []⟩,
 ⟨(some 114), .call 71 [(.t 113), (.c (i64 0)), (.c (i64 99))], (some (111, false)), [], []⟩,
 ⟨(some 115), .un .not (.t 114), (some (111, false)), [], []⟩,
 ⟨(some 116), .pick (.t 111) (.c (.bool true)) (.t 115), none, [], []⟩,
 ⟨(some 117), .mv (.t 116), none, [], []⟩,
 ⟨(some 118), .faddr 4 (.t 6), (some (117, false)), [], []⟩,
 ⟨(some 119), .load none (.t 118), (some (117, false)), [], []⟩,
 ⟨(some 120), .call 71 [(.t 119), (.c (i64 0)), (.c (i64 99))], (some (117, false)), [], []⟩,
 ⟨(some 121), .un .not (.t 120), (some (117, false)), [], []⟩,
 ⟨(some 122), .pick (.t 117) (.c (.bool true)) (.t 121), none, [], []⟩] [1, 5, 122]) (.cond (.t 122) (.seq (.region false [
 ⟨(some 2), .mv (.c (i64 20)), none, [], []⟩] [2]) (.ret)) (.skip))))) (.region false [
 ⟨(some 88), .mv (.t 5), none, [], []⟩,
 ⟨(some 89), .bin .add (.t 88) (.c (i64 1)), none, [], []⟩,
 ⟨(some 5), .mv (.t 89), none, [], []⟩] [1, 5])))
/-- almadraba/almadrabaref02.Check -/
def b55 : AC :=
 .seq (.region false [
 ⟨(some 1), .box (.t 0), none, [], []⟩,
 ⟨(some 2), .mv (.c (i64 0)), none, [], []⟩] [1]) (.seq (.seq (.region false [
 ⟨(some 7), .faddr 0 (.t 1), none, [], []⟩,
 ⟨(some 8), .load (some 2) (.t 7), none, [], []⟩,
 ⟨(some 9), .call 70 [(.t 8), (.c (i64 20))], none, [], []⟩,
 ⟨(some 10), .un .not (.t 9), none, [], []⟩,
 ⟨(some 11), .mv (.t 10), none, [], []⟩,
 ⟨(some 12), .faddr 2 (.t 1), (some (11, false)), [], []⟩,
 ⟨(some 13), .load (some 2) (.t 12), (some (11, false)), [], []⟩,
 ⟨(some 14), .call 70 [(.t 13), (.c (i64 20))], (some (11, false)), [], []⟩,
 ⟨(some 15), .un .not (.t 14), (some (11, false)), [], []⟩,
 ⟨(some 16), .pick (.t 11) (.c (.bool true)) (.t 15), none, [], []⟩,
 ⟨(some 17), .mv (.t 16), none, [], []⟩,
 ⟨(some 18), .faddr 4 (.t 1), (some (17, false)), [], []⟩,
 ⟨(some 19), .load none (.t 18), (some (17, false)), [], []⟩,
 ⟨(some 20), .len (.t 19), (some (17, false)), [], []⟩,
 ⟨(some 21), .bin .gtr (.t 20) (.c (i64 3)), (some (17, false)), [], []⟩,
 ⟨(some 22), .pick (.t 17) (.c (.bool true)) (.t 21), none, [], []⟩,
 ⟨(some 23), .mv (.t 22), none, [], []⟩,
 ⟨(some 24), .faddr 5 (.t 1), (some (23, false)), [], []⟩,
 ⟨(some 25), .load none (.t 24), (some (23, false)), [], []⟩,
 ⟨(some 26), .len (.t 25), (some (23, false)), [], []⟩,
 ⟨(some 27), .bin .gtr (.t 26) (.c (i64 6)), (some (23, false)), [], []⟩,
 ⟨(some 28), .pick (.t 23) (.c (.bool true)) (.t 27), none, [], []⟩,
 ⟨(some 29), .mv (.t 28), none, [], []⟩,
 ⟨(some 30), .faddr 6 (.t 1), (some (29, false)), [], []⟩,
 ⟨(some 31), .load none (.t 30), (some (29, false)), [], []⟩,
 ⟨(some 32), .len (.t 31), (some (29, false)), [], []⟩,
 ⟨(some 33), .faddr 5 (.t 1), (some (29, false)), [], []⟩,
 ⟨(some 34), .load none (.t 33), (some (29, false)), [], []⟩,
 ⟨(some 35), .len (.t 34), (some (29, false)), [], []⟩,
 ⟨(some 36), .bin .sub (.t 35) (.c (i64 1)), (some (29, false)), [], []⟩,
 ⟨(some 37), .mm true (.c (i64 0)) (.t 36), (some (29, false)), [], []⟩,
 ⟨(some 38), .bin .neq (.t 32) (.t 37), (some (29, false)), [], []⟩,
 ⟨(some 39), .pick (.t 29) (.c (.bool true)) (.t 38), none, [], []⟩] [1, 39]) (.cond (.t 39) (.seq (.region false [
 ⟨(some 2), .mv (.c (i64 20)), none, [], []⟩] [2]) (.ret)) (.skip))) (.seq (.seq (.region false [
 ⟨(some 3), .mv (.c (i64 0)), none, [], []⟩] [1, 3]) (.block 0 (b55l0))) (.seq (.seq (.region false [
 ⟨(some 4), .mv (.c (i64 0)), none, [], []⟩] [1, 4]) (.block 2 (b55l1))) (.seq (.seq (.region false [
 ⟨(some 5), .mv (.c (i64 0)), none, [], []⟩] [1, 5]) (.block 4 (b55l2))) (.seq (.region false [
 ⟨(some 2), .mv (.c (i64 0)), none, [], []⟩] [2]) (.ret))))))
def a55 : AFn := ⟨1, [.t 2], b55, false⟩
def n55 : Ann := ⟨[[1], [1, 39], [2], [1, 3], [1, 3, 44], [1, 3, 53], [2], [1, 3], [1, 4], [1, 4, 58], [1, 4, 82], [2], [1, 4], [1, 5], [1, 5, 87], [1, 5, 6], [1, 5, 122], [2], [1, 5], [2]], [⟨[], [1, 3], [16, 96, 144, 224, 1072, 1280, 1552, 1632, 1728, 1824, 1920]⟩, ⟨[], [1, 4], [16, 96, 144, 224, 832, 1552, 1632, 1728, 1824, 1920]⟩, ⟨[], [1, 5], [16, 144, 224, 832, 1072, 1280]⟩], [], [], [], false, []⟩

/-- almadraba/almadrabaref05.Check -/
def b56l0 : AC :=
 .loop [1, 3, 4, 5] [16, 112, 160, 1088, 1168] (.seq (.seq (.region false [
 ⟨(some 24), .mv (.t 5), none, [], []⟩,
 ⟨(some 25), .faddr 2 (.t 1), none, [], []⟩,
 ⟨(some 26), .load none (.t 25), none, [], []⟩,
 ⟨(some 27), .len (.t 26), none, [], []⟩,
 ⟨(some 28), .bin .lss (.t 24) (.t 27), none, [], []⟩] [1, 3, 4, 5, 28]) (.cond (.t 28) (.skip) (.exit 0))) (.seq (.block 1 (.seq (.seq (.region false [
 ⟨(some 31), .faddr 2 (.t 1), none, [], []⟩,
 ⟨(some 32), .load none (.t 31), none, [], []⟩,
 ⟨(some 33), .mv (.t 5), none, [], []⟩,
 ⟨(some 34), .idxs 2 (.t 32) (.t 33), none, [], []⟩,
 ⟨(some 35), .load (some 2) (.t 34), none, [], []⟩,
 ⟨(some 36), .call 72 [(.t 35), (.c (i64 12))], none, [], []⟩,
 ⟨(some 37), .un .not (.t 36), none, [], []⟩] [1, 3, 4, 5, 37]) (.cond (.t 37) (.seq (.region false [
 ⟨(some 2), .mv (.c (i64 50)), none, [], []⟩] [2]) (.ret)) (.skip))) (.region true (spl [
 ⟨(some 38), .mv (.t 3), none, [], []⟩,
 ⟨(some 39), .faddr 2 (.t 1), none, [], []⟩,
 ⟨(some 40), .load none (.t 39), none, [1], []⟩,
 ⟨(some 41), .mv (.t 5), none, [], []⟩,
 ⟨(some 42), .idxs 2 (.t 40) (.t 41), none, [2, 3, 1], []⟩,
 ⟨(some 43), .faddr 0 (.t 42), none, [4, 2, 3, 1], []⟩,
 ⟨(some 44), .load none (.t 43), none, [5, 4, 2, 3, 1], []⟩,
 ⟨(some 45), .bin .add (.t 38) (.t 44), none, [0, 6, 5, 4, 2, 3, 1], []⟩,
 ⟨(some 46), .mv (.t 4), none, [], []⟩,
 ⟨(some 47), .faddr 2 (.t 1), none, [], []⟩,
 ⟨(some 48), .load none (.t 47), none, [9], []⟩,
 ⟨(some 49), .mv (.t 5), none, [], []⟩,
 ⟨(some 50), .idxs 2 (.t 48) (.t 49), none, [10, 11, 9], []⟩,
 ⟨(some 51), .faddr 1 (.t 50), none, [12, 10, 11, 9], []⟩,
 ⟨(some 52), .load none (.t 51), none, [13, 12, 10, 11, 9], []⟩,
 ⟨(some 53), .bin .add (.t 46) (.t 52), none, [8, 14, 13, 12, 10, 11, 9], []⟩,
 ⟨(some 3), .mv (.t 45), none, [7, 0, 6, 5, 4, 2, 3, 1], []⟩] [
 ⟨(some 4), .mv (.t 53), none, [15, 16, 8, 14, 13, 12, 10, 11, 9, 7, 0, 6, 5, 4, 2, 3, 1], []⟩]) [1, 3, 4, 5]))) (.region false [
 ⟨(some 29), .mv (.t 5), none, [], []⟩,
 ⟨(some 30), .bin .add (.t 29) (.c (i64 1)), none, [], []⟩,
 ⟨(some 5), .mv (.t 30), none, [], []⟩] [1, 3, 4, 5])))
/-- almadraba/almadrabaref05.Check -/
def b56l1 : AC :=
 .loop [1, 3, 4, 6] [16, 160, 576] (.seq (.seq (.region false [
 ⟨(some 54), .mv (.t 6), none, [], []⟩,
 ⟨(some 55), .faddr 3 (.t 1), none, [], []⟩,
 ⟨(some 56), .load none (.t 55), none, [], []⟩,
 ⟨(some 57), .len (.t 56), none, [], []⟩,
 ⟨(some 58), .bin .lss (.t 54) (.t 57), none, [], []⟩] [1, 3, 4, 6, 58]) (.cond (.t 58) (.skip) (.exit 2))) (.seq (.block 3 (.seq (.region false [
 ⟨(some 61), .faddr 3 (.t 1), none, [], []⟩,
 ⟨(some 62), .load none (.t 61), none, [], []⟩,
 ⟨(some 63), .mv (.t 6), none, [], []⟩,
 ⟨(some 64), .idxs 2 (.t 62) (.t 63), none, [], []⟩,
 ⟨(some 65), .load (some 2) (.t 64), none, [], []⟩,
 ⟨(some 7), .alloc [(i64 0), (i64 0)], none, [], []⟩,
 ⟨none, .store 2 (.t 7) (.t 65), none, [], []⟩] [1, 3, 4, 6, 7]) (.seq (.region false [
 ⟨(some 66), .faddr 0 (.t 7), none, [], []⟩,
 ⟨(some 67), .load none (.t 66), none, [], []⟩,
 ⟨(some 68), .call 45 [(.t 67), (.c (i64 0)), (.c (i64 999))], none, [], []⟩,
 ⟨(some 69), .un .not (.t 68), none, [], []⟩,
 ⟨(some 70), .mv (.t 69), none, [], []⟩,
 ⟨(some 71), .faddr 1 (.t 7), (some (70, false)), [], []⟩,
 ⟨(some 72), .load none (.t 71), (some (70, false)), [], []⟩,
 ⟨(some 73), .call 45 [(.t 72), (.c (i64 0)), (.c (i64 99))], (some (70, false)), [], []⟩,
 ⟨(some 74), .un .not (.t 73), (some (70, false)), [], []⟩,
 ⟨(some 75), .pick (.t 70) (.c (.bool true)) (.t 74), none, [], []⟩] [1, 3, 4, 6, 75]) (.cond (.t 75) (.seq (.region false [
 ⟨(some 2), .mv (.c (i64 50)), none, [], []⟩] [2]) (.ret)) (.skip))))) (.region false [
 ⟨(some 59), .mv (.t 6), none, [], []⟩,
 ⟨(some 60), .bin .add (.t 59) (.c (i64 1)), none, [], []⟩,
 ⟨(some 6), .mv (.t 60), none, [], []⟩] [1, 3, 4, 6])))
/-- almadraba/almadrabaref05.Check -/
def b56 : AC :=
 .seq (.region false [
 ⟨(some 1), .box (.t 0), none, [], []⟩,
 ⟨(some 2), .mv (.c (i64 0)), none, [], []⟩] [1]) (.seq (.seq (.region false [
 ⟨(some 8), .faddr 0 (.t 1), none, [], []⟩,
 ⟨(some 9), .load (some 2) (.t 8), none, [], []⟩,
 ⟨(some 10), .call 72 [(.t 9), (.c (i64 2000))], none, [], []⟩,
 ⟨(some 11), .un .not (.t 10), none, [], []⟩,
 ⟨(some 12), .mv (.t 11), none, [], []⟩,
 ⟨(some 13), .faddr 2 (.t 1), (some (12, false)), [], []⟩,
 ⟨(some 14), .load none (.t 13), (some (12, false)), [], []⟩,
 ⟨(some 15), .len (.t 14), (some (12, false)), [], []⟩,
 ⟨(some 16), .bin .gtr (.t 15) (.c (i64 4)), (some (12, false)), [], []⟩,
 ⟨(some 17), .pick (.t 12) (.c (.bool true)) (.t 16), none, [], []⟩,
 ⟨(some 18), .mv (.t 17), none, [], []⟩,
 ⟨(some 19), .faddr 3 (.t 1), (some (18, false)), [], []⟩,
 ⟨(some 20), .load none (.t 19), (some (18, false)), [], []⟩,
 ⟨(some 21), .len (.t 20), (some (18, false)), [], []⟩,
 ⟨(some 22), .bin .gtr (.t 21) (.c (i64 6)), (some (18, false)), [], []⟩,
 ⟨(some 23), .pick (.t 18) (.c (.bool true)) (.t 22), none, [], []⟩] [1, 23]) (.cond (.t 23) (.seq (.region false [
 ⟨(some 2), .mv (.c (i64 50)), none, [], []⟩] [2]) (.ret)) (.skip))) (.seq (.region false [
 ⟨(some 3), .mv (.c (i64 0)), none, [], []⟩,
 ⟨(some 4), .mv (.c (i64 0)), none, [], []⟩] [1, 3, 4]) (.seq (.seq (.region false [
 ⟨(some 5), .mv (.c (i64 0)), none, [], []⟩] [1, 3, 4, 5]) (.block 0 (b56l0))) (.seq (.seq (.region false [
 ⟨(some 6), .mv (.c (i64 0)), none, [], []⟩] [1, 3, 4, 6]) (.block 2 (b56l1))) (.seq (.seq (.region false [
 ⟨(some 76), .mv (.t 3), none, [], []⟩,
 ⟨(some 77), .bin .gtr (.t 76) (.c (i64 12)), none, [], []⟩,
 ⟨(some 78), .mv (.t 77), none, [], []⟩,
 ⟨(some 79), .mv (.t 4), (some (78, false)), [], []⟩,
 ⟨(some 80), .bin .lss (.t 79) (.c (i64 12)), (some (78, false)), [], []⟩,
 ⟨(some 81), .pick (.t 78) (.c (.bool true)) (.t 80), none, [], []⟩] [81]) (.cond (.t 81) (.seq (.region false [
 ⟨(some 2), .mv (.c (i64 50)), none, [], []⟩] [2]) (.ret)) (.skip))) (.seq (.region false [
 ⟨(some 2), .mv (.c (i64 0)), none, [], []⟩] [2]) (.ret)))))))
def a56 : AFn := ⟨1, [.t 2], b56, false⟩
def n56 : Ann := ⟨[[1], [1, 23], [2], [1, 3, 4], [1, 3, 4, 5], [1, 3, 4, 5, 28], [1, 3, 4, 5, 37], [2], [1, 3, 4, 5], [1, 3, 4, 5], [1, 3, 4, 6], [1, 3, 4, 6, 58], [1, 3, 4, 6, 7], [1, 3, 4, 6, 75], [2], [1, 3, 4, 6], [81], [2], [2]], [⟨[], [1, 3, 4, 5], [16, 112, 160, 1088, 1168]⟩, ⟨[], [1, 3, 4, 6], [16, 160, 576]⟩], [], [], [], false, []⟩

/-- almadraba/almadrabaref13.areSkies -/
def b57 : AC :=
 .seq (.region false [
 ⟨(some 2), .box (.t 0), none, [], []⟩,
 ⟨(some 4), .mv (.c (.bool false)), none, [], []⟩] [1, 2]) (.seq (.region false [
 ⟨(some 5), .mv (.t 1), none, [], []⟩,
 ⟨(some 6), .len (.t 5), none, [], []⟩,
 ⟨(some 7), .bin .gtr (.t 6) (.c (i64 0)), none, [], []⟩,
 ⟨(some 8), .mv (.t 7), none, [], []⟩,
 ⟨(some 9), .mv (.t 1), (some (8, true)), [], []⟩,
 ⟨(some 10), .faddr 11 (.t 2), (some (8, true)), [], []⟩,
 ⟨(some 11), .load none (.t 10), (some (8, true)), [], []⟩,
 ⟨(some 12), .len (.t 11), (some (8, true)), [], []⟩,
 ⟨(some 13), .bin .sub (.t 12) (.c (i64 1)), (some (8, true)), [], []⟩,
 ⟨(some 14), .call 73 [(.t 9), (.c (i64 0)), (.t 13)], (some (8, true)), [], []⟩,
 ⟨(some 15), .pick (.t 8) (.t 14) (.c (.bool false)), none, [], []⟩,
 ⟨(some 4), .mv (.t 15), none, [], []⟩] [4]) (.ret))
def a57 : AFn := ⟨2, [.t 4], b57, false⟩
def n57 : Ann := ⟨[[1, 2], [4]], [], [], [], [], false, []⟩

/-- almadraba/almadrabaref13.isSpan -/
def b58 : AC :=
 .seq (.region false [
 ⟨(some 2), .box (.t 0), none, [], []⟩,
 ⟨(some 4), .mv (.c (.bool false)), none, [], []⟩] [1, 2]) (.seq (.region false [
 ⟨(some 5), .faddr 1 (.t 2), none, [], []⟩,
 ⟨(some 6), .load none (.t 5), none, [], []⟩,
 ⟨(some 7), .mv (.t 1), none, [], []⟩,
 ⟨(some 8), .call 33 [(.t 6), (.c (i64 0)), (.t 7)], none, [], []⟩,
 ⟨(some 9), .mv (.t 8), none, [], []⟩,
 ⟨(some 10), .faddr 0 (.t 2), (some (9, true)), [], []⟩,
 ⟨(some 11), .load none (.t 10), (some (9, true)), [], []⟩,
 ⟨(some 12), .faddr 1 (.t 2), (some (9, true)), [], []⟩,
 ⟨(some 13), .load none (.t 12), (some (9, true)), [], []⟩,
 ⟨(some 14), .call 33 [(.t 11), (.c (i64 0)), (.t 13)], (some (9, true)), [], []⟩,
 ⟨(some 15), .pick (.t 9) (.t 14) (.c (.bool false)), none, [], []⟩,
 ⟨(some 4), .mv (.t 15), none, [], []⟩] [4]) (.ret))
def a58 : AFn := ⟨2, [.t 4], b58, false⟩
def n58 : Ann := ⟨[[1, 2], [4]], [], [], [], [], false, [(9, 128)]⟩

/-- almadraba/almadrabalaw05.Example -/
def b59 : AC :=
 .seq (.region false [
 ⟨(some 0), .alloc [(i64 0), (i64 0), (.sl .full 2 []), (.sl .full 2 [])], none, [], []⟩,
 ⟨(some 1), .alloc [(i64 0), (i64 0), (.sl .full 2 []), (.sl .full 2 [])], none, [], []⟩] [0, 1]) (.seq (.region false [
 ⟨(some 2), .build [(i64 0), (i64 0)] [(0, 1, (.c (i64 100))), (1, 1, (.c (i64 120)))], none, [], []⟩,
 ⟨(some 3), .build [(i64 0), (i64 0)] [(0, 1, (.c (i64 2))), (1, 1, (.c (i64 6)))], none, [], []⟩,
 ⟨(some 4), .build [(i64 0), (i64 0)] [(0, 1, (.c (i64 3))), (1, 1, (.c (i64 5)))], none, [], []⟩,
 ⟨(some 5), .build [(i64 0), (i64 0)] [(0, 1, (.c (i64 4))), (1, 1, (.c (i64 6)))], none, [], []⟩,
 ⟨(some 6), .lit [(i64 0), (i64 0)] 3 [(0, (.t 3)), (1, (.t 4)), (2, (.t 5))], none, [], []⟩,
 ⟨(some 7), .build [(i64 0), (i64 0)] [(0, 1, (.c (i64 50))), (1, 1, (.c (i64 4)))], none, [], []⟩,
 ⟨(some 8), .build [(i64 0), (i64 0)] [(0, 1, (.c (i64 60))), (1, 1, (.c (i64 7)))], none, [], []⟩,
 ⟨(some 9), .build [(i64 0), (i64 0)] [(0, 1, (.c (i64 45))), (1, 1, (.c (i64 2)))], none, [], []⟩,
 ⟨(some 10), .build [(i64 0), (i64 0)] [(0, 1, (.c (i64 70))), (1, 1, (.c (i64 9)))], none, [], []⟩,
 ⟨(some 11), .lit [(i64 0), (i64 0)] 4 [(0, (.t 7)), (1, (.t 8)), (2, (.t 9)), (3, (.t 10))], none, [], []⟩,
 ⟨(some 12), .build [(i64 0), (i64 0), (.sl .full 2 []), (.sl .full 2 [])] [(0, 2, (.t 2)), (2, 1, (.t 6)), (3, 1, (.t 11))], none, [], []⟩,
 ⟨none, .store 4 (.t 0) (.t 12), none, [], []⟩] [0, 1]) (.seq (.region false [
 ⟨(some 13), .load (some 4) (.t 0), none, [], []⟩,
 ⟨(some 14), .call 40 [(.t 13)], none, [], []⟩,
 ⟨none, .store 4 (.t 1) (.t 14), none, [], []⟩] [0, 1]) (.seq (.seq (.freeze [224, 1224, 2224, 3224, 4224, 5224, 6224, 7224, 8224]) (.region true (spl [
 ⟨(some 15), .faddr 3 (.t 0), none, [], []⟩,
 ⟨(some 16), .load none (.t 15), none, [0], []⟩,
 ⟨(some 17), .idxs 2 (.t 16) (.c (i64 0)), none, [1, 0], []⟩,
 ⟨(some 18), .load (some 2) (.t 17), none, [2, 1, 0], []⟩,
 ⟨(some 19), .faddr 3 (.t 0), none, [], []⟩,
 ⟨(some 20), .load none (.t 19), none, [4], []⟩,
 ⟨(some 21), .idxs 2 (.t 20) (.c (i64 2)), none, [5, 4], []⟩,
 ⟨(some 22), .load (some 2) (.t 21), none, [6, 5, 4], []⟩] [
 ⟨(some 23), .lit [(i64 0), (i64 0)] 2 [(0, (.t 18)), (1, (.t 22))], none, [3, 7, 2, 1, 0, 6, 5, 4], []⟩,
 ⟨(some 24), .faddr 3 (.t 1), none, [8, 3, 7, 2, 1, 0, 6, 5, 4], []⟩,
 ⟨none, .store 1 (.t 24) (.t 23), none, [9, 8, 3, 7, 2, 1, 0, 6, 5, 4], []⟩]) [0, 1])) (.seq (.region true (spl [
 ⟨(some 25), .load (some 4) (.t 0), none, [], []⟩,
 ⟨(some 26), .load (some 4) (.t 1), none, [], [0]⟩,
 ⟨none, .store 4 (.t 0) (.t 25), none, [0], []⟩] [
 ⟨none, .store 4 (.t 1) (.t 26), none, [1, 2, 0], []⟩]) [0, 1]) (.ret)))))
def a59 : AFn := ⟨0, [.cell 0 (some 4), .cell 1 (some 4)], b59, false⟩
def n59 : Ann := ⟨[[0, 1], [0, 1], [0, 1], [0, 1], [0, 1]], [], [], [[], [], [], [224, 1224, 2224, 3224, 4224, 5224, 6224, 7224, 8224], []], [], false, []⟩

/-- (*almadraba/skies.season).worth -/
def b60 : AC :=
 .seq (.region false [
 ⟨(some 6), .mv (.c (i64 0)), none, [], []⟩] [0, 1, 2]) (.seq (.seq (.region false [
 ⟨(some 8), .mv (.t 1), none, [], []⟩,
 ⟨(some 9), .mv (.t 0), none, [], []⟩,
 ⟨(some 10), .nilck (.t 9), none, [], []⟩,
 ⟨(some 11), .faddr 0 (.t 10), none, [], []⟩,
 ⟨(some 12), .faddr 14 (.t 11), none, [], []⟩,
 ⟨(some 13), .load none (.t 12), none, [], []⟩,
 ⟨(some 14), .len (.t 13), none, [], []⟩,
 ⟨(some 15), .bin .eql (.t 8) (.t 14), none, [], []⟩] [0, 1, 2, 15]) (.cond (.t 15) (.seq (.region false [
 ⟨(some 6), .mv (.c (i64 0)), none, [], []⟩] [6]) (.ret)) (.skip))) (.seq (.region false [
 ⟨(some 16), .mv (.t 0), none, [], []⟩,
 ⟨(some 17), .mv (.t 1), none, [], []⟩,
 ⟨(some 18), .bin .add (.t 17) (.c (i64 1)), none, [], []⟩,
 ⟨(some 19), .mv (.t 0), none, [], []⟩,
 ⟨(some 20), .nilck (.t 19), none, [], []⟩,
 ⟨(some 21), .faddr 0 (.t 20), none, [], []⟩,
 ⟨(some 22), .faddr 12 (.t 21), none, [], []⟩,
 ⟨(some 23), .load none (.t 22), none, [], []⟩,
 ⟨(some 24), .mv (.t 2), none, [], []⟩,
 ⟨(some 25), .idxs 1 (.t 23) (.t 24), none, [], []⟩,
 ⟨(some 26), .load none (.t 25), none, [], []⟩,
 ⟨(some 27), .call 61 [(.t 16), (.t 18), (.t 26)], none, [], []⟩,
 ⟨(some 7), .mv (.t 27), none, [], []⟩] [0, 1, 2, 7]) (.seq (.seq (.region false [
 ⟨(some 28), .mv (.t 0), none, [], []⟩,
 ⟨(some 29), .mv (.t 1), none, [], []⟩,
 ⟨(some 30), .mv (.t 2), none, [], []⟩,
 ⟨(some 31), .call 49 [(.t 28), (.t 29), (.t 30)], none, [], []⟩] [0, 1, 7, 31]) (.cond (.t 31) (.region false [
 ⟨(some 32), .mv (.t 7), none, [], []⟩,
 ⟨(some 33), .mv (.t 0), none, [], []⟩,
 ⟨(some 34), .nilck (.t 33), none, [], []⟩,
 ⟨(some 35), .faddr 0 (.t 34), none, [], []⟩,
 ⟨(some 36), .faddr 14 (.t 35), none, [], []⟩,
 ⟨(some 37), .load none (.t 36), none, [], []⟩,
 ⟨(some 38), .mv (.t 1), none, [], []⟩,
 ⟨(some 39), .idxs 2 (.t 37) (.t 38), none, [], []⟩,
 ⟨(some 40), .faddr 0 (.t 39), none, [], []⟩,
 ⟨(some 41), .load none (.t 40), none, [], []⟩,
 ⟨(some 42), .mm true (.t 32) (.t 41), none, [], []⟩,
 ⟨(some 7), .mv (.t 42), none, [], []⟩] [7]) (.skip))) (.seq (.region false [
 ⟨(some 43), .mv (.t 7), none, [], []⟩,
 ⟨(some 6), .mv (.t 43), none, [], []⟩] [6]) (.ret)))))
def a60 : AFn := ⟨3, [.t 6], b60, false⟩
def n60 : Ann := ⟨[[0, 1, 2], [0, 1, 2, 15], [6], [0, 1, 2, 7], [0, 1, 7, 31], [7], [6]], [], [], [], [], false, [(6, 432), (43, 432), (32, 432), (7, 432)]⟩

/-- (*almadraba/skies.season).least -/
def b61l0 : AC :=
 .loop [0, 1, 7, 10, 11, 12] [] (.seq (.region false [
 ⟨(some 13), .bin .lss (.t 12) (.t 11), none, [], []⟩] [0, 1, 7, 10, 11, 12, 13]) (.seq (.cond (.t 13) (.skip) (.exit 0)) (.seq (.block 1 (.seq (.region false [
 ⟨(some 14), .idxs 1 (.t 10) (.t 12), none, [], []⟩,
 ⟨(some 15), .load none (.t 14), none, [], []⟩,
 ⟨(some 9), .mv (.t 15), none, [], []⟩] [0, 1, 7, 9, 10, 11, 12]) (.region false [
 ⟨(some 16), .mv (.t 7), none, [], []⟩,
 ⟨(some 17), .mv (.t 0), none, [], []⟩,
 ⟨(some 18), .mv (.t 1), none, [], []⟩,
 ⟨(some 19), .mv (.t 9), none, [], []⟩,
 ⟨(some 20), .call 60 [(.t 17), (.t 18), (.t 19)], none, [], []⟩,
 ⟨(some 21), .mm false (.t 16) (.t 20), none, [], []⟩,
 ⟨(some 7), .mv (.t 21), none, [], []⟩] [0, 1, 7, 10, 11, 12]))) (.region false [
 ⟨(some 22), .bin .add (.t 12) (.c (i64 1)), none, [], []⟩,
 ⟨(some 12), .mv (.t 22), none, [], []⟩] [0, 1, 7, 10, 11, 12]))))
/-- (*almadraba/skies.season).least -/
def b61 : AC :=
 .seq (.region false [
 ⟨(some 6), .mv (.c (i64 0)), none, [], []⟩] [0, 1, 2]) (.seq (.region false [
 ⟨(some 7), .mv (.c (i64 2000)), none, [], []⟩] [0, 1, 2, 7]) (.seq (.seq (.region false [
 ⟨(some 10), .mv (.t 2), none, [], []⟩,
 ⟨(some 11), .len (.t 10), none, [], []⟩,
 ⟨(some 12), .mv (.c (i64 0)), none, [], []⟩] [0, 1, 7, 10, 11, 12]) (.block 0 (b61l0))) (.seq (.region false [
 ⟨(some 23), .mv (.t 7), none, [], []⟩,
 ⟨(some 6), .mv (.t 23), none, [], []⟩] [6]) (.ret))))
def a61 : AFn := ⟨3, [.t 6], b61, false⟩
def n61 : Ann := ⟨[[0, 1, 2], [0, 1, 2, 7], [0, 1, 7, 10, 11, 12], [0, 1, 7, 10, 11, 12, 13], [0, 1, 7, 9, 10, 11, 12], [0, 1, 7, 10, 11, 12], [0, 1, 7, 10, 11, 12], [6]], [⟨[], [0, 1, 7, 10, 11, 12], []⟩], [], [], [], false, []⟩

/-- (*almadraba/skies.season).brings -/
def b62l0 : AC :=
 .loop [0, 7, 8, 9] [] (.seq (.region false [
 ⟨(some 10), .bin .lss (.t 9) (.t 8), none, [], []⟩] [0, 7, 8, 9, 10]) (.seq (.cond (.t 10) (.skip) (.exit 0)) (.seq (.block 1 (.seq (.region false [
 ⟨(some 11), .mv (.t 9), none, [], []⟩,
 ⟨(some 12), .idxs 1 (.t 7) (.t 9), none, [], []⟩,
 ⟨(some 13), .load none (.t 12), none, [], []⟩,
 ⟨(some 5), .mv (.t 11), none, [], []⟩,
 ⟨(some 6), .mv (.t 13), none, [], []⟩] [0, 5, 6, 7, 8, 9]) (.seq (.region false [
 ⟨(some 14), .mv (.t 0), none, [], []⟩,
 ⟨(some 15), .mv (.t 5), none, [], []⟩,
 ⟨(some 16), .mv (.t 6), none, [], []⟩,
 ⟨(some 17), .call 51 [(.t 14), (.t 15), (.t 16)], none, [], []⟩] [0, 5, 7, 8, 9, 17]) (.cond (.t 17) (.seq (.region false [
 ⟨(some 18), .mv (.t 0), none, [], []⟩,
 ⟨(some 19), .nilck (.t 18), none, [], []⟩,
 ⟨(some 20), .faddr 0 (.t 19), none, [], []⟩,
 ⟨(some 21), .faddr 14 (.t 20), none, [], []⟩,
 ⟨(some 22), .load none (.t 21), none, [], []⟩,
 ⟨(some 23), .mv (.t 5), none, [], []⟩,
 ⟨(some 24), .idxs 2 (.t 22) (.t 23), none, [], []⟩,
 ⟨(some 25), .faddr 0 (.t 24), none, [], []⟩,
 ⟨(some 26), .load none (.t 25), none, [], []⟩,
 ⟨(some 4), .mv (.t 26), none, [], []⟩] [4]) (.ret)) (.skip))))) (.region false [
 ⟨(some 27), .bin .add (.t 9) (.c (i64 1)), none, [], []⟩,
 ⟨(some 9), .mv (.t 27), none, [], []⟩] [0, 7, 8, 9]))))
/-- (*almadraba/skies.season).brings -/
def b62 : AC :=
 .seq (.region false [
 ⟨(some 4), .mv (.c (i64 0)), none, [], []⟩] [0, 1]) (.seq (.seq (.region false [
 ⟨(some 7), .mv (.t 1), none, [], []⟩,
 ⟨(some 8), .len (.t 7), none, [], []⟩,
 ⟨(some 9), .mv (.c (i64 0)), none, [], []⟩] [0, 7, 8, 9]) (.block 0 (b62l0))) (.seq (.region false [
 ⟨(some 4), .mv (.c (i64 0)), none, [], []⟩] [4]) (.ret)))
def a62 : AFn := ⟨2, [.t 4], b62, false⟩
def n62 : Ann := ⟨[[0, 1], [0, 7, 8, 9], [0, 7, 8, 9, 10], [0, 5, 6, 7, 8, 9], [0, 5, 7, 8, 9, 17], [4], [0, 7, 8, 9], [4]], [⟨[], [0, 7, 8, 9], []⟩], [], [], [], false, []⟩

/-- almadraba/skies.Check -/
def b63l0 : AC :=
 .loop [1, 3, 49, 50, 51] [16, 112, 176, 256, 368, 720, 1360] (.seq (.region false [
 ⟨(some 52), .bin .lss (.t 51) (.t 50), none, [], []⟩] [1, 3, 49, 50, 51, 52]) (.seq (.cond (.t 52) (.skip) (.exit 0)) (.seq (.block 1 (.seq (.region false [
 ⟨(some 53), .mv (.t 51), none, [], []⟩,
 ⟨(some 54), .idxs 4 (.t 49) (.t 51), none, [], []⟩,
 ⟨(some 55), .load (some 4) (.t 54), none, [], []⟩,
 ⟨(some 5), .alloc [(i64 0), (i64 0), (i64 0), (i64 0)], none, [], []⟩,
 ⟨(some 4), .mv (.t 53), none, [], []⟩,
 ⟨none, .store 4 (.t 5) (.t 55), none, [], []⟩] [1, 3, 4, 5, 49, 50, 51]) (.seq (.region false [
 ⟨(some 56), .faddr 0 (.t 5), none, [], []⟩,
 ⟨(some 57), .load (some 2) (.t 56), none, [], []⟩,
 ⟨(some 58), .call 77 [(.t 57), (.c (i64 20))], none, [], []⟩,
 ⟨(some 59), .un .not (.t 58), none, [], []⟩,
 ⟨(some 60), .mv (.t 59), none, [], []⟩,
 ⟨(some 61), .faddr 2 (.t 5), (some (60, false)), [], []⟩,
 ⟨(some 62), .load (some 2) (.t 61), (some (60, false)), [], []⟩,
 ⟨(some 63), .call 77 [(.t 62), (.c (i64 20))], (some (60, false)), [], []⟩,
 ⟨(some 64), .un .not (.t 63), (some (60, false)), [], []⟩,
 ⟨(some 65), .pick (.t 60) (.c (.bool true)) (.t 64), none, [], []⟩,
 ⟨(some 66), .mv (.t 65), none, [], []⟩,
 ⟨(some 67), .mv (.t 3), (some (66, false)), [], []⟩,
 ⟨(some 68), .faddr 12 (.t 1), (some (66, false)), [], []⟩,
 ⟨(some 69), .load none (.t 68), (some (66, false)), [], []⟩,
 ⟨(some 70), .mv (.t 4), (some (66, false)), [], []⟩,
 ⟨(some 71), .idxs 1 (.t 69) (.t 70), (some (66, false)), [], []⟩,
 ⟨(some 72), .load none (.t 71), (some (66, false)), [], []⟩,
 ⟨(some 73), .callv (.t 67) [(.t 72)], (some (66, false)), [], []⟩,
 ⟨(some 74), .un .not (.t 73), (some (66, false)), [], []⟩,
 ⟨(some 75), .pick (.t 66) (.c (.bool true)) (.t 74), none, [], []⟩] [1, 3, 49, 50, 51, 75]) (.cond (.t 75) (.seq (.region false [
 ⟨(some 2), .mv (.c (i64 130)), none, [], []⟩] [2]) (.ret)) (.skip))))) (.region false [
 ⟨(some 76), .bin .add (.t 51) (.c (i64 1)), none, [], []⟩,
 ⟨(some 51), .mv (.t 76), none, [], []⟩] [1, 3, 49, 50, 51]))))
/-- almadraba/skies.Check -/
def b63l1 : AC :=
 .loop [78, 79, 80] [16, 80, 176, 256, 368, 720, 928, 1008, 1168] (.seq (.region false [
 ⟨(some 81), .bin .lss (.t 80) (.t 79), none, [], []⟩] [78, 79, 80, 81]) (.seq (.cond (.t 81) (.skip) (.exit 2)) (.seq (.block 3 (.seq (.region false [
 ⟨(some 82), .idxs 2 (.t 78) (.t 80), none, [], []⟩,
 ⟨(some 83), .load (some 2) (.t 82), none, [], []⟩,
 ⟨(some 7), .alloc [(i64 0), (i64 0)], none, [], []⟩,
 ⟨none, .store 2 (.t 7) (.t 83), none, [], []⟩] [7, 78, 79, 80]) (.seq (.region false [
 ⟨(some 84), .load (some 2) (.t 7), none, [], []⟩,
 ⟨(some 85), .call 77 [(.t 84), (.c (i64 2000))], none, [], []⟩,
 ⟨(some 86), .un .not (.t 85), none, [], []⟩] [78, 79, 80, 86]) (.cond (.t 86) (.seq (.region false [
 ⟨(some 2), .mv (.c (i64 130)), none, [], []⟩] [2]) (.ret)) (.skip))))) (.region false [
 ⟨(some 87), .bin .add (.t 80) (.c (i64 1)), none, [], []⟩,
 ⟨(some 80), .mv (.t 87), none, [], []⟩] [78, 79, 80]))))
/-- almadraba/skies.Check -/
def b63 : AC :=
 .seq (.region false [
 ⟨(some 1), .box (.t 0), none, [], []⟩,
 ⟨(some 2), .mv (.c (i64 0)), none, [], []⟩] [1]) (.seq (.region false [
 ⟨(some 8), .mkfn 74 [] [(.t 1)], none, [], []⟩,
 ⟨(some 3), .mv (.t 8), none, [], []⟩] [1, 3]) (.seq (.seq (.region false [
 ⟨(some 9), .faddr 0 (.t 1), none, [], []⟩,
 ⟨(some 10), .load (some 7) (.t 9), none, [], []⟩,
 ⟨(some 11), .call 75 [(.t 10)], none, [], []⟩,
 ⟨(some 12), .bin .neq (.t 11) (.c (i64 0)), none, [], []⟩,
 ⟨(some 13), .mv (.t 12), none, [], []⟩,
 ⟨(some 14), .faddr 7 (.t 1), (some (13, false)), [], []⟩,
 ⟨(some 15), .load (some 4) (.t 14), (some (13, false)), [], []⟩,
 ⟨(some 16), .call 76 [(.t 15)], (some (13, false)), [], []⟩,
 ⟨(some 17), .bin .neq (.t 16) (.c (i64 0)), (some (13, false)), [], []⟩,
 ⟨(some 18), .pick (.t 13) (.c (.bool true)) (.t 17), none, [], []⟩,
 ⟨(some 19), .mv (.t 18), none, [], []⟩,
 ⟨(some 20), .faddr 11 (.t 1), (some (19, false)), [], []⟩,
 ⟨(some 21), .load none (.t 20), (some (19, false)), [], []⟩,
 ⟨(some 22), .len (.t 21), (some (19, false)), [], []⟩,
 ⟨(some 23), .call 66 [(.t 22), (.c (i64 1)), (.c (i64 4))], (some (19, false)), [], []⟩,
 ⟨(some 24), .un .not (.t 23), (some (19, false)), [], []⟩,
 ⟨(some 25), .pick (.t 19) (.c (.bool true)) (.t 24), none, [], []⟩,
 ⟨(some 26), .mv (.t 25), none, [], []⟩,
 ⟨(some 27), .faddr 12 (.t 1), (some (26, false)), [], []⟩,
 ⟨(some 28), .load none (.t 27), (some (26, false)), [], []⟩,
 ⟨(some 29), .len (.t 28), (some (26, false)), [], []⟩,
 ⟨(some 30), .faddr 11 (.t 1), (some (26, false)), [], []⟩,
 ⟨(some 31), .load none (.t 30), (some (26, false)), [], []⟩,
 ⟨(some 32), .len (.t 31), (some (26, false)), [], []⟩,
 ⟨(some 33), .bin .neq (.t 29) (.t 32), (some (26, false)), [], []⟩,
 ⟨(some 34), .pick (.t 26) (.c (.bool true)) (.t 33), none, [], []⟩,
 ⟨(some 35), .mv (.t 34), none, [], []⟩,
 ⟨(some 36), .faddr 14 (.t 1), (some (35, false)), [], []⟩,
 ⟨(some 37), .load none (.t 36), (some (35, false)), [], []⟩,
 ⟨(some 38), .len (.t 37), (some (35, false)), [], []⟩,
 ⟨(some 39), .bin .gtr (.t 38) (.c (i64 5)), (some (35, false)), [], []⟩,
 ⟨(some 40), .pick (.t 35) (.c (.bool true)) (.t 39), none, [], []⟩,
 ⟨(some 41), .mv (.t 40), none, [], []⟩,
 ⟨(some 42), .mv (.t 3), (some (41, false)), [], []⟩,
 ⟨(some 43), .faddr 13 (.t 1), (some (41, false)), [], []⟩,
 ⟨(some 44), .load none (.t 43), (some (41, false)), [], []⟩,
 ⟨(some 45), .callv (.t 42) [(.t 44)], (some (41, false)), [], []⟩,
 ⟨(some 46), .un .not (.t 45), (some (41, false)), [], []⟩,
 ⟨(some 47), .pick (.t 41) (.c (.bool true)) (.t 46), none, [], []⟩] [1, 3, 47]) (.cond (.t 47) (.seq (.region false [
 ⟨(some 2), .mv (.c (i64 130)), none, [], []⟩] [2]) (.ret)) (.skip))) (.seq (.seq (.region false [
 ⟨(some 48), .faddr 11 (.t 1), none, [], []⟩,
 ⟨(some 49), .load none (.t 48), none, [], []⟩,
 ⟨(some 50), .len (.t 49), none, [], []⟩,
 ⟨(some 51), .mv (.c (i64 0)), none, [], []⟩] [1, 3, 49, 50, 51]) (.block 0 (b63l0))) (.seq (.seq (.region false [
 ⟨(some 77), .faddr 14 (.t 1), none, [], []⟩,
 ⟨(some 78), .load none (.t 77), none, [], []⟩,
 ⟨(some 79), .len (.t 78), none, [], []⟩,
 ⟨(some 80), .mv (.c (i64 0)), none, [], []⟩] [78, 79, 80]) (.block 2 (b63l1))) (.seq (.region false [
 ⟨(some 2), .mv (.c (i64 0)), none, [], []⟩] [2]) (.ret))))))
def a63 : AFn := ⟨1, [.t 2], b63, false⟩
def n63 : Ann := ⟨[[1], [1, 3], [1, 3, 47], [2], [1, 3, 49, 50, 51], [1, 3, 49, 50, 51, 52], [1, 3, 4, 5, 49, 50, 51], [1, 3, 49, 50, 51, 75], [2], [1, 3, 49, 50, 51], [78, 79, 80], [78, 79, 80, 81], [7, 78, 79, 80], [78, 79, 80, 86], [2], [78, 79, 80], [2]], [⟨[], [1, 3, 49, 50, 51], [16, 112, 176, 256, 368, 720, 1360]⟩, ⟨[], [78, 79, 80], [16, 80, 176, 256, 368, 720, 928, 1008, 1168]⟩], [], [], [], false, []⟩

/-- almadraba/anchors.Safe -/
def b64 : AC :=
 .seq (.region false [
 ⟨(some 1), .box (.t 0), none, [], []⟩,
 ⟨(some 2), .mv (.c (i64 0)), none, [], []⟩,
 ⟨(some 3), .mv (.c (i64 0)), none, [], []⟩] [1]) (.seq (.seq (.region false [
 ⟨(some 5), .load (some 7) (.t 1), none, [], []⟩,
 ⟨(some 6), .call 75 [(.t 5)], none, [], []⟩,
 ⟨(some 4), .mv (.t 6), none, [], []⟩] [1, 4]) (.seq (.region false [
 ⟨(some 7), .mv (.t 4), none, [], []⟩,
 ⟨(some 8), .bin .neq (.t 7) (.c (i64 0)), none, [], []⟩] [1, 4, 8]) (.cond (.t 8) (.seq (.region false [
 ⟨(some 9), .mv (.t 4), none, [], []⟩,
 ⟨(some 2), .mv (.c (i64 0)), none, [], []⟩,
 ⟨(some 3), .mv (.t 9), none, [], []⟩] [2, 3]) (.ret)) (.skip)))) (.seq (.region true (spl [
 ⟨(some 10), .load (some 7) (.t 1), none, [], []⟩,
 ⟨(some 11), .call 79 [(.t 10)], none, [0], []⟩,
 ⟨(some 12), .call 80 [(.t 11), (.c (.int .u64 0))], none, [1, 0], []⟩,
 ⟨(some 13), .bin .eql (.t 12) (.c (.int .u64 0)), none, [2, 1, 0], []⟩,
 ⟨(some 14), .load (some 7) (.t 1), none, [], []⟩,
 ⟨(some 15), .call 81 [(.t 14)], none, [4, 2, 1, 0], []⟩,
 ⟨(some 16), .call 80 [(.t 15), (.c (.int .u64 0))], none, [5, 4, 2, 1, 0], []⟩,
 ⟨(some 17), .bin .eql (.t 16) (.c (.int .u64 0)), none, [6, 5, 4, 2, 1, 0], []⟩] [
 ⟨(some 18), .call 78 [(.t 13), (.t 17)], none, [3, 7, 6, 5, 4, 2, 1, 0], []⟩,
 ⟨(some 2), .mv (.t 18), none, [8, 3, 7, 6, 5, 4, 2, 1, 0], []⟩,
 ⟨(some 3), .mv (.c (i64 0)), none, [9, 8, 3, 7, 6, 5, 4, 2, 1, 0], []⟩]) [2, 3]) (.ret)))
def a64 : AFn := ⟨1, [.t 2, .t 3], b64, false⟩
def n64 : Ann := ⟨[[1], [1, 4], [1, 4, 8], [2, 3], [2, 3]], [], [], [], [], false, [(2, 288), (3, 96), (9, 96), (7, 96), (4, 96)]⟩

/-- almadraba/lifts.Cheap -/
def b65 : AC :=
 .seq (.region false [
 ⟨(some 1), .box (.t 0), none, [], []⟩,
 ⟨(some 2), .mv (.c (i64 0)), none, [], []⟩,
 ⟨(some 3), .mv (.c (i64 0)), none, [], []⟩] [1]) (.seq (.region false [
 ⟨(some 9), .load (some 4) (.t 1), none, [], []⟩,
 ⟨(some 10), .call 82 [(.t 9), (.c (.bool true))], none, [], []⟩,
 ⟨(some 8), .mv (.t 10), none, [], []⟩,
 ⟨(some 11), .ext (.t 8) 0, none, [], []⟩,
 ⟨(some 12), .ext (.t 8) 1, none, [], []⟩,
 ⟨(some 4), .mv (.t 11), none, [], []⟩,
 ⟨(some 5), .mv (.t 12), none, [], []⟩] [4, 5]) (.seq (.seq (.region false [
 ⟨(some 13), .mv (.t 5), none, [], []⟩,
 ⟨(some 14), .bin .neq (.t 13) (.c (i64 0)), none, [], []⟩] [4, 5, 14]) (.cond (.t 14) (.seq (.region false [
 ⟨(some 15), .mv (.t 5), none, [], []⟩,
 ⟨(some 2), .mv (.c (i64 0)), none, [], []⟩,
 ⟨(some 3), .mv (.t 15), none, [], []⟩] [2, 3]) (.ret)) (.skip))) (.seq (.region false [
 ⟨(some 17), .mv (.t 4), none, [], []⟩,
 ⟨(some 18), .call 83 [(.t 17)], none, [], []⟩,
 ⟨(some 16), .mv (.t 18), none, [], []⟩,
 ⟨(some 19), .ext (.t 16) 0, none, [], []⟩,
 ⟨(some 20), .ext (.t 16) 1, none, [], []⟩,
 ⟨(some 6), .mv (.t 19), none, [], []⟩,
 ⟨(some 7), .mv (.t 20), none, [], []⟩] [7]) (.seq (.seq (.region false [
 ⟨(some 21), .mv (.t 7), none, [], []⟩,
 ⟨(some 22), .bin .lss (.t 21) (.c (i64 0)), none, [], []⟩] [7, 22]) (.cond (.t 22) (.seq (.region false [
 ⟨(some 2), .mv (.c (i64 0)), none, [], []⟩,
 ⟨(some 3), .mv (.c (i64 3)), none, [], []⟩] [2, 3]) (.ret)) (.skip))) (.seq (.region false [
 ⟨(some 23), .mv (.t 7), none, [], []⟩,
 ⟨(some 2), .mv (.t 23), none, [], []⟩,
 ⟨(some 3), .mv (.c (i64 0)), none, [], []⟩] [2, 3]) (.ret))))))
def a65 : AFn := ⟨1, [.t 2, .t 3], b65, false⟩
def n65 : Ann := ⟨[[1], [4, 5], [4, 5, 14], [2, 3], [7], [7, 22], [2, 3], [2, 3]], [], [], [], [], false, [(2, 288), (23, 288), (21, 288), (7, 288), (6, 288), (20, 288), (19, 288), (16, 288), (17, 160), (3, 160), (15, 160), (13, 160), (5, 160), (4, 160), (12, 160), (11, 160), (8, 160)]⟩

/-- almadraba/skies.within -/
def b66 : AC :=
 .seq (.region false [
 ⟨(some 6), .mv (.c (.bool false)), none, [], []⟩] [0, 1, 2]) (.seq (.region false [
 ⟨(some 7), .mv (.t 0), none, [], []⟩,
 ⟨(some 8), .mv (.t 1), none, [], []⟩,
 ⟨(some 9), .bin .geq (.t 7) (.t 8), none, [], []⟩,
 ⟨(some 10), .mv (.t 9), none, [], []⟩,
 ⟨(some 11), .mv (.t 0), (some (10, true)), [], []⟩,
 ⟨(some 12), .mv (.t 2), (some (10, true)), [], []⟩,
 ⟨(some 13), .bin .leq (.t 11) (.t 12), (some (10, true)), [], []⟩,
 ⟨(some 14), .pick (.t 10) (.t 13) (.c (.bool false)), none, [], []⟩,
 ⟨(some 6), .mv (.t 14), none, [], []⟩] [6]) (.ret))
def a66 : AFn := ⟨3, [.t 6], b66, false⟩
def n66 : Ann := ⟨[[0, 1, 2], [6]], [], [], [], [], false, []⟩

/-- (*almadraba/skies.season).courses$1 -/
def b67l0 : AC :=
 .loop [0, 2, 4, 22, 23, 24] [336] (.seq (.region false [
 ⟨(some 25), .bin .lss (.t 24) (.t 23), none, [], []⟩] [0, 2, 4, 22, 23, 24, 25]) (.seq (.cond (.t 25) (.skip) (.exit 0)) (.seq (.block 1 (.seq (.region false [
 ⟨(some 26), .idxs 1 (.t 22) (.t 24), none, [], []⟩,
 ⟨(some 27), .load none (.t 26), none, [], []⟩,
 ⟨(some 9), .mv (.t 27), none, [], []⟩] [0, 2, 4, 9, 22, 23, 24]) (.seq (.region true (spl [
 ⟨(some 28), .load none (.t 4), none, [], []⟩,
 ⟨(some 29), .mv (.t 0), none, [], []⟩,
 ⟨(some 30), .mv (.t 0), none, [], []⟩,
 ⟨(some 31), .len (.t 30), none, [2], []⟩,
 ⟨(some 32), .mv (.t 0), none, [], []⟩,
 ⟨(some 33), .len (.t 32), none, [4], []⟩,
 ⟨(some 34), .slice 1 (.t 29) none (some (.t 31)) (some (.t 33)), none, [1, 3, 5, 2, 4], []⟩,
 ⟨(some 35), .mv (.t 9), none, [], []⟩,
 ⟨(some 36), .lit [(i64 0)] 1 [(0, (.t 35))], none, [7], []⟩,
 ⟨(some 37), .app 1 8 (.t 34) (.t 36), none, [6, 8, 1, 3, 5, 2, 4, 7], []⟩,
 ⟨(some 38), .load none (.t 2), none, [], []⟩,
 ⟨(some 39), .nilck (.t 38), none, [10], []⟩,
 ⟨(some 40), .faddr 0 (.t 39), none, [11, 10], []⟩,
 ⟨(some 41), .faddr 12 (.t 40), none, [12, 11, 10], []⟩,
 ⟨(some 42), .load none (.t 41), none, [13, 12, 11, 10], []⟩,
 ⟨(some 43), .mv (.t 9), none, [], []⟩,
 ⟨(some 44), .idxs 1 (.t 42) (.t 43), none, [14, 15, 13, 12, 11, 10], []⟩,
 ⟨(some 45), .load none (.t 44), none, [16, 14, 15, 13, 12, 11, 10], []⟩] [
 ⟨(some 46), .callv (.t 28) [(.t 37), (.t 45)], none, [0, 17, 9, 16, 14, 15, 13, 12, 11, 10, 6, 8, 1, 3, 5, 2, 4, 7], []⟩,
 ⟨(some 47), .un .not (.t 46), none, [18, 0, 17, 9, 16, 14, 15, 13, 12, 11, 10, 6, 8, 1, 3, 5, 2, 4, 7], []⟩]) [0, 2, 4, 22, 23, 24, 47]) (.cond (.t 47) (.seq (.region false [
 ⟨(some 7), .mv (.c (.bool false)), none, [], []⟩] [7]) (.ret)) (.skip))))) (.region false [
 ⟨(some 48), .bin .add (.t 24) (.c (i64 1)), none, [], []⟩,
 ⟨(some 24), .mv (.t 48), none, [], []⟩] [0, 2, 4, 22, 23, 24]))))
/-- (*almadraba/skies.season).courses$1 -/
def b67 : AC :=
 .seq (.region false [
 ⟨(some 7), .mv (.c (.bool false)), none, [], []⟩] [0, 1, 2, 3, 4]) (.seq (.seq (.region false [
 ⟨(some 10), .mv (.t 0), none, [], []⟩,
 ⟨(some 11), .len (.t 10), none, [], []⟩,
 ⟨(some 12), .load none (.t 2), none, [], []⟩,
 ⟨(some 13), .nilck (.t 12), none, [], []⟩,
 ⟨(some 14), .faddr 0 (.t 13), none, [], []⟩,
 ⟨(some 15), .faddr 14 (.t 14), none, [], []⟩,
 ⟨(some 16), .load none (.t 15), none, [], []⟩,
 ⟨(some 17), .len (.t 16), none, [], []⟩,
 ⟨(some 18), .bin .eql (.t 11) (.t 17), none, [], []⟩] [0, 1, 2, 3, 4, 18]) (.cond (.t 18) (.seq (.region false [
 ⟨(some 19), .load none (.t 3), none, [], []⟩,
 ⟨(some 20), .mv (.t 0), none, [], []⟩,
 ⟨(some 21), .callv (.t 19) [(.t 20)], none, [], []⟩,
 ⟨(some 7), .mv (.t 21), none, [], []⟩] [7]) (.ret)) (.skip))) (.seq (.seq (.region false [
 ⟨(some 22), .mv (.t 1), none, [], []⟩,
 ⟨(some 23), .len (.t 22), none, [], []⟩,
 ⟨(some 24), .mv (.c (i64 0)), none, [], []⟩] [0, 2, 4, 22, 23, 24]) (.block 0 (b67l0))) (.seq (.region false [
 ⟨(some 7), .mv (.c (.bool true)), none, [], []⟩] [7]) (.ret))))
def a67 : AFn := ⟨5, [.t 7], b67, false⟩
def n67 : Ann := ⟨[[0, 1, 2, 3, 4], [0, 1, 2, 3, 4, 18], [7], [0, 2, 4, 22, 23, 24], [0, 2, 4, 22, 23, 24, 25], [0, 2, 4, 9, 22, 23, 24], [0, 2, 4, 22, 23, 24, 47], [7], [0, 2, 4, 22, 23, 24], [7]], [⟨[], [0, 2, 4, 22, 23, 24], [336]⟩], [], [], [], false, []⟩

/-- almadraba/almadrabalaw02.Huge -/
def b68 : AC :=
 .seq (.region false [
 ⟨(some 2), .box (.t 0), none, [], []⟩,
 ⟨(some 3), .box (.t 1), none, [], []⟩,
 ⟨(some 4), .mv (.c (.bool false)), none, [], []⟩] [2, 3]) (.seq (.region false [
 ⟨(some 5), .faddr 4 (.t 2), none, [], []⟩,
 ⟨(some 6), .load none (.t 5), none, [], []⟩,
 ⟨(some 7), .len (.t 6), none, [], []⟩,
 ⟨(some 8), .bin .gtr (.t 7) (.c (i64 40)), none, [], []⟩,
 ⟨(some 9), .mv (.t 8), none, [], []⟩,
 ⟨(some 10), .faddr 5 (.t 2), (some (9, false)), [], []⟩,
 ⟨(some 11), .load none (.t 10), (some (9, false)), [], []⟩,
 ⟨(some 12), .len (.t 11), (some (9, false)), [], []⟩,
 ⟨(some 13), .bin .gtr (.t 12) (.c (i64 40)), (some (9, false)), [], []⟩,
 ⟨(some 14), .pick (.t 9) (.c (.bool true)) (.t 13), none, [], []⟩,
 ⟨(some 15), .mv (.t 14), none, [], []⟩,
 ⟨(some 16), .faddr 6 (.t 2), (some (15, false)), [], []⟩,
 ⟨(some 17), .load none (.t 16), (some (15, false)), [], []⟩,
 ⟨(some 18), .len (.t 17), (some (15, false)), [], []⟩,
 ⟨(some 19), .bin .gtr (.t 18) (.c (i64 40)), (some (15, false)), [], []⟩,
 ⟨(some 20), .pick (.t 15) (.c (.bool true)) (.t 19), none, [], []⟩,
 ⟨(some 21), .mv (.t 20), none, [], []⟩,
 ⟨(some 22), .faddr 2 (.t 3), (some (21, false)), [], []⟩,
 ⟨(some 23), .load none (.t 22), (some (21, false)), [], []⟩,
 ⟨(some 24), .len (.t 23), (some (21, false)), [], []⟩,
 ⟨(some 25), .bin .gtr (.t 24) (.c (i64 40)), (some (21, false)), [], []⟩,
 ⟨(some 26), .pick (.t 21) (.c (.bool true)) (.t 25), none, [], []⟩,
 ⟨(some 4), .mv (.t 26), none, [], []⟩] [4]) (.ret))
def a68 : AFn := ⟨2, [.t 4], b68, false⟩
def n68 : Ann := ⟨[[2, 3], [4]], [], [], [], [], false, []⟩

/-- almadraba/almadrabalaw05.Far -/
def b69 : AC :=
 .seq (.region false [
 ⟨(some 1), .box (.t 0), none, [], []⟩,
 ⟨(some 2), .mv (.c (.bool false)), none, [], []⟩] [1]) (.seq (.region false [
 ⟨(some 3), .faddr 2 (.t 1), none, [], []⟩,
 ⟨(some 4), .load none (.t 3), none, [], []⟩,
 ⟨(some 5), .len (.t 4), none, [], []⟩,
 ⟨(some 6), .bin .gtr (.t 5) (.c (i64 40)), none, [], []⟩,
 ⟨(some 7), .mv (.t 6), none, [], []⟩,
 ⟨(some 8), .faddr 3 (.t 1), (some (7, false)), [], []⟩,
 ⟨(some 9), .load none (.t 8), (some (7, false)), [], []⟩,
 ⟨(some 10), .len (.t 9), (some (7, false)), [], []⟩,
 ⟨(some 11), .bin .gtr (.t 10) (.c (i64 40)), (some (7, false)), [], []⟩,
 ⟨(some 12), .pick (.t 7) (.c (.bool true)) (.t 11), none, [], []⟩,
 ⟨(some 2), .mv (.t 12), none, [], []⟩] [2]) (.ret))
def a69 : AFn := ⟨1, [.t 2], b69, false⟩
def n69 : Ann := ⟨[[1], [2]], [], [], [], [], false, []⟩

/-- almadraba/almadrabaref02.isSpan -/
def b70 : AC :=
 .seq (.region false [
 ⟨(some 2), .box (.t 0), none, [], []⟩,
 ⟨(some 4), .mv (.c (.bool false)), none, [], []⟩] [1, 2]) (.seq (.region false [
 ⟨(some 5), .faddr 1 (.t 2), none, [], []⟩,
 ⟨(some 6), .load none (.t 5), none, [], []⟩,
 ⟨(some 7), .mv (.t 1), none, [], []⟩,
 ⟨(some 8), .call 71 [(.t 6), (.c (i64 0)), (.t 7)], none, [], []⟩,
 ⟨(some 9), .mv (.t 8), none, [], []⟩,
 ⟨(some 10), .faddr 0 (.t 2), (some (9, true)), [], []⟩,
 ⟨(some 11), .load none (.t 10), (some (9, true)), [], []⟩,
 ⟨(some 12), .faddr 1 (.t 2), (some (9, true)), [], []⟩,
 ⟨(some 13), .load none (.t 12), (some (9, true)), [], []⟩,
 ⟨(some 14), .call 71 [(.t 11), (.c (i64 0)), (.t 13)], (some (9, true)), [], []⟩,
 ⟨(some 15), .pick (.t 9) (.t 14) (.c (.bool false)), none, [], []⟩,
 ⟨(some 4), .mv (.t 15), none, [], []⟩] [4]) (.ret))
def a70 : AFn := ⟨2, [.t 4], b70, false⟩
def n70 : Ann := ⟨[[1, 2], [4]], [], [], [], [], false, [(9, 128)]⟩

/-- almadraba/almadrabaref02.within -/
def b71 : AC :=
 .seq (.region false [
 ⟨(some 6), .mv (.c (.bool false)), none, [], []⟩] [0, 1, 2]) (.seq (.region false [
 ⟨(some 7), .mv (.t 0), none, [], []⟩,
 ⟨(some 8), .mv (.t 1), none, [], []⟩,
 ⟨(some 9), .mv (.t 2), none, [], []⟩,
 ⟨(some 10), .call 18 [(.t 7), (.t 8), (.t 9)], none, [], []⟩,
 ⟨(some 6), .mv (.t 10), none, [], []⟩] [6]) (.ret))
def a71 : AFn := ⟨3, [.t 6], b71, false⟩
def n71 : Ann := ⟨[[0, 1, 2], [6]], [], [], [], [], false, [(6, 160)]⟩

/-- almadraba/almadrabaref05.isSpan -/
def b72 : AC :=
 .seq (.region false [
 ⟨(some 2), .box (.t 0), none, [], []⟩,
 ⟨(some 4), .mv (.c (.bool false)), none, [], []⟩] [1, 2]) (.seq (.region false [
 ⟨(some 5), .faddr 1 (.t 2), none, [], []⟩,
 ⟨(some 6), .load none (.t 5), none, [], []⟩,
 ⟨(some 7), .mv (.t 1), none, [], []⟩,
 ⟨(some 8), .call 45 [(.t 6), (.c (i64 0)), (.t 7)], none, [], []⟩,
 ⟨(some 9), .mv (.t 8), none, [], []⟩,
 ⟨(some 10), .faddr 0 (.t 2), (some (9, true)), [], []⟩,
 ⟨(some 11), .load none (.t 10), (some (9, true)), [], []⟩,
 ⟨(some 12), .faddr 1 (.t 2), (some (9, true)), [], []⟩,
 ⟨(some 13), .load none (.t 12), (some (9, true)), [], []⟩,
 ⟨(some 14), .call 45 [(.t 11), (.c (i64 0)), (.t 13)], (some (9, true)), [], []⟩,
 ⟨(some 15), .pick (.t 9) (.t 14) (.c (.bool false)), none, [], []⟩,
 ⟨(some 4), .mv (.t 15), none, [], []⟩] [4]) (.ret))
def a72 : AFn := ⟨2, [.t 4], b72, false⟩
def n72 : Ann := ⟨[[1, 2], [4]], [], [], [], [], false, [(9, 128)]⟩

/-- almadraba/almadrabaref01.Rising -/
def b73l0 : AC :=
 .loop [0, 1, 2, 7] [] (.seq (.seq (.region false [
 ⟨(some 8), .mv (.t 7), none, [], []⟩,
 ⟨(some 9), .mv (.t 0), none, [], []⟩,
 ⟨(some 10), .len (.t 9), none, [], []⟩,
 ⟨(some 11), .bin .lss (.t 8) (.t 10), none, [], []⟩] [0, 1, 2, 7, 11]) (.cond (.t 11) (.skip) (.exit 0))) (.seq (.block 1 (.seq (.region true (spl [
 ⟨(some 14), .mv (.t 0), none, [], []⟩,
 ⟨(some 15), .mv (.t 7), none, [], []⟩,
 ⟨(some 16), .idxs 1 (.t 14) (.t 15), none, [0, 1], []⟩,
 ⟨(some 17), .load none (.t 16), none, [2, 0, 1], []⟩,
 ⟨(some 18), .mv (.t 1), none, [], []⟩,
 ⟨(some 19), .mv (.t 2), none, [], []⟩,
 ⟨(some 20), .call 18 [(.t 17), (.t 18), (.t 19)], none, [3, 4, 5, 2, 0, 1], []⟩,
 ⟨(some 21), .un .not (.t 20), none, [6, 3, 4, 5, 2, 0, 1], []⟩,
 ⟨(some 22), .mv (.t 21), none, [7, 6, 3, 4, 5, 2, 0, 1], []⟩,
 ⟨(some 23), .mv (.t 7), (some (22, false)), [8, 7, 6, 3, 4, 5, 2, 0, 1], []⟩,
 ⟨(some 24), .bin .gtr (.t 23) (.c (i64 0)), (some (22, false)), [9, 8, 7, 6, 3, 4, 5, 2, 0, 1], []⟩,
 ⟨(some 25), .mv (.t 24), (some (22, false)), [10, 9, 8, 7, 6, 3, 4, 5, 2, 0, 1], []⟩,
 ⟨(some 26), .mv (.t 0), (some (25, true)), [11, 10, 9, 8, 7, 6, 3, 4, 5, 2, 0, 1], []⟩,
 ⟨(some 27), .mv (.t 7), (some (25, true)), [11, 10, 9, 8, 7, 6, 3, 4, 5, 2, 0, 1], []⟩,
 ⟨(some 28), .idxs 1 (.t 26) (.t 27), (some (25, true)), [12, 13, 11, 10, 9, 8, 7, 6, 3, 4, 5, 2, 0, 1], []⟩,
 ⟨(some 29), .load none (.t 28), (some (25, true)), [14, 12, 13, 11, 10, 9, 8, 7, 6, 3, 4, 5, 2, 0, 1], []⟩,
 ⟨(some 30), .mv (.t 0), (some (25, true)), [11, 10, 9, 8, 7, 6, 3, 4, 5, 2, 0, 1], []⟩,
 ⟨(some 31), .mv (.t 7), (some (25, true)), [11, 10, 9, 8, 7, 6, 3, 4, 5, 2, 0, 1], []⟩,
 ⟨(some 32), .bin .sub (.t 31) (.c (i64 1)), (some (25, true)), [17, 11, 10, 9, 8, 7, 6, 3, 4, 5, 2, 0, 1], []⟩,
 ⟨(some 33), .idxs 1 (.t 30) (.t 32), (some (25, true)), [16, 18, 17, 11, 10, 9, 8, 7, 6, 3, 4, 5, 2, 0, 1], []⟩,
 ⟨(some 34), .load none (.t 33), (some (25, true)), [19, 16, 18, 17, 11, 10, 9, 8, 7, 6, 3, 4, 5, 2, 0, 1], []⟩] [
 ⟨(some 35), .bin .leq (.t 29) (.t 34), (some (25, true)), [15, 20, 14, 12, 13, 19, 16, 18, 17, 11, 10, 9, 8, 7, 6, 3, 4, 5, 2, 0, 1], []⟩,
 ⟨(some 36), .pick (.t 25) (.t 35) (.c (.bool false)), (some (22, false)), [21, 15, 20, 14, 12, 13, 19, 16, 18, 17, 11, 10, 9, 8, 7, 6, 3, 4, 5, 2, 0, 1], []⟩,
 ⟨(some 37), .pick (.t 22) (.c (.bool true)) (.t 36), none, [22, 21, 15, 20, 14, 12, 13, 19, 16, 18, 17, 11, 10, 9, 8, 7, 6, 3, 4, 5, 2, 0, 1], []⟩]) [0, 1, 2, 7, 37]) (.cond (.t 37) (.seq (.region false [
 ⟨(some 6), .mv (.c (.bool false)), none, [], []⟩] [6]) (.ret)) (.skip)))) (.region false [
 ⟨(some 12), .mv (.t 7), none, [], []⟩,
 ⟨(some 13), .bin .add (.t 12) (.c (i64 1)), none, [], []⟩,
 ⟨(some 7), .mv (.t 13), none, [], []⟩] [0, 1, 2, 7])))
/-- almadraba/almadrabaref01.Rising -/
def b73 : AC :=
 .seq (.region false [
 ⟨(some 6), .mv (.c (.bool false)), none, [], []⟩] [0, 1, 2]) (.seq (.seq (.region false [
 ⟨(some 7), .mv (.c (i64 0)), none, [], []⟩] [0, 1, 2, 7]) (.block 0 (b73l0))) (.seq (.region false [
 ⟨(some 6), .mv (.c (.bool true)), none, [], []⟩] [6]) (.ret)))
def a73 : AFn := ⟨3, [.t 6], b73, false⟩
def n73 : Ann := ⟨[[0, 1, 2], [0, 1, 2, 7], [0, 1, 2, 7, 11], [0, 1, 2, 7, 37], [6], [0, 1, 2, 7], [6]], [⟨[], [0, 1, 2, 7], []⟩], [], [], [], false, []⟩

/-- almadraba/skies.Check$1 -/
def b74l0 : AC :=
 .loop [0, 1, 6, 7, 8] [] (.seq (.region false [
 ⟨(some 9), .bin .lss (.t 8) (.t 7), none, [], []⟩] [0, 1, 6, 7, 8, 9]) (.seq (.cond (.t 9) (.skip) (.exit 0)) (.seq (.block 1 (.seq (.region false [
 ⟨(some 10), .mv (.t 8), none, [], []⟩,
 ⟨(some 11), .idxs 1 (.t 6) (.t 8), none, [], []⟩,
 ⟨(some 12), .load none (.t 11), none, [], []⟩,
 ⟨(some 4), .mv (.t 10), none, [], []⟩,
 ⟨(some 5), .mv (.t 12), none, [], []⟩] [0, 1, 4, 5, 6, 7, 8]) (.seq (.region false [
 ⟨(some 13), .mv (.t 5), none, [], []⟩,
 ⟨(some 14), .faddr 11 (.t 1), none, [], []⟩,
 ⟨(some 15), .load none (.t 14), none, [], []⟩,
 ⟨(some 16), .len (.t 15), none, [], []⟩,
 ⟨(some 17), .bin .sub (.t 16) (.c (i64 1)), none, [], []⟩,
 ⟨(some 18), .call 66 [(.t 13), (.c (i64 0)), (.t 17)], none, [], []⟩,
 ⟨(some 19), .un .not (.t 18), none, [], []⟩,
 ⟨(some 20), .mv (.t 19), none, [], []⟩,
 ⟨(some 21), .mv (.t 4), (some (20, false)), [], []⟩,
 ⟨(some 22), .bin .gtr (.t 21) (.c (i64 0)), (some (20, false)), [], []⟩,
 ⟨(some 23), .mv (.t 22), (some (20, false)), [], []⟩,
 ⟨(some 24), .mv (.t 5), (some (23, true)), [], []⟩,
 ⟨(some 25), .mv (.t 0), (some (23, true)), [], []⟩,
 ⟨(some 26), .mv (.t 4), (some (23, true)), [], []⟩,
 ⟨(some 27), .bin .sub (.t 26) (.c (i64 1)), (some (23, true)), [], []⟩,
 ⟨(some 28), .idxs 1 (.t 25) (.t 27), (some (23, true)), [], []⟩,
 ⟨(some 29), .load none (.t 28), (some (23, true)), [], []⟩,
 ⟨(some 30), .bin .leq (.t 24) (.t 29), (some (23, true)), [], []⟩,
 ⟨(some 31), .pick (.t 23) (.t 30) (.c (.bool false)), (some (20, false)), [], []⟩,
 ⟨(some 32), .pick (.t 20) (.c (.bool true)) (.t 31), none, [], []⟩] [0, 1, 6, 7, 8, 32]) (.cond (.t 32) (.seq (.region false [
 ⟨(some 3), .mv (.c (.bool false)), none, [], []⟩] [3]) (.ret)) (.skip))))) (.region false [
 ⟨(some 33), .bin .add (.t 8) (.c (i64 1)), none, [], []⟩,
 ⟨(some 8), .mv (.t 33), none, [], []⟩] [0, 1, 6, 7, 8]))))
/-- almadraba/skies.Check$1 -/
def b74 : AC :=
 .seq (.region false [
 ⟨(some 3), .mv (.c (.bool false)), none, [], []⟩] [0, 1]) (.seq (.seq (.region false [
 ⟨(some 6), .mv (.t 0), none, [], []⟩,
 ⟨(some 7), .len (.t 6), none, [], []⟩,
 ⟨(some 8), .mv (.c (i64 0)), none, [], []⟩] [0, 1, 6, 7, 8]) (.block 0 (b74l0))) (.seq (.region false [
 ⟨(some 34), .mv (.t 0), none, [], []⟩,
 ⟨(some 35), .len (.t 34), none, [], []⟩,
 ⟨(some 36), .bin .gtr (.t 35) (.c (i64 0)), none, [], []⟩,
 ⟨(some 3), .mv (.t 36), none, [], []⟩] [3]) (.ret)))
def a74 : AFn := ⟨2, [.t 3], b74, false⟩
def n74 : Ann := ⟨[[0, 1], [0, 1, 6, 7, 8], [0, 1, 6, 7, 8, 9], [0, 1, 4, 5, 6, 7, 8], [0, 1, 6, 7, 8, 32], [3], [0, 1, 6, 7, 8], [3]], [⟨[], [0, 1, 6, 7, 8], []⟩], [], [], [], false, []⟩

/-- almadraba/anchors.Check -/
def b75 : AC :=
 .seq (.region false [
 ⟨(some 1), .box (.t 0), none, [], []⟩,
 ⟨(some 2), .mv (.c (i64 0)), none, [], []⟩] [1]) (.seq (.region false [
 ⟨(some 4), .faddr 0 (.t 1), none, [], []⟩,
 ⟨(some 5), .load (some 2) (.t 4), none, [], []⟩,
 ⟨(some 6), .call 84 [(.t 5), (.c (i64 20))], none, [], []⟩,
 ⟨(some 7), .mv (.t 6), none, [], []⟩,
 ⟨(some 8), .faddr 2 (.t 1), (some (7, true)), [], []⟩,
 ⟨(some 9), .load (some 2) (.t 8), (some (7, true)), [], []⟩,
 ⟨(some 10), .call 84 [(.t 9), (.c (i64 20))], (some (7, true)), [], []⟩,
 ⟨(some 11), .pick (.t 7) (.t 10) (.c (.bool false)), none, [], []⟩,
 ⟨(some 12), .mv (.t 11), none, [], []⟩,
 ⟨(some 13), .faddr 4 (.t 1), (some (12, true)), [], []⟩,
 ⟨(some 14), .load none (.t 13), (some (12, true)), [], []⟩,
 ⟨(some 15), .len (.t 14), (some (12, true)), [], []⟩,
 ⟨(some 16), .bin .leq (.t 15) (.c (i64 3)), (some (12, true)), [], []⟩,
 ⟨(some 17), .pick (.t 12) (.t 16) (.c (.bool false)), none, [], []⟩,
 ⟨(some 18), .mv (.t 17), none, [], []⟩,
 ⟨(some 19), .faddr 5 (.t 1), (some (18, true)), [], []⟩,
 ⟨(some 20), .load none (.t 19), (some (18, true)), [], []⟩,
 ⟨(some 21), .len (.t 20), (some (18, true)), [], []⟩,
 ⟨(some 22), .bin .leq (.t 21) (.c (i64 6)), (some (18, true)), [], []⟩,
 ⟨(some 23), .pick (.t 18) (.t 22) (.c (.bool false)), none, [], []⟩,
 ⟨(some 24), .mv (.t 23), none, [], []⟩,
 ⟨(some 25), .faddr 6 (.t 1), (some (24, true)), [], []⟩,
 ⟨(some 26), .load none (.t 25), (some (24, true)), [], []⟩,
 ⟨(some 27), .len (.t 26), (some (24, true)), [], []⟩,
 ⟨(some 28), .faddr 5 (.t 1), (some (24, true)), [], []⟩,
 ⟨(some 29), .load none (.t 28), (some (24, true)), [], []⟩,
 ⟨(some 30), .len (.t 29), (some (24, true)), [], []⟩,
 ⟨(some 31), .bin .sub (.t 30) (.c (i64 1)), (some (24, true)), [], []⟩,
 ⟨(some 32), .mm true (.c (i64 0)) (.t 31), (some (24, true)), [], []⟩,
 ⟨(some 33), .bin .eql (.t 27) (.t 32), (some (24, true)), [], []⟩,
 ⟨(some 34), .pick (.t 24) (.t 33) (.c (.bool false)), none, [], []⟩,
 ⟨(some 3), .mv (.t 34), none, [], []⟩] [1, 3]) (.seq (.region false [
 ⟨(some 35), .mv (.t 3), none, [], []⟩,
 ⟨(some 36), .mv (.t 35), none, [], []⟩,
 ⟨(some 37), .faddr 4 (.t 1), (some (36, true)), [], []⟩,
 ⟨(some 38), .load none (.t 37), (some (36, true)), [], []⟩,
 ⟨(some 39), .call 85 [(.t 38), (.c (.fn 86 [] []))], (some (36, true)), [], []⟩,
 ⟨(some 40), .pick (.t 36) (.t 39) (.c (.bool false)), none, [], []⟩,
 ⟨(some 3), .mv (.t 40), none, [], []⟩] [1, 3]) (.seq (.region false [
 ⟨(some 41), .mv (.t 3), none, [], []⟩,
 ⟨(some 42), .mv (.t 41), none, [], []⟩,
 ⟨(some 43), .faddr 5 (.t 1), (some (42, true)), [], []⟩,
 ⟨(some 44), .load none (.t 43), (some (42, true)), [], []⟩,
 ⟨(some 45), .mkfn 88 [] [(.t 1)], (some (42, true)), [], []⟩,
 ⟨(some 46), .call 87 [(.t 44), (.t 45)], (some (42, true)), [], []⟩,
 ⟨(some 47), .pick (.t 42) (.t 46) (.c (.bool false)), none, [], []⟩,
 ⟨(some 3), .mv (.t 47), none, [], []⟩] [1, 3]) (.seq (.region false [
 ⟨(some 48), .mv (.t 3), none, [], []⟩,
 ⟨(some 49), .mv (.t 48), none, [], []⟩,
 ⟨(some 50), .faddr 6 (.t 1), (some (49, true)), [], []⟩,
 ⟨(some 51), .load none (.t 50), (some (49, true)), [], []⟩,
 ⟨(some 52), .call 90 [(.t 51), (.c (.fn 91 [] []))], (some (49, true)), [], []⟩,
 ⟨(some 53), .pick (.t 49) (.t 52) (.c (.bool false)), none, [], []⟩,
 ⟨(some 3), .mv (.t 53), none, [], []⟩] [3]) (.seq (.seq (.region false [
 ⟨(some 54), .mv (.t 3), none, [], []⟩,
 ⟨(some 55), .un .not (.t 54), none, [], []⟩] [55]) (.cond (.t 55) (.seq (.region false [
 ⟨(some 2), .mv (.c (i64 20)), none, [], []⟩] [2]) (.ret)) (.skip))) (.seq (.region false [
 ⟨(some 2), .mv (.c (i64 0)), none, [], []⟩] [2]) (.ret)))))))
def a75 : AFn := ⟨1, [.t 2], b75, false⟩
def n75 : Ann := ⟨[[1], [1, 3], [1, 3], [1, 3], [3], [55], [2], [2]], [], [], [], [], false, [(7, 96)]⟩

/-- almadraba/lifts.Check -/
def b76l0 : AC :=
 .loop [1, 3, 4, 36, 37, 38] [16, 128, 240, 1024, 1200, 1280] (.seq (.region false [
 ⟨(some 39), .bin .lss (.t 38) (.t 37), none, [], []⟩] [1, 3, 4, 36, 37, 38, 39]) (.seq (.cond (.t 39) (.skip) (.exit 0)) (.seq (.block 1 (.seq (.region false [
 ⟨(some 40), .idxs 2 (.t 36) (.t 38), none, [], []⟩,
 ⟨(some 41), .load (some 2) (.t 40), none, [], []⟩,
 ⟨(some 6), .alloc [(i64 0), (i64 0)], none, [], []⟩,
 ⟨none, .store 2 (.t 6) (.t 41), none, [], []⟩] [1, 3, 4, 6, 36, 37, 38]) (.seq (.seq (.region false [
 ⟨(some 42), .faddr 0 (.t 6), none, [], []⟩,
 ⟨(some 43), .load none (.t 42), none, [], []⟩,
 ⟨(some 44), .faddr 1 (.t 6), none, [], []⟩,
 ⟨(some 45), .load none (.t 44), none, [], []⟩,
 ⟨(some 46), .call 92 [(.t 43), (.c (i64 0)), (.t 45)], none, [], []⟩,
 ⟨(some 47), .un .not (.t 46), none, [], []⟩,
 ⟨(some 48), .mv (.t 47), none, [], []⟩,
 ⟨(some 49), .faddr 1 (.t 6), (some (48, false)), [], []⟩,
 ⟨(some 50), .load none (.t 49), (some (48, false)), [], []⟩,
 ⟨(some 51), .bin .gtr (.t 50) (.c (i64 12)), (some (48, false)), [], []⟩,
 ⟨(some 52), .pick (.t 48) (.c (.bool true)) (.t 51), none, [], []⟩] [1, 3, 4, 6, 36, 37, 38, 52]) (.cond (.t 52) (.seq (.region false [
 ⟨(some 2), .mv (.c (i64 50)), none, [], []⟩] [2]) (.ret)) (.skip))) (.region true (spl [
 ⟨(some 53), .mv (.t 3), none, [], []⟩,
 ⟨(some 54), .faddr 0 (.t 6), none, [], []⟩,
 ⟨(some 55), .load none (.t 54), none, [1], []⟩,
 ⟨(some 56), .bin .add (.t 53) (.t 55), none, [0, 2, 1], []⟩,
 ⟨(some 57), .mv (.t 4), none, [], []⟩,
 ⟨(some 58), .faddr 1 (.t 6), none, [], []⟩,
 ⟨(some 59), .load none (.t 58), none, [5], []⟩,
 ⟨(some 60), .bin .add (.t 57) (.t 59), none, [4, 6, 5], []⟩,
 ⟨(some 3), .mv (.t 56), none, [3, 0, 2, 1], []⟩] [
 ⟨(some 4), .mv (.t 60), none, [7, 8, 4, 6, 5, 3, 0, 2, 1], []⟩]) [1, 3, 4, 36, 37, 38])))) (.region false [
 ⟨(some 61), .bin .add (.t 38) (.c (i64 1)), none, [], []⟩,
 ⟨(some 38), .mv (.t 61), none, [], []⟩] [1, 3, 4, 36, 37, 38]))))
/-- almadraba/lifts.Check -/
def b76l1 : AC :=
 .loop [67, 68, 69] [16, 96, 240, 736, 1024] (.seq (.region false [
 ⟨(some 70), .bin .lss (.t 69) (.t 68), none, [], []⟩] [67, 68, 69, 70]) (.seq (.cond (.t 70) (.skip) (.exit 2)) (.seq (.block 3 (.seq (.region false [
 ⟨(some 71), .idxs 2 (.t 67) (.t 69), none, [], []⟩,
 ⟨(some 72), .load (some 2) (.t 71), none, [], []⟩,
 ⟨(some 8), .alloc [(i64 0), (i64 0)], none, [], []⟩,
 ⟨none, .store 2 (.t 8) (.t 72), none, [], []⟩] [8, 67, 68, 69]) (.seq (.region false [
 ⟨(some 73), .faddr 0 (.t 8), none, [], []⟩,
 ⟨(some 74), .load none (.t 73), none, [], []⟩,
 ⟨(some 75), .call 92 [(.t 74), (.c (i64 0)), (.c (i64 999))], none, [], []⟩,
 ⟨(some 76), .un .not (.t 75), none, [], []⟩,
 ⟨(some 77), .mv (.t 76), none, [], []⟩,
 ⟨(some 78), .faddr 1 (.t 8), (some (77, false)), [], []⟩,
 ⟨(some 79), .load none (.t 78), (some (77, false)), [], []⟩,
 ⟨(some 80), .call 92 [(.t 79), (.c (i64 0)), (.c (i64 99))], (some (77, false)), [], []⟩,
 ⟨(some 81), .un .not (.t 80), (some (77, false)), [], []⟩,
 ⟨(some 82), .pick (.t 77) (.c (.bool true)) (.t 81), none, [], []⟩] [67, 68, 69, 82]) (.cond (.t 82) (.seq (.region false [
 ⟨(some 2), .mv (.c (i64 50)), none, [], []⟩] [2]) (.ret)) (.skip))))) (.region false [
 ⟨(some 83), .bin .add (.t 69) (.c (i64 1)), none, [], []⟩,
 ⟨(some 69), .mv (.t 83), none, [], []⟩] [67, 68, 69]))))
/-- almadraba/lifts.Check -/
def b76 : AC :=
 .seq (.region false [
 ⟨(some 1), .box (.t 0), none, [], []⟩,
 ⟨(some 2), .mv (.c (i64 0)), none, [], []⟩] [1]) (.seq (.seq (.region false [
 ⟨(some 9), .faddr 0 (.t 1), none, [], []⟩,
 ⟨(some 10), .faddr 0 (.t 9), none, [], []⟩,
 ⟨(some 11), .load none (.t 10), none, [], []⟩,
 ⟨(some 12), .faddr 0 (.t 1), none, [], []⟩,
 ⟨(some 13), .faddr 1 (.t 12), none, [], []⟩,
 ⟨(some 14), .load none (.t 13), none, [], []⟩,
 ⟨(some 15), .call 92 [(.t 11), (.c (i64 0)), (.t 14)], none, [], []⟩,
 ⟨(some 16), .un .not (.t 15), none, [], []⟩,
 ⟨(some 17), .mv (.t 16), none, [], []⟩,
 ⟨(some 18), .faddr 0 (.t 1), (some (17, false)), [], []⟩,
 ⟨(some 19), .faddr 1 (.t 18), (some (17, false)), [], []⟩,
 ⟨(some 20), .load none (.t 19), (some (17, false)), [], []⟩,
 ⟨(some 21), .bin .gtr (.t 20) (.c (i64 2000)), (some (17, false)), [], []⟩,
 ⟨(some 22), .pick (.t 17) (.c (.bool true)) (.t 21), none, [], []⟩,
 ⟨(some 23), .mv (.t 22), none, [], []⟩,
 ⟨(some 24), .faddr 2 (.t 1), (some (23, false)), [], []⟩,
 ⟨(some 25), .load none (.t 24), (some (23, false)), [], []⟩,
 ⟨(some 26), .len (.t 25), (some (23, false)), [], []⟩,
 ⟨(some 27), .bin .gtr (.t 26) (.c (i64 4)), (some (23, false)), [], []⟩,
 ⟨(some 28), .pick (.t 23) (.c (.bool true)) (.t 27), none, [], []⟩,
 ⟨(some 29), .mv (.t 28), none, [], []⟩,
 ⟨(some 30), .faddr 3 (.t 1), (some (29, false)), [], []⟩,
 ⟨(some 31), .load none (.t 30), (some (29, false)), [], []⟩,
 ⟨(some 32), .len (.t 31), (some (29, false)), [], []⟩,
 ⟨(some 33), .bin .gtr (.t 32) (.c (i64 6)), (some (29, false)), [], []⟩,
 ⟨(some 34), .pick (.t 29) (.c (.bool true)) (.t 33), none, [], []⟩] [1, 34]) (.cond (.t 34) (.seq (.region false [
 ⟨(some 2), .mv (.c (i64 50)), none, [], []⟩] [2]) (.ret)) (.skip))) (.seq (.region false [
 ⟨(some 3), .mv (.c (i64 0)), none, [], []⟩,
 ⟨(some 4), .mv (.c (i64 0)), none, [], []⟩] [1, 3, 4]) (.seq (.seq (.region false [
 ⟨(some 35), .faddr 2 (.t 1), none, [], []⟩,
 ⟨(some 36), .load none (.t 35), none, [], []⟩,
 ⟨(some 37), .len (.t 36), none, [], []⟩,
 ⟨(some 38), .mv (.c (i64 0)), none, [], []⟩] [1, 3, 4, 36, 37, 38]) (.block 0 (b76l0))) (.seq (.seq (.region false [
 ⟨(some 62), .mv (.t 3), none, [], []⟩,
 ⟨(some 63), .mv (.t 4), none, [], []⟩,
 ⟨(some 64), .call 92 [(.c (i64 12)), (.t 62), (.t 63)], none, [], []⟩,
 ⟨(some 65), .un .not (.t 64), none, [], []⟩] [1, 65]) (.cond (.t 65) (.seq (.region false [
 ⟨(some 2), .mv (.c (i64 50)), none, [], []⟩] [2]) (.ret)) (.skip))) (.seq (.seq (.region false [
 ⟨(some 66), .faddr 3 (.t 1), none, [], []⟩,
 ⟨(some 67), .load none (.t 66), none, [], []⟩,
 ⟨(some 68), .len (.t 67), none, [], []⟩,
 ⟨(some 69), .mv (.c (i64 0)), none, [], []⟩] [67, 68, 69]) (.block 2 (b76l1))) (.seq (.region false [
 ⟨(some 2), .mv (.c (i64 0)), none, [], []⟩] [2]) (.ret)))))))
def a76 : AFn := ⟨1, [.t 2], b76, false⟩
def n76 : Ann := ⟨[[1], [1, 34], [2], [1, 3, 4], [1, 3, 4, 36, 37, 38], [1, 3, 4, 36, 37, 38, 39], [1, 3, 4, 6, 36, 37, 38], [1, 3, 4, 6, 36, 37, 38, 52], [2], [1, 3, 4, 36, 37, 38], [1, 3, 4, 36, 37, 38], [1, 65], [2], [67, 68, 69], [67, 68, 69, 70], [8, 67, 68, 69], [67, 68, 69, 82], [2], [67, 68, 69], [2]], [⟨[], [1, 3, 4, 36, 37, 38], [16, 128, 240, 1024, 1200, 1280]⟩, ⟨[], [67, 68, 69], [16, 96, 240, 736, 1024]⟩], [], [], [], false, []⟩

/-- almadraba/skies.isSpan -/
def b77 : AC :=
 .seq (.region false [
 ⟨(some 2), .box (.t 0), none, [], []⟩,
 ⟨(some 4), .mv (.c (.bool false)), none, [], []⟩] [1, 2]) (.seq (.region false [
 ⟨(some 5), .faddr 0 (.t 2), none, [], []⟩,
 ⟨(some 6), .load none (.t 5), none, [], []⟩,
 ⟨(some 7), .faddr 1 (.t 2), none, [], []⟩,
 ⟨(some 8), .load none (.t 7), none, [], []⟩,
 ⟨(some 9), .call 66 [(.t 6), (.c (i64 0)), (.t 8)], none, [], []⟩,
 ⟨(some 10), .mv (.t 9), none, [], []⟩,
 ⟨(some 11), .faddr 1 (.t 2), (some (10, true)), [], []⟩,
 ⟨(some 12), .load none (.t 11), (some (10, true)), [], []⟩,
 ⟨(some 13), .mv (.t 1), (some (10, true)), [], []⟩,
 ⟨(some 14), .bin .leq (.t 12) (.t 13), (some (10, true)), [], []⟩,
 ⟨(some 15), .pick (.t 10) (.t 14) (.c (.bool false)), none, [], []⟩,
 ⟨(some 4), .mv (.t 15), none, [], []⟩] [4]) (.ret))
def a77 : AFn := ⟨2, [.t 4], b77, false⟩
def n77 : Ann := ⟨[[1, 2], [4]], [], [], [], [], false, [(10, 144)]⟩

/-- almadraba/anchors.known -/
def b78 : AC :=
 .seq (.region false [
 ⟨(some 4), .mv (.c (i64 0)), none, [], []⟩] [0, 1]) (.seq (.block 0 (.seq (.region false [
 ⟨(some 6), .mv (.t 0), none, [], []⟩,
 ⟨(some 5), .mv (.t 6), none, [], []⟩] [1, 5]) (.cond (.t 5) (.seq (.region false [
 ⟨(some 4), .mv (.c (i64 1)), none, [], []⟩] [4]) (.ret)) (.seq (.region false [
 ⟨(some 8), .mv (.t 1), none, [], []⟩,
 ⟨(some 7), .mv (.t 8), none, [], []⟩] [7]) (.cond (.t 7) (.seq (.region false [
 ⟨(some 4), .mv (.c (i64 3)), none, [], []⟩] [4]) (.ret)) (.skip)))))) (.seq (.region false [
 ⟨(some 4), .mv (.c (i64 2)), none, [], []⟩] [4]) (.ret)))
def a78 : AFn := ⟨2, [.t 4], b78, false⟩
def n78 : Ann := ⟨[[0, 1], [1, 5], [4], [7], [4], [4]], [], [], [], [], false, []⟩

/-- almadraba/anchors.worst -/
def b79l0 : AC :=
 .loop [1, 2, 3, 14, 15, 16] [16, 32, 48, 52] (.seq (.region false [
 ⟨(some 17), .bin .lss (.t 16) (.t 15), none, [], []⟩] [1, 2, 3, 14, 15, 16, 17]) (.seq (.cond (.t 17) (.skip) (.exit 0)) (.seq (.block 1 (.seq (.region false [
 ⟨(some 18), .idxs 2 (.t 14) (.t 16), none, [], []⟩,
 ⟨(some 19), .load (some 2) (.t 18), none, [], []⟩,
 ⟨(some 5), .alloc [(i64 0), (i64 0)], none, [], []⟩,
 ⟨none, .store 2 (.t 5) (.t 19), none, [], []⟩] [1, 2, 3, 5, 14, 15, 16]) (.region false [
 ⟨(some 20), .faddr 2 (.t 3), none, [], []⟩,
 ⟨(some 21), .load none (.t 20), none, [], []⟩,
 ⟨(some 22), .faddr 0 (.t 5), none, [], []⟩,
 ⟨(some 23), .load none (.t 22), none, [], []⟩,
 ⟨(some 24), .lit [(i64 0)] 1 [(0, (.t 23))], none, [], []⟩,
 ⟨(some 25), .app 1 8 (.t 21) (.t 24), none, [], []⟩,
 ⟨(some 26), .faddr 2 (.t 3), none, [], []⟩,
 ⟨none, .store 1 (.t 26) (.t 25), none, [], []⟩] [1, 2, 3, 14, 15, 16]))) (.region false [
 ⟨(some 27), .bin .add (.t 16) (.c (i64 1)), none, [], []⟩,
 ⟨(some 16), .mv (.t 27), none, [], []⟩] [1, 2, 3, 14, 15, 16]))))
/-- almadraba/anchors.worst -/
def b79 : AC :=
 .seq (.region false [
 ⟨(some 1), .box (.t 0), none, [], []⟩,
 ⟨(some 2), .alloc [(i64 0), (i64 0), (i64 0), (i64 0), (.sl .full 2 []), (.sl .full 2 []), (.sl .full 5 []), (i64 0), (i64 0), (.sl .full 1 [])], none, [], []⟩] [1, 2]) (.seq (.region false [
 ⟨(some 6), .faddr 0 (.t 1), none, [], []⟩,
 ⟨(some 7), .faddr 1 (.t 6), none, [], []⟩,
 ⟨(some 8), .load none (.t 7), none, [], []⟩,
 ⟨(some 9), .faddr 2 (.t 1), none, [], []⟩,
 ⟨(some 10), .faddr 1 (.t 9), none, [], []⟩,
 ⟨(some 11), .load none (.t 10), none, [], []⟩,
 ⟨(some 12), .build [(i64 0), (i64 0), (.sl .full 1 [])] [(0, 1, (.t 8)), (1, 1, (.t 11))], none, [], []⟩,
 ⟨(some 3), .alloc [(i64 0), (i64 0), (.sl .full 1 [])], none, [], []⟩,
 ⟨none, .store 3 (.t 3) (.t 12), none, [], []⟩] [1, 2, 3]) (.seq (.seq (.region false [
 ⟨(some 13), .faddr 4 (.t 1), none, [], []⟩,
 ⟨(some 14), .load none (.t 13), none, [], []⟩,
 ⟨(some 15), .len (.t 14), none, [], []⟩,
 ⟨(some 16), .mv (.c (i64 0)), none, [], []⟩] [1, 2, 3, 14, 15, 16]) (.block 0 (.seq (.thawc 3 2 52 1) (b79l0)))) (.seq (.region false [
 ⟨(some 28), .load (some 7) (.t 1), none, [], []⟩,
 ⟨(some 29), .load (some 3) (.t 3), none, [], []⟩,
 ⟨(some 30), .build [(i64 0), (i64 0), (i64 0), (i64 0), (.sl .full 2 []), (.sl .full 2 []), (.sl .full 5 []), (i64 0), (i64 0), (.sl .full 1 [])] [(0, 7, (.t 28)), (7, 3, (.t 29))], none, [], []⟩,
 ⟨none, .store 10 (.t 2) (.t 30), none, [], []⟩] [2]) (.ret))))
def a79 : AFn := ⟨1, [.cell 2 (some 10)], b79, false⟩
def n79 : Ann := ⟨[[1, 2], [1, 2, 3], [1, 2, 3, 14, 15, 16], [1, 2, 3, 14, 15, 16, 17], [1, 2, 3, 5, 14, 15, 16], [1, 2, 3, 14, 15, 16], [1, 2, 3, 14, 15, 16], [2]], [⟨[.c 3 2 52 1], [1, 2, 3, 14, 15, 16], [16, 32, 48, 52]⟩], [], [], [], false, []⟩

/-- (almadraba/anchors.row).step -/
def b80l0 : AC :=
 .loop [1, 2, 5, 11, 12] [32] (.seq (.region false [
 ⟨(some 13), .bin .lss (.t 12) (.t 11), none, [], []⟩] [1, 2, 5, 11, 12, 13]) (.seq (.cond (.t 13) (.skip) (.exit 0)) (.seq (.block 1 (.seq (.region false [
 ⟨(some 14), .mv (.t 12), none, [], []⟩,
 ⟨(some 6), .mv (.t 14), none, [], []⟩] [1, 2, 5, 6, 11, 12]) (.seq (.region false [
 ⟨(some 15), .mv (.t 1), none, [], []⟩,
 ⟨(some 16), .mv (.t 6), none, [], []⟩,
 ⟨(some 17), .call 93 [(.t 15), (.t 16)], none, [], []⟩,
 ⟨(some 18), .un .not (.t 17), none, [], []⟩,
 ⟨(some 19), .mv (.t 18), none, [], []⟩,
 ⟨(some 20), .load (some 10) (.t 2), (some (19, true)), [], []⟩,
 ⟨(some 21), .mv (.t 6), (some (19, true)), [], []⟩,
 ⟨(some 22), .mv (.t 1), (some (19, true)), [], []⟩,
 ⟨(some 23), .call 94 [(.t 20), (.t 21), (.t 22)], (some (19, true)), [], []⟩,
 ⟨(some 24), .bin .lss (.t 23) (.c (i64 0)), (some (19, true)), [], []⟩,
 ⟨(some 25), .pick (.t 19) (.t 24) (.c (.bool false)), none, [], []⟩] [1, 2, 5, 6, 11, 12, 25]) (.cond (.t 25) (.region false [
 ⟨(some 26), .mv (.t 5), none, [], []⟩,
 ⟨(some 27), .mv (.t 6), none, [], []⟩,
 ⟨(some 28), .call 95 [(.t 26), (.t 27)], none, [], []⟩,
 ⟨(some 5), .mv (.t 28), none, [], []⟩] [1, 2, 5, 11, 12]) (.skip))))) (.region false [
 ⟨(some 29), .bin .add (.t 12) (.c (i64 1)), none, [], []⟩,
 ⟨(some 12), .mv (.t 29), none, [], []⟩] [1, 2, 5, 11, 12]))))
/-- (almadraba/anchors.row).step -/
def b80 : AC :=
 .seq (.region false [
 ⟨(some 2), .box (.t 0), none, [], []⟩,
 ⟨(some 4), .mv (.c (.int .u64 0)), none, [], []⟩] [1, 2]) (.seq (.region false [
 ⟨(some 7), .mv (.t 1), none, [], []⟩,
 ⟨(some 5), .mv (.t 7), none, [], []⟩] [1, 2, 5]) (.seq (.seq (.region false [
 ⟨(some 8), .faddr 0 (.t 2), none, [], []⟩,
 ⟨(some 9), .faddr 5 (.t 8), none, [], []⟩,
 ⟨(some 10), .load none (.t 9), none, [], []⟩,
 ⟨(some 11), .len (.t 10), none, [], []⟩,
 ⟨(some 12), .mv (.c (i64 0)), none, [], []⟩] [1, 2, 5, 11, 12]) (.block 0 (b80l0))) (.seq (.region false [
 ⟨(some 30), .mv (.t 5), none, [], []⟩,
 ⟨(some 4), .mv (.t 30), none, [], []⟩] [4]) (.ret))))
def a80 : AFn := ⟨2, [.t 4], b80, false⟩
def n80 : Ann := ⟨[[1, 2], [1, 2, 5], [1, 2, 5, 11, 12], [1, 2, 5, 11, 12, 13], [1, 2, 5, 6, 11, 12], [1, 2, 5, 6, 11, 12, 25], [1, 2, 5, 11, 12], [1, 2, 5, 11, 12], [4]], [⟨[], [1, 2, 5, 11, 12], [32]⟩], [], [], [], false, [(26, 448), (4, 448), (30, 448), (5, 448)]⟩

/-- almadraba/anchors.best -/
def b81l0 : AC :=
 .loop [1, 2, 3, 14, 15, 16] [16, 32, 48, 52] (.seq (.region false [
 ⟨(some 17), .bin .lss (.t 16) (.t 15), none, [], []⟩] [1, 2, 3, 14, 15, 16, 17]) (.seq (.cond (.t 17) (.skip) (.exit 0)) (.seq (.block 1 (.seq (.region false [
 ⟨(some 18), .idxs 2 (.t 14) (.t 16), none, [], []⟩,
 ⟨(some 19), .load (some 2) (.t 18), none, [], []⟩,
 ⟨(some 5), .alloc [(i64 0), (i64 0)], none, [], []⟩,
 ⟨none, .store 2 (.t 5) (.t 19), none, [], []⟩] [1, 2, 3, 5, 14, 15, 16]) (.region false [
 ⟨(some 20), .faddr 2 (.t 3), none, [], []⟩,
 ⟨(some 21), .load none (.t 20), none, [], []⟩,
 ⟨(some 22), .faddr 1 (.t 5), none, [], []⟩,
 ⟨(some 23), .load none (.t 22), none, [], []⟩,
 ⟨(some 24), .lit [(i64 0)] 1 [(0, (.t 23))], none, [], []⟩,
 ⟨(some 25), .app 1 8 (.t 21) (.t 24), none, [], []⟩,
 ⟨(some 26), .faddr 2 (.t 3), none, [], []⟩,
 ⟨none, .store 1 (.t 26) (.t 25), none, [], []⟩] [1, 2, 3, 14, 15, 16]))) (.region false [
 ⟨(some 27), .bin .add (.t 16) (.c (i64 1)), none, [], []⟩,
 ⟨(some 16), .mv (.t 27), none, [], []⟩] [1, 2, 3, 14, 15, 16]))))
/-- almadraba/anchors.best -/
def b81 : AC :=
 .seq (.region false [
 ⟨(some 1), .box (.t 0), none, [], []⟩,
 ⟨(some 2), .alloc [(i64 0), (i64 0), (i64 0), (i64 0), (.sl .full 2 []), (.sl .full 2 []), (.sl .full 5 []), (i64 0), (i64 0), (.sl .full 1 [])], none, [], []⟩] [1, 2]) (.seq (.region false [
 ⟨(some 6), .faddr 0 (.t 1), none, [], []⟩,
 ⟨(some 7), .faddr 0 (.t 6), none, [], []⟩,
 ⟨(some 8), .load none (.t 7), none, [], []⟩,
 ⟨(some 9), .faddr 2 (.t 1), none, [], []⟩,
 ⟨(some 10), .faddr 0 (.t 9), none, [], []⟩,
 ⟨(some 11), .load none (.t 10), none, [], []⟩,
 ⟨(some 12), .build [(i64 0), (i64 0), (.sl .full 1 [])] [(0, 1, (.t 8)), (1, 1, (.t 11))], none, [], []⟩,
 ⟨(some 3), .alloc [(i64 0), (i64 0), (.sl .full 1 [])], none, [], []⟩,
 ⟨none, .store 3 (.t 3) (.t 12), none, [], []⟩] [1, 2, 3]) (.seq (.seq (.region false [
 ⟨(some 13), .faddr 4 (.t 1), none, [], []⟩,
 ⟨(some 14), .load none (.t 13), none, [], []⟩,
 ⟨(some 15), .len (.t 14), none, [], []⟩,
 ⟨(some 16), .mv (.c (i64 0)), none, [], []⟩] [1, 2, 3, 14, 15, 16]) (.block 0 (.seq (.thawc 3 2 52 1) (b81l0)))) (.seq (.region false [
 ⟨(some 28), .load (some 7) (.t 1), none, [], []⟩,
 ⟨(some 29), .load (some 3) (.t 3), none, [], []⟩,
 ⟨(some 30), .build [(i64 0), (i64 0), (i64 0), (i64 0), (.sl .full 2 []), (.sl .full 2 []), (.sl .full 5 []), (i64 0), (i64 0), (.sl .full 1 [])] [(0, 7, (.t 28)), (7, 3, (.t 29))], none, [], []⟩,
 ⟨none, .store 10 (.t 2) (.t 30), none, [], []⟩] [2]) (.ret))))
def a81 : AFn := ⟨1, [.cell 2 (some 10)], b81, false⟩
def n81 : Ann := ⟨[[1, 2], [1, 2, 3], [1, 2, 3, 14, 15, 16], [1, 2, 3, 14, 15, 16, 17], [1, 2, 3, 5, 14, 15, 16], [1, 2, 3, 14, 15, 16], [1, 2, 3, 14, 15, 16], [2]], [⟨[.c 3 2 52 1], [1, 2, 3, 14, 15, 16], [16, 32, 48, 52]⟩], [], [], [], false, []⟩

/-- almadraba/lifts.open -/
def b82l0 : AC :=
 .loop [2, 7, 8, 9, 25, 26, 27] [32, 208, 240, 368] (.seq (.region false [
 ⟨(some 28), .bin .lss (.t 27) (.t 26), none, [], []⟩] [2, 7, 8, 9, 25, 26, 27, 28]) (.seq (.cond (.t 28) (.skip) (.exit 0)) (.seq (.block 1 (.seq (.region false [
 ⟨(some 29), .idxs 2 (.t 25) (.t 27), none, [], []⟩,
 ⟨(some 30), .load (some 2) (.t 29), none, [], []⟩,
 ⟨(some 11), .alloc [(i64 0), (i64 0)], none, [], []⟩,
 ⟨none, .store 2 (.t 11) (.t 30), none, [], []⟩] [2, 7, 8, 9, 11, 25, 26, 27]) (.region true (spl [
 ⟨(some 31), .mv (.t 8), none, [], []⟩,
 ⟨(some 32), .faddr 0 (.t 11), none, [], []⟩,
 ⟨(some 33), .load none (.t 32), none, [1], []⟩,
 ⟨(some 34), .bin .add (.t 31) (.t 33), none, [0, 2, 1], []⟩,
 ⟨(some 35), .mv (.t 9), none, [], []⟩,
 ⟨(some 36), .faddr 1 (.t 11), none, [], []⟩,
 ⟨(some 37), .load none (.t 36), none, [5], []⟩,
 ⟨(some 38), .bin .add (.t 35) (.t 37), none, [4, 6, 5], []⟩,
 ⟨(some 8), .mv (.t 34), none, [3, 0, 2, 1], []⟩] [
 ⟨(some 9), .mv (.t 38), none, [7, 8, 4, 6, 5, 3, 0, 2, 1], []⟩]) [2, 7, 8, 9, 25, 26, 27]))) (.region false [
 ⟨(some 39), .bin .add (.t 27) (.c (i64 1)), none, [], []⟩,
 ⟨(some 27), .mv (.t 39), none, [], []⟩] [2, 7, 8, 9, 25, 26, 27]))))
/-- almadraba/lifts.open -/
def b82l1 : AC :=
 .loop [7, 8, 9, 41, 42, 43] [32, 176, 240, 368] (.seq (.region false [
 ⟨(some 44), .bin .lss (.t 43) (.t 42), none, [], []⟩] [7, 8, 9, 41, 42, 43, 44]) (.seq (.cond (.t 44) (.skip) (.exit 2)) (.seq (.block 3 (.seq (.region false [
 ⟨(some 45), .mv (.t 43), none, [], []⟩,
 ⟨(some 46), .idxs 2 (.t 41) (.t 43), none, [], []⟩,
 ⟨(some 47), .load (some 2) (.t 46), none, [], []⟩,
 ⟨(some 13), .alloc [(i64 0), (i64 0)], none, [], []⟩,
 ⟨(some 12), .mv (.t 45), none, [], []⟩,
 ⟨none, .store 2 (.t 13) (.t 47), none, [], []⟩] [7, 8, 9, 12, 13, 41, 42, 43]) (.region true (spl [
 ⟨(some 48), .mv (.t 7), none, [], []⟩,
 ⟨(some 49), .mv (.t 12), none, [], []⟩,
 ⟨(some 50), .faddr 0 (.t 13), none, [], []⟩,
 ⟨(some 51), .load none (.t 50), none, [2], []⟩,
 ⟨(some 52), .mv (.t 9), none, [], []⟩,
 ⟨(some 53), .faddr 1 (.t 13), none, [], []⟩,
 ⟨(some 54), .load none (.t 53), none, [5], []⟩,
 ⟨(some 55), .bin .sub (.t 52) (.t 54), none, [4, 6, 5], []⟩,
 ⟨(some 56), .bin .sub (.c (i64 12)) (.t 55), none, [7, 4, 6, 5], []⟩,
 ⟨(some 57), .mm true (.t 51) (.t 56), none, [3, 8, 2, 7, 4, 6, 5], []⟩,
 ⟨(some 58), .faddr 1 (.t 13), none, [], []⟩,
 ⟨(some 59), .load none (.t 58), none, [10], []⟩,
 ⟨(some 60), .mv (.t 8), none, [], []⟩,
 ⟨(some 61), .faddr 0 (.t 13), none, [], []⟩,
 ⟨(some 62), .load none (.t 61), none, [13], []⟩,
 ⟨(some 63), .bin .sub (.t 60) (.t 62), none, [12, 14, 13], []⟩,
 ⟨(some 64), .bin .sub (.c (i64 12)) (.t 63), none, [15, 12, 14, 13], []⟩,
 ⟨(some 65), .mm false (.t 59) (.t 64), none, [11, 16, 10, 15, 12, 14, 13], []⟩,
 ⟨(some 66), .build [(i64 0), (i64 0)] [(0, 1, (.t 57)), (1, 1, (.t 65))], none, [9, 17, 3, 8, 2, 7, 4, 6, 5, 11, 16, 10, 15, 12, 14, 13], []⟩,
 ⟨(some 67), .nilck (.t 48), none, [0], []⟩,
 ⟨(some 68), .faddr 4 (.t 67), none, [19, 0], []⟩] [
 ⟨(some 69), .idxa 4 2 (.t 68) (.t 49), none, [20, 1, 18, 19, 0, 9, 17, 3, 8, 2, 7, 4, 6, 5, 11, 16, 10, 15, 12, 14, 13], []⟩,
 ⟨none, .store 2 (.t 69) (.t 66), none, [21, 20, 1, 18, 19, 0, 9, 17, 3, 8, 2, 7, 4, 6, 5, 11, 16, 10, 15, 12, 14, 13], []⟩]) [7, 8, 9, 41, 42, 43]))) (.region false [
 ⟨(some 70), .bin .add (.t 43) (.c (i64 1)), none, [], []⟩,
 ⟨(some 43), .mv (.t 70), none, [], []⟩] [7, 8, 9, 41, 42, 43]))))
end Go.Proofs.Ytekgicoibcgecaa
