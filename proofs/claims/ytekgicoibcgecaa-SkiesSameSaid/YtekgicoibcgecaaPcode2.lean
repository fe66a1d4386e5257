/-
  MADE BY PROGRAM (mkt.py, out of what Gen.lean prints): the functions' code for the evaluator.
-/
import Derived.Test.YtekgicoibcgecaaPcode1
set_option linter.unusedSimpArgs false
set_option linter.unusedVariables false
namespace Go.Proofs.Ytekgicoibcgecaa
open Go.Ab
/-- almadraba/lifts.open -/
def b82 : AC :=
 .seq (.region false [
 ⟨(some 2), .box (.t 0), none, [], []⟩,
 ⟨(some 4), .mv (.c .nilp), none, [], []⟩,
 ⟨(some 5), .mv (.c (i64 0)), none, [], []⟩] [1, 2]) (.seq (.seq (.region false [
 ⟨(some 14), .load (some 4) (.t 2), none, [], []⟩,
 ⟨(some 15), .call 76 [(.t 14)], none, [], []⟩,
 ⟨(some 6), .mv (.t 15), none, [], []⟩] [1, 2, 6]) (.seq (.region false [
 ⟨(some 16), .mv (.t 6), none, [], []⟩,
 ⟨(some 17), .bin .neq (.t 16) (.c (i64 0)), none, [], []⟩] [1, 2, 6, 17]) (.cond (.t 17) (.seq (.region false [
 ⟨(some 18), .mv (.t 6), none, [], []⟩,
 ⟨(some 4), .mv (.c .nilp), none, [], []⟩,
 ⟨(some 5), .mv (.t 18), none, [], []⟩] [4, 5]) (.ret)) (.skip)))) (.seq (.seq (.region false [
 ⟨(some 19), .mv (.t 1), none, [], []⟩,
 ⟨(some 20), .un .not (.t 19), none, [], []⟩] [2, 20]) (.cond (.t 20) (.seq (.region false [
 ⟨(some 4), .mv (.c .nilp), none, [], []⟩,
 ⟨(some 5), .mv (.c (i64 1)), none, [], []⟩] [4, 5]) (.ret)) (.skip))) (.seq (.region false [
 ⟨(some 21), .load (some 4) (.t 2), none, [], []⟩,
 ⟨(some 22), .build [(i64 0), (i64 0), (.sl .full 2 []), (.sl .full 2 []), (i64 0), (i64 0), (i64 0), (i64 0), (i64 0), (i64 0), (i64 0), (i64 0)] [(0, 4, (.t 21))], none, [], []⟩,
 ⟨(some 23), .box (.t 22), none, [], []⟩,
 ⟨(some 7), .mv (.t 23), none, [], []⟩] [2, 7]) (.seq (.region false [
 ⟨(some 8), .mv (.c (i64 0)), none, [], []⟩,
 ⟨(some 9), .mv (.c (i64 0)), none, [], []⟩] [2, 7, 8, 9]) (.seq (.seq (.region false [
 ⟨(some 24), .faddr 2 (.t 2), none, [], []⟩,
 ⟨(some 25), .load none (.t 24), none, [], []⟩,
 ⟨(some 26), .len (.t 25), none, [], []⟩,
 ⟨(some 27), .mv (.c (i64 0)), none, [], []⟩] [2, 7, 8, 9, 25, 26, 27]) (.block 0 (b82l0))) (.seq (.seq (.region false [
 ⟨(some 40), .faddr 2 (.t 2), none, [], []⟩,
 ⟨(some 41), .load none (.t 40), none, [], []⟩,
 ⟨(some 42), .len (.t 41), none, [], []⟩,
 ⟨(some 43), .mv (.c (i64 0)), none, [], []⟩] [7, 8, 9, 41, 42, 43]) (.block 2 (b82l1))) (.seq (.region false [
 ⟨(some 71), .mv (.t 7), none, [], []⟩,
 ⟨(some 4), .mv (.t 71), none, [], []⟩,
 ⟨(some 5), .mv (.c (i64 0)), none, [], []⟩] [4, 5]) (.ret))))))))
def a82 : AFn := ⟨2, [.t 4, .t 5], b82, false⟩
def n82 : Ann := ⟨[[1, 2], [1, 2, 6], [1, 2, 6, 17], [4, 5], [2, 20], [4, 5], [2, 7], [2, 7, 8, 9], [2, 7, 8, 9, 25, 26, 27], [2, 7, 8, 9, 25, 26, 27, 28], [2, 7, 8, 9, 11, 25, 26, 27], [2, 7, 8, 9, 25, 26, 27], [2, 7, 8, 9, 25, 26, 27], [7, 8, 9, 41, 42, 43], [7, 8, 9, 41, 42, 43, 44], [7, 8, 9, 12, 13, 41, 42, 43], [7, 8, 9, 41, 42, 43], [7, 8, 9, 41, 42, 43], [4, 5]], [⟨[], [2, 7, 8, 9, 25, 26, 27], [32, 208, 240, 368]⟩, ⟨[], [7, 8, 9, 41, 42, 43], [32, 176, 240, 368]⟩], [], [], [], false, [(4, 368), (71, 368), (48, 368), (7, 368), (5, 240), (18, 240), (16, 240), (6, 240)]⟩

/-- (*almadraba/lifts.sea).cheapest -/
def b83l0 : AC :=
 .loop [1, 2, 3, 4, 5, 15, 16, 17] [16, 32, 48, 208] (.seq (.region false [
 ⟨(some 18), .bin .lss (.t 17) (.t 16), none, [], []⟩] [1, 2, 3, 4, 5, 15, 16, 17, 18]) (.seq (.cond (.t 18) (.skip) (.exit 2)) (.seq (.block 3 (.seq (.region false [
 ⟨(some 19), .idxs 1 (.t 15) (.t 17), none, [], []⟩,
 ⟨(some 20), .load none (.t 19), none, [], []⟩,
 ⟨(some 7), .mv (.t 20), none, [], []⟩] [1, 2, 3, 4, 5, 7, 15, 16, 17]) (.region false [
 ⟨(some 21), .mv (.t 5), none, [], []⟩,
 ⟨(some 22), .load none (.t 1), none, [], []⟩,
 ⟨(some 23), .nilck (.t 22), none, [], []⟩,
 ⟨(some 24), .faddr 0 (.t 23), none, [], []⟩,
 ⟨(some 25), .faddr 3 (.t 24), none, [], []⟩,
 ⟨(some 26), .load none (.t 25), none, [], []⟩,
 ⟨(some 27), .mv (.t 7), none, [], []⟩,
 ⟨(some 28), .idxs 2 (.t 26) (.t 27), none, [], []⟩,
 ⟨(some 29), .faddr 1 (.t 28), none, [], []⟩,
 ⟨(some 30), .load none (.t 29), none, [], []⟩,
 ⟨(some 31), .bin .add (.t 21) (.t 30), none, [], []⟩,
 ⟨(some 5), .mv (.t 31), none, [], []⟩] [1, 2, 3, 4, 5, 15, 16, 17]))) (.region false [
 ⟨(some 32), .bin .add (.t 17) (.c (i64 1)), none, [], []⟩,
 ⟨(some 17), .mv (.t 32), none, [], []⟩] [1, 2, 3, 4, 5, 15, 16, 17]))))
/-- (*almadraba/lifts.sea).cheapest -/
def b83l1 : AC :=
 .region false [
 ⟨(some 4), .mv (.t 10), none, [], []⟩] [1, 2, 3, 4]
/-- (*almadraba/lifts.sea).cheapest -/
def b83l2 : AC :=
 .block 1 (.seq (.seq (.region false [
 ⟨(some 11), .load none (.t 1), none, [], []⟩,
 ⟨(some 12), .mv (.t 4), none, [], []⟩,
 ⟨(some 13), .call 97 [(.t 11), (.t 12)], none, [], []⟩,
 ⟨(some 14), .un .not (.t 13), none, [], []⟩] [1, 2, 3, 4, 14]) (.cond (.t 14) (.exit 1) (.skip))) (.seq (.region false [
 ⟨(some 5), .mv (.c (i64 0)), none, [], []⟩] [1, 2, 3, 4, 5]) (.seq (.seq (.region false [
 ⟨(some 15), .mv (.t 4), none, [], []⟩,
 ⟨(some 16), .len (.t 15), none, [], []⟩,
 ⟨(some 17), .mv (.c (i64 0)), none, [], []⟩] [1, 2, 3, 4, 5, 15, 16, 17]) (.block 2 (b83l0))) (.seq (.region false [
 ⟨(some 33), .load none (.t 3), none, [], []⟩,
 ⟨(some 34), .bin .lss (.t 33) (.c (i64 0)), none, [], []⟩,
 ⟨(some 35), .mv (.t 34), none, [], []⟩,
 ⟨(some 36), .mv (.t 5), (some (35, false)), [], []⟩,
 ⟨(some 37), .load none (.t 3), (some (35, false)), [], []⟩,
 ⟨(some 38), .bin .lss (.t 36) (.t 37), (some (35, false)), [], []⟩,
 ⟨(some 39), .pick (.t 35) (.c (.bool true)) (.t 38), none, [], []⟩] [2, 3, 4, 5, 39]) (.cond (.t 39) (.region false [
 ⟨(some 40), .mv (.t 4), none, [], []⟩,
 ⟨(some 41), .mv (.t 5), none, [], []⟩,
 ⟨none, .store 1 (.t 2) (.t 40), none, [], []⟩,
 ⟨none, .store 1 (.t 3) (.t 41), none, [], []⟩] [2, 3]) (.skip))))))
/-- (*almadraba/lifts.sea).cheapest -/
def b83 : AC :=
 .seq (.region false [
 ⟨(some 1), .box (.t 0), none, [], []⟩,
 ⟨(some 2), .alloc [(.sl .full 1 [])], none, [], []⟩,
 ⟨(some 3), .alloc [(i64 0)], none, [], []⟩] [1, 2, 3]) (.seq (.region false [
 ⟨none, .store 1 (.t 3) (.c (i64 (-1))), none, [], []⟩] [1, 2, 3]) (.seq (.seq (.region false [
 ⟨(some 8), .load none (.t 1), none, [], []⟩,
 ⟨(some 9), .mkfn 96 [(.t 8)] [], none, [], []⟩] [1, 2, 3, 9]) (.block 0 (.rng 1328 [10] b83l1 b83l2 (.t 9)))) (.seq (.region true (spl [
 ⟨(some 42), .load none (.t 2), none, [], []⟩,
 ⟨(some 43), .load none (.t 3), none, [], [32]⟩,
 ⟨none, .store 1 (.t 2) (.t 42), none, [0], []⟩] [
 ⟨none, .store 1 (.t 3) (.t 43), none, [1, 2, 0], []⟩]) [2, 3]) (.ret))))
def a83 : AFn := ⟨1, [.cell 2 none, .cell 3 none], b83, false⟩
def n83 : Ann := ⟨[[1, 2, 3], [1, 2, 3], [1, 2, 3, 9], [1, 2, 3, 4], [1, 2, 3, 4, 14], [1, 2, 3, 4, 5], [1, 2, 3, 4, 5, 15, 16, 17], [1, 2, 3, 4, 5, 15, 16, 17, 18], [1, 2, 3, 4, 5, 7, 15, 16, 17], [1, 2, 3, 4, 5, 15, 16, 17], [1, 2, 3, 4, 5, 15, 16, 17], [2, 3, 4, 5, 39], [2, 3], [2, 3]], [⟨[], [1, 2, 3, 4, 5, 15, 16, 17], [16, 32, 48, 208]⟩], [1328], [], [], false, []⟩

/-- almadraba/anchors.isSpan -/
def b84 : AC :=
 .seq (.region false [
 ⟨(some 2), .box (.t 0), none, [], []⟩,
 ⟨(some 4), .mv (.c (.bool false)), none, [], []⟩] [1, 2]) (.seq (.region false [
 ⟨(some 5), .mv (.t 1), none, [], []⟩,
 ⟨(some 6), .faddr 0 (.t 2), none, [], []⟩,
 ⟨(some 7), .load none (.t 6), none, [], []⟩,
 ⟨(some 8), .faddr 1 (.t 2), none, [], []⟩,
 ⟨(some 9), .load none (.t 8), none, [], []⟩,
 ⟨(some 10), .lit [(i64 0)] 2 [(0, (.t 7)), (1, (.t 9))], none, [], []⟩,
 ⟨(some 11), .call 89 [(.t 5), (.t 10)], none, [], []⟩,
 ⟨(some 12), .mv (.t 11), none, [], []⟩,
 ⟨(some 13), .faddr 0 (.t 2), (some (12, true)), [], []⟩,
 ⟨(some 14), .load none (.t 13), (some (12, true)), [], []⟩,
 ⟨(some 15), .faddr 1 (.t 2), (some (12, true)), [], []⟩,
 ⟨(some 16), .load none (.t 15), (some (12, true)), [], []⟩,
 ⟨(some 17), .bin .leq (.t 14) (.t 16), (some (12, true)), [], []⟩,
 ⟨(some 18), .pick (.t 12) (.t 17) (.c (.bool false)), none, [], []⟩,
 ⟨(some 4), .mv (.t 18), none, [], []⟩] [4]) (.ret))
def a84 : AFn := ⟨2, [.t 4], b84, false⟩
def n84 : Ann := ⟨[[1, 2], [4]], [], [], [], [], false, [(12, 176)]⟩

/-- almadraba/anchors.every[almadraba/api.Span] -/
def b85l0 : AC :=
 .loop [1, 7, 8, 9] [] (.seq (.region false [
 ⟨(some 10), .bin .lss (.t 9) (.t 8), none, [], []⟩] [1, 7, 8, 9, 10]) (.seq (.cond (.t 10) (.skip) (.exit 0)) (.seq (.block 1 (.seq (.region false [
 ⟨(some 11), .idxs 2 (.t 7) (.t 9), none, [], []⟩,
 ⟨(some 12), .load (some 2) (.t 11), none, [], []⟩,
 ⟨(some 6), .alloc [(i64 0), (i64 0)], none, [], []⟩,
 ⟨none, .store 2 (.t 6) (.t 12), none, [], []⟩] [1, 6, 7, 8, 9]) (.seq (.region false [
 ⟨(some 13), .mv (.t 1), none, [], []⟩,
 ⟨(some 14), .load (some 2) (.t 6), none, [], []⟩,
 ⟨(some 15), .callv (.t 13) [(.t 14)], none, [], []⟩,
 ⟨(some 16), .un .not (.t 15), none, [], []⟩] [1, 7, 8, 9, 16]) (.cond (.t 16) (.seq (.region false [
 ⟨(some 4), .mv (.c (.bool false)), none, [], []⟩] [4]) (.ret)) (.skip))))) (.region false [
 ⟨(some 17), .bin .add (.t 9) (.c (i64 1)), none, [], []⟩,
 ⟨(some 9), .mv (.t 17), none, [], []⟩] [1, 7, 8, 9]))))
/-- almadraba/anchors.every[almadraba/api.Span] -/
def b85 : AC :=
 .seq (.region false [
 ⟨(some 4), .mv (.c (.bool false)), none, [], []⟩] [0, 1]) (.seq (.seq (.region false [
 ⟨(some 7), .mv (.t 0), none, [], []⟩,
 ⟨(some 8), .len (.t 7), none, [], []⟩,
 ⟨(some 9), .mv (.c (i64 0)), none, [], []⟩] [1, 7, 8, 9]) (.block 0 (b85l0))) (.seq (.region false [
 ⟨(some 4), .mv (.c (.bool true)), none, [], []⟩] [4]) (.ret)))
def a85 : AFn := ⟨2, [.t 4], b85, false⟩
def n85 : Ann := ⟨[[0, 1], [1, 7, 8, 9], [1, 7, 8, 9, 10], [1, 6, 7, 8, 9], [1, 7, 8, 9, 16], [4], [1, 7, 8, 9], [4]], [⟨[], [1, 7, 8, 9], []⟩], [], [], [], false, []⟩

/-- almadraba/anchors.Check$1 -/
def b86 : AC :=
 .seq (.region false [
 ⟨(some 1), .box (.t 0), none, [], []⟩,
 ⟨(some 2), .mv (.c (.bool false)), none, [], []⟩] [1]) (.seq (.region false [
 ⟨(some 3), .load (some 2) (.t 1), none, [], []⟩,
 ⟨(some 4), .call 84 [(.t 3), (.c (i64 9))], none, [], []⟩,
 ⟨(some 2), .mv (.t 4), none, [], []⟩] [2]) (.ret))
def a86 : AFn := ⟨1, [.t 2], b86, false⟩
def n86 : Ann := ⟨[[1], [2]], [], [], [], [], false, [(2, 64)]⟩

/-- almadraba/anchors.every[almadraba/api.Anchor] -/
def b87l0 : AC :=
 .loop [1, 7, 8, 9] [] (.seq (.region false [
 ⟨(some 10), .bin .lss (.t 9) (.t 8), none, [], []⟩] [1, 7, 8, 9, 10]) (.seq (.cond (.t 10) (.skip) (.exit 0)) (.seq (.block 1 (.seq (.region false [
 ⟨(some 11), .idxs 2 (.t 7) (.t 9), none, [], []⟩,
 ⟨(some 12), .load (some 2) (.t 11), none, [], []⟩,
 ⟨(some 6), .alloc [(i64 0), (i64 0)], none, [], []⟩,
 ⟨none, .store 2 (.t 6) (.t 12), none, [], []⟩] [1, 6, 7, 8, 9]) (.seq (.region false [
 ⟨(some 13), .mv (.t 1), none, [], []⟩,
 ⟨(some 14), .load (some 2) (.t 6), none, [], []⟩,
 ⟨(some 15), .callv (.t 13) [(.t 14)], none, [], []⟩,
 ⟨(some 16), .un .not (.t 15), none, [], []⟩] [1, 7, 8, 9, 16]) (.cond (.t 16) (.seq (.region false [
 ⟨(some 4), .mv (.c (.bool false)), none, [], []⟩] [4]) (.ret)) (.skip))))) (.region false [
 ⟨(some 17), .bin .add (.t 9) (.c (i64 1)), none, [], []⟩,
 ⟨(some 9), .mv (.t 17), none, [], []⟩] [1, 7, 8, 9]))))
/-- almadraba/anchors.every[almadraba/api.Anchor] -/
def b87 : AC :=
 .seq (.region false [
 ⟨(some 4), .mv (.c (.bool false)), none, [], []⟩] [0, 1]) (.seq (.seq (.region false [
 ⟨(some 7), .mv (.t 0), none, [], []⟩,
 ⟨(some 8), .len (.t 7), none, [], []⟩,
 ⟨(some 9), .mv (.c (i64 0)), none, [], []⟩] [1, 7, 8, 9]) (.block 0 (b87l0))) (.seq (.region false [
 ⟨(some 4), .mv (.c (.bool true)), none, [], []⟩] [4]) (.ret)))
def a87 : AFn := ⟨2, [.t 4], b87, false⟩
def n87 : Ann := ⟨[[0, 1], [1, 7, 8, 9], [1, 7, 8, 9, 10], [1, 6, 7, 8, 9], [1, 7, 8, 9, 16], [4], [1, 7, 8, 9], [4]], [⟨[], [1, 7, 8, 9], []⟩], [], [], [], false, []⟩

/-- almadraba/anchors.Check$2 -/
def b88 : AC :=
 .seq (.region false [
 ⟨(some 2), .box (.t 0), none, [], []⟩,
 ⟨(some 3), .mv (.c (.bool false)), none, [], []⟩] [1, 2]) (.seq (.region false [
 ⟨(some 4), .faddr 0 (.t 2), none, [], []⟩,
 ⟨(some 5), .load none (.t 4), none, [], []⟩,
 ⟨(some 6), .lit [(i64 0)] 1 [(0, (.t 5))], none, [], []⟩,
 ⟨(some 7), .call 89 [(.c (i64 20)), (.t 6)], none, [], []⟩,
 ⟨(some 8), .mv (.t 7), none, [], []⟩,
 ⟨(some 9), .faddr 4 (.t 1), (some (8, true)), [], []⟩,
 ⟨(some 10), .load none (.t 9), (some (8, true)), [], []⟩,
 ⟨(some 11), .len (.t 10), (some (8, true)), [], []⟩,
 ⟨(some 12), .bin .sub (.t 11) (.c (i64 1)), (some (8, true)), [], []⟩,
 ⟨(some 13), .faddr 1 (.t 2), (some (8, true)), [], []⟩,
 ⟨(some 14), .load none (.t 13), (some (8, true)), [], []⟩,
 ⟨(some 15), .lit [(i64 0)] 1 [(0, (.t 14))], (some (8, true)), [], []⟩,
 ⟨(some 16), .call 89 [(.t 12), (.t 15)], (some (8, true)), [], []⟩,
 ⟨(some 17), .pick (.t 8) (.t 16) (.c (.bool false)), none, [], []⟩,
 ⟨(some 3), .mv (.t 17), none, [], []⟩] [3]) (.ret))
def a88 : AFn := ⟨2, [.t 3], b88, false⟩
def n88 : Ann := ⟨[[1, 2], [3]], [], [], [], [], false, [(8, 112)]⟩

/-- almadraba/anchors.inside -/
def b89 : AC :=
 .seq (.region false [
 ⟨(some 2), .box (.t 0), none, [], []⟩,
 ⟨(some 4), .mv (.c (.bool false)), none, [], []⟩] [1, 2]) (.seq (.region false [
 ⟨(some 5), .mv (.t 1), none, [], []⟩,
 ⟨(some 6), .mkfn 99 [] [(.t 2)], none, [], []⟩,
 ⟨(some 7), .call 98 [(.t 5), (.t 6)], none, [], []⟩,
 ⟨(some 8), .un .not (.t 7), none, [], []⟩,
 ⟨(some 4), .mv (.t 8), none, [], []⟩] [4]) (.ret))
def a89 : AFn := ⟨2, [.t 4], b89, false⟩
def n89 : Ann := ⟨[[1, 2], [4]], [], [], [], [], false, []⟩

/-- almadraba/anchors.every[almadraba/api.AnchorWall] -/
def b90l0 : AC :=
 .loop [1, 7, 8, 9] [] (.seq (.region false [
 ⟨(some 10), .bin .lss (.t 9) (.t 8), none, [], []⟩] [1, 7, 8, 9, 10]) (.seq (.cond (.t 10) (.skip) (.exit 0)) (.seq (.block 1 (.seq (.region false [
 ⟨(some 11), .idxs 5 (.t 7) (.t 9), none, [], []⟩,
 ⟨(some 12), .load (some 5) (.t 11), none, [], []⟩,
 ⟨(some 6), .alloc [(i64 0), (i64 0), (i64 0), (i64 0), (i64 0)], none, [], []⟩,
 ⟨none, .store 5 (.t 6) (.t 12), none, [], []⟩] [1, 6, 7, 8, 9]) (.seq (.region false [
 ⟨(some 13), .mv (.t 1), none, [], []⟩,
 ⟨(some 14), .load (some 5) (.t 6), none, [], []⟩,
 ⟨(some 15), .callv (.t 13) [(.t 14)], none, [], []⟩,
 ⟨(some 16), .un .not (.t 15), none, [], []⟩] [1, 7, 8, 9, 16]) (.cond (.t 16) (.seq (.region false [
 ⟨(some 4), .mv (.c (.bool false)), none, [], []⟩] [4]) (.ret)) (.skip))))) (.region false [
 ⟨(some 17), .bin .add (.t 9) (.c (i64 1)), none, [], []⟩,
 ⟨(some 9), .mv (.t 17), none, [], []⟩] [1, 7, 8, 9]))))
/-- almadraba/anchors.every[almadraba/api.AnchorWall] -/
def b90 : AC :=
 .seq (.region false [
 ⟨(some 4), .mv (.c (.bool false)), none, [], []⟩] [0, 1]) (.seq (.seq (.region false [
 ⟨(some 7), .mv (.t 0), none, [], []⟩,
 ⟨(some 8), .len (.t 7), none, [], []⟩,
 ⟨(some 9), .mv (.c (i64 0)), none, [], []⟩] [1, 7, 8, 9]) (.block 0 (b90l0))) (.seq (.region false [
 ⟨(some 4), .mv (.c (.bool true)), none, [], []⟩] [4]) (.ret)))
def a90 : AFn := ⟨2, [.t 4], b90, false⟩
def n90 : Ann := ⟨[[0, 1], [1, 7, 8, 9], [1, 7, 8, 9, 10], [1, 6, 7, 8, 9], [1, 7, 8, 9, 16], [4], [1, 7, 8, 9], [4]], [⟨[], [1, 7, 8, 9], []⟩], [], [], [], false, []⟩

/-- almadraba/anchors.Check$3 -/
def b91 : AC :=
 .seq (.region false [
 ⟨(some 1), .box (.t 0), none, [], []⟩,
 ⟨(some 2), .mv (.c (.bool false)), none, [], []⟩] [1]) (.seq (.region false [
 ⟨(some 3), .faddr 0 (.t 1), none, [], []⟩,
 ⟨(some 4), .load none (.t 3), none, [], []⟩,
 ⟨(some 5), .faddr 1 (.t 1), none, [], []⟩,
 ⟨(some 6), .load none (.t 5), none, [], []⟩,
 ⟨(some 7), .faddr 2 (.t 1), none, [], []⟩,
 ⟨(some 8), .load none (.t 7), none, [], []⟩,
 ⟨(some 9), .lit [(i64 0)] 3 [(0, (.t 4)), (1, (.t 6)), (2, (.t 8))], none, [], []⟩,
 ⟨(some 10), .call 89 [(.c (i64 9)), (.t 9)], none, [], []⟩,
 ⟨(some 11), .mv (.t 10), none, [], []⟩,
 ⟨(some 12), .faddr 3 (.t 1), (some (11, true)), [], []⟩,
 ⟨(some 13), .load none (.t 12), (some (11, true)), [], []⟩,
 ⟨(some 14), .faddr 4 (.t 1), (some (11, true)), [], []⟩,
 ⟨(some 15), .load none (.t 14), (some (11, true)), [], []⟩,
 ⟨(some 16), .lit [(i64 0)] 2 [(0, (.t 13)), (1, (.t 15))], (some (11, true)), [], []⟩,
 ⟨(some 17), .call 89 [(.c (i64 99)), (.t 16)], (some (11, true)), [], []⟩,
 ⟨(some 18), .pick (.t 11) (.t 17) (.c (.bool false)), none, [], []⟩,
 ⟨(some 2), .mv (.t 18), none, [], []⟩] [2]) (.ret))
def a91 : AFn := ⟨1, [.t 2], b91, false⟩
def n91 : Ann := ⟨[[1], [2]], [], [], [], [], false, [(11, 160)]⟩

/-- almadraba/lifts.within -/
def b92 : AC :=
 .seq (.region false [
 ⟨(some 6), .mv (.c (.bool false)), none, [], []⟩] [0, 1, 2]) (.seq (.region false [
 ⟨(some 7), .mv (.t 0), none, [], []⟩,
 ⟨(some 8), .mv (.t 1), none, [], []⟩,
 ⟨(some 9), .bin .geq (.t 7) (.t 8), none, [], []⟩,
 ⟨(some 10), .mv (.t 9), none, [], []⟩,
 ⟨(some 11), .mv (.t 0), (some (10, true)), [], []⟩,
 ⟨(some 12), .mv (.t 2), (some (10, true)), [], []⟩,
 ⟨(some 13), .bin .leq (.t 11) (.t 12), (some (10, true)), [], []⟩,
 ⟨(some 14), .pick (.t 10) (.t 13) (.c (.bool false)), none, [], []⟩,
 ⟨(some 6), .mv (.t 14), none, [], []⟩] [6]) (.ret))
def a92 : AFn := ⟨3, [.t 6], b92, false⟩
def n92 : Ann := ⟨[[0, 1, 2], [6]], [], [], [], [], false, []⟩

/-- (almadraba/anchors.set).has -/
def b93 : AC :=
 .seq (.region false [
 ⟨(some 4), .mv (.c (.bool false)), none, [], []⟩] [0, 1]) (.seq (.region false [
 ⟨(some 5), .mv (.t 0), none, [], []⟩,
 ⟨(some 6), .mv (.t 1), none, [], []⟩,
 ⟨(some 7), .bin .shr (.t 5) (.t 6), none, [], []⟩,
 ⟨(some 8), .bin .and (.t 7) (.c (.int .u64 1)), none, [], []⟩,
 ⟨(some 9), .bin .eql (.t 8) (.c (.int .u64 1)), none, [], []⟩,
 ⟨(some 4), .mv (.t 9), none, [], []⟩] [4]) (.ret))
def a93 : AFn := ⟨2, [.t 4], b93, false⟩
def n93 : Ann := ⟨[[0, 1], [4]], [], [], [], [], false, []⟩

/-- (almadraba/anchors.row).spare -/
def b94 : AC :=
 .seq (.region false [
 ⟨(some 3), .box (.t 0), none, [], []⟩,
 ⟨(some 6), .mv (.c (i64 0)), none, [], []⟩] [1, 2, 3]) (.seq (.region false [
 ⟨(some 8), .faddr 0 (.t 3), none, [], []⟩,
 ⟨(some 9), .faddr 5 (.t 8), none, [], []⟩,
 ⟨(some 10), .load none (.t 9), none, [], []⟩,
 ⟨(some 11), .mv (.t 1), none, [], []⟩,
 ⟨(some 12), .idxs 2 (.t 10) (.t 11), none, [], []⟩,
 ⟨(some 13), .load (some 2) (.t 12), none, [], []⟩,
 ⟨(some 7), .alloc [(i64 0), (i64 0)], none, [], []⟩,
 ⟨none, .store 2 (.t 7) (.t 13), none, [], []⟩] [1, 2, 3, 7]) (.seq (.region true (spl [
 ⟨(some 14), .faddr 0 (.t 7), none, [], []⟩,
 ⟨(some 15), .load none (.t 14), none, [0], []⟩,
 ⟨(some 16), .bin .mul (.c (i64 2)) (.t 15), none, [1, 0], []⟩,
 ⟨(some 17), .faddr 7 (.t 3), none, [], []⟩,
 ⟨(some 18), .faddr 2 (.t 17), none, [3], []⟩,
 ⟨(some 19), .load none (.t 18), none, [4, 3], []⟩,
 ⟨(some 20), .faddr 1 (.t 7), none, [], []⟩,
 ⟨(some 21), .load none (.t 20), none, [6], []⟩,
 ⟨(some 22), .idxs 1 (.t 19) (.t 21), none, [5, 7, 4, 3, 6], []⟩,
 ⟨(some 23), .load none (.t 22), none, [8, 5, 7, 4, 3, 6], []⟩,
 ⟨(some 24), .bin .mul (.t 16) (.t 23), none, [2, 9, 1, 0, 8, 5, 7, 4, 3, 6], []⟩,
 ⟨(some 25), .load (some 10) (.t 3), none, [], []⟩,
 ⟨(some 26), .mv (.t 1), none, [], []⟩,
 ⟨(some 27), .mv (.t 2), none, [], []⟩,
 ⟨(some 28), .call 100 [(.t 25), (.t 26), (.t 27)], none, [11, 12, 13], []⟩] [
 ⟨(some 29), .bin .sub (.t 24) (.t 28), none, [10, 14, 2, 9, 1, 0, 8, 5, 7, 4, 3, 6, 11, 12, 13], []⟩,
 ⟨(some 6), .mv (.t 29), none, [15, 10, 14, 2, 9, 1, 0, 8, 5, 7, 4, 3, 6, 11, 12, 13], []⟩]) [6]) (.ret)))
def a94 : AFn := ⟨3, [.t 6], b94, false⟩
def n94 : Ann := ⟨[[1, 2, 3], [1, 2, 3, 7], [6]], [], [], [], [], false, []⟩

/-- (almadraba/anchors.set).with -/
def b95 : AC :=
 .seq (.region false [
 ⟨(some 4), .mv (.c (.int .u64 0)), none, [], []⟩] [0, 1]) (.seq (.region false [
 ⟨(some 5), .mv (.t 0), none, [], []⟩,
 ⟨(some 6), .mv (.t 1), none, [], []⟩,
 ⟨(some 7), .bin .shl (.c (.int .u64 1)) (.t 6), none, [], []⟩,
 ⟨(some 8), .bin .or (.t 5) (.t 7), none, [], []⟩,
 ⟨(some 4), .mv (.t 8), none, [], []⟩] [4]) (.ret))
def a95 : AFn := ⟨2, [.t 4], b95, false⟩
def n95 : Ann := ⟨[[0, 1], [4]], [], [], [], [], false, []⟩

/-- (*almadraba/lifts.sea).crews -/
def b96 : AC :=
 .seq (.region false [
 ⟨(some 2), .box (.t 0), none, [], []⟩,
 ⟨(some 3), .box (.t 1), none, [], []⟩] [2, 3]) (.seq (.region false [
 ⟨(some 4), .alloc [.nilf], none, [], []⟩] [2, 3, 4]) (.seq (.region false [
 ⟨(some 5), .mkfn 101 [] [(.t 2), (.t 3), (.t 4)], none, [], []⟩,
 ⟨none, .store 1 (.t 4) (.t 5), none, [], []⟩] [4]) (.region false [
 ⟨(some 6), .load none (.t 4), none, [], []⟩,
 ⟨(some 7), .callv (.t 6) [(.c (.sl .full 1 []))], none, [], []⟩] [])))
def a96 : AFn := ⟨2, [], b96, false⟩
def n96 : Ann := ⟨[[2, 3], [2, 3, 4], [4], []], [], [], [], [], false, []⟩

/-- (*almadraba/lifts.sea).holds -/
def b97l0 : AC :=
 .loop [0, 7, 8, 9] [] (.seq (.region false [
 ⟨(some 10), .bin .lss (.t 9) (.t 8), none, [], []⟩] [0, 7, 8, 9, 10]) (.seq (.cond (.t 10) (.skip) (.exit 0)) (.seq (.block 1 (.seq (.region false [
 ⟨(some 11), .mv (.t 9), none, [], []⟩,
 ⟨(some 12), .idxs 1 (.t 7) (.t 9), none, [], []⟩,
 ⟨(some 13), .load none (.t 12), none, [], []⟩,
 ⟨(some 5), .mv (.t 11), none, [], []⟩,
 ⟨(some 6), .mv (.t 13), none, [], []⟩] [0, 5, 6, 7, 8, 9]) (.seq (.region true (spl [
 ⟨(some 14), .mv (.t 0), none, [], []⟩,
 ⟨(some 15), .nilck (.t 14), none, [0], []⟩,
 ⟨(some 16), .faddr 0 (.t 15), none, [1, 0], []⟩,
 ⟨(some 17), .faddr 3 (.t 16), none, [2, 1, 0], []⟩,
 ⟨(some 18), .load none (.t 17), none, [3, 2, 1, 0], []⟩,
 ⟨(some 19), .mv (.t 6), none, [], []⟩,
 ⟨(some 20), .idxs 2 (.t 18) (.t 19), none, [4, 5, 3, 2, 1, 0], []⟩,
 ⟨(some 21), .faddr 0 (.t 20), none, [6, 4, 5, 3, 2, 1, 0], []⟩,
 ⟨(some 22), .load none (.t 21), none, [7, 6, 4, 5, 3, 2, 1, 0], []⟩,
 ⟨(some 23), .mv (.t 0), none, [], []⟩,
 ⟨(some 24), .mv (.t 5), none, [], []⟩,
 ⟨(some 25), .call 103 [(.t 23), (.t 24)], none, [9, 10], []⟩] [
 ⟨(some 26), .bin .lss (.t 22) (.t 25), none, [8, 11, 7, 6, 4, 5, 3, 2, 1, 0, 9, 10], []⟩]) [0, 7, 8, 9, 26]) (.cond (.t 26) (.seq (.region false [
 ⟨(some 4), .mv (.c (.bool false)), none, [], []⟩] [4]) (.ret)) (.skip))))) (.region false [
 ⟨(some 27), .bin .add (.t 9) (.c (i64 1)), none, [], []⟩,
 ⟨(some 9), .mv (.t 27), none, [], []⟩] [0, 7, 8, 9]))))
/-- (*almadraba/lifts.sea).holds -/
def b97 : AC :=
 .seq (.region false [
 ⟨(some 4), .mv (.c (.bool false)), none, [], []⟩] [0, 1]) (.seq (.seq (.region false [
 ⟨(some 7), .mv (.t 1), none, [], []⟩,
 ⟨(some 8), .len (.t 7), none, [], []⟩,
 ⟨(some 9), .mv (.c (i64 0)), none, [], []⟩] [0, 7, 8, 9]) (.block 0 (b97l0))) (.seq (.region false [
 ⟨(some 4), .mv (.c (.bool true)), none, [], []⟩] [4]) (.ret)))
def a97 : AFn := ⟨2, [.t 4], b97, false⟩
def n97 : Ann := ⟨[[0, 1], [0, 7, 8, 9], [0, 7, 8, 9, 10], [0, 5, 6, 7, 8, 9], [0, 7, 8, 9, 26], [4], [0, 7, 8, 9], [4]], [⟨[], [0, 7, 8, 9], []⟩], [], [], [], false, []⟩

/-- slices.ContainsFunc[[]int,int] -/
def b98 : AC :=
 .seq (.region false [
 ⟨(some 4), .mv (.c (.bool false)), none, [], []⟩] [0, 1]) (.seq (.region false [
 ⟨(some 5), .mv (.t 0), none, [], []⟩,
 ⟨(some 6), .mv (.t 1), none, [], []⟩,
 ⟨(some 7), .call 104 [(.t 5), (.t 6)], none, [], []⟩,
 ⟨(some 8), .bin .geq (.t 7) (.c (i64 0)), none, [], []⟩,
 ⟨(some 4), .mv (.t 8), none, [], []⟩] [4]) (.ret))
def a98 : AFn := ⟨2, [.t 4], b98, false⟩
def n98 : Ann := ⟨[[0, 1], [4]], [], [], [], [], false, []⟩

/-- almadraba/anchors.inside$1 -/
def b99 : AC :=
 .seq (.region false [
 ⟨(some 3), .mv (.c (.bool false)), none, [], []⟩] [0, 1]) (.seq (.region false [
 ⟨(some 4), .mv (.t 0), none, [], []⟩,
 ⟨(some 5), .bin .lss (.t 4) (.c (i64 0)), none, [], []⟩,
 ⟨(some 6), .mv (.t 5), none, [], []⟩,
 ⟨(some 7), .mv (.t 0), (some (6, false)), [], []⟩,
 ⟨(some 8), .load none (.t 1), (some (6, false)), [], []⟩,
 ⟨(some 9), .bin .gtr (.t 7) (.t 8), (some (6, false)), [], []⟩,
 ⟨(some 10), .pick (.t 6) (.c (.bool true)) (.t 9), none, [], []⟩,
 ⟨(some 3), .mv (.t 10), none, [], []⟩] [3]) (.ret))
def a99 : AFn := ⟨2, [.t 3], b99, false⟩
def n99 : Ann := ⟨[[0, 1], [3]], [], [], [], [], false, []⟩

/-- (almadraba/anchors.row).bears -/
def b100 : AC :=
 .seq (.region false [
 ⟨(some 3), .box (.t 0), none, [], []⟩,
 ⟨(some 5), .box (.t 2), none, [], []⟩,
 ⟨(some 6), .mv (.c (i64 0)), none, [], []⟩] [1, 3, 5]) (.seq (.region false [
 ⟨(some 7), .alloc [(i64 0)], none, [], []⟩,
 ⟨none, .store 1 (.t 7) (.c (i64 0)), none, [], []⟩] [1, 3, 5, 7]) (.seq (.region false [
 ⟨(some 9), .mkfn 105 [] [(.t 3), (.t 5), (.t 7)], none, [], []⟩,
 ⟨(some 8), .mv (.t 9), none, [], []⟩] [1, 7, 8]) (.seq (.region false [
 ⟨(some 10), .mv (.t 8), none, [], []⟩,
 ⟨(some 11), .mv (.t 1), none, [], []⟩,
 ⟨(some 12), .bin .sub (.t 11) (.c (i64 1)), none, [], []⟩,
 ⟨(some 13), .mv (.t 1), none, [], []⟩,
 ⟨(some 14), .bin .sub (.t 13) (.c (i64 1)), none, [], []⟩,
 ⟨(some 15), .callv (.t 10) [(.t 12), (.t 14)], none, [], []⟩] [1, 7, 8]) (.seq (.region false [
 ⟨(some 16), .mv (.t 8), none, [], []⟩,
 ⟨(some 17), .mv (.t 1), none, [], []⟩,
 ⟨(some 18), .mv (.t 1), none, [], []⟩,
 ⟨(some 19), .bin .add (.t 18) (.c (i64 1)), none, [], []⟩,
 ⟨(some 20), .callv (.t 16) [(.t 17), (.t 19)], none, [], []⟩] [7]) (.seq (.region false [
 ⟨(some 21), .load none (.t 7), none, [], []⟩,
 ⟨(some 6), .mv (.t 21), none, [], []⟩] [6]) (.ret))))))
def a100 : AFn := ⟨3, [.t 6], b100, false⟩
def n100 : Ann := ⟨[[1, 3, 5], [1, 3, 5, 7], [1, 7, 8], [1, 7, 8], [7], [6]], [], [], [], [], false, []⟩

/-- (*almadraba/lifts.sea).crews$1 -/
def b101l0 : AC :=
 .loop [0, 3, 24, 25] [288] (.seq (.region false [
 ⟨(some 26), .bin .lss (.t 25) (.t 24), none, [], []⟩] [0, 3, 24, 25, 26]) (.seq (.cond (.t 26) (.skip) (.exit 0)) (.seq (.block 1 (.seq (.region false [
 ⟨(some 27), .mv (.t 25), none, [], []⟩,
 ⟨(some 6), .mv (.t 27), none, [], []⟩] [0, 3, 6, 24, 25]) (.seq (.region true (spl [
 ⟨(some 28), .mv (.t 0), none, [], []⟩,
 ⟨(some 29), .mv (.t 6), none, [], []⟩,
 ⟨(some 30), .call 102 [(.t 28), (.t 29)], none, [0, 1], []⟩,
 ⟨(some 31), .un .not (.t 30), none, [2, 0, 1], []⟩,
 ⟨(some 32), .mv (.t 31), none, [3, 2, 0, 1], []⟩,
 ⟨(some 33), .load none (.t 3), (some (32, true)), [4, 3, 2, 0, 1], []⟩,
 ⟨(some 34), .mv (.t 0), (some (32, true)), [4, 3, 2, 0, 1], []⟩,
 ⟨(some 35), .mv (.t 0), (some (32, true)), [4, 3, 2, 0, 1], []⟩,
 ⟨(some 36), .len (.t 35), (some (32, true)), [7, 4, 3, 2, 0, 1], []⟩,
 ⟨(some 37), .mv (.t 0), (some (32, true)), [4, 3, 2, 0, 1], []⟩,
 ⟨(some 38), .len (.t 37), (some (32, true)), [9, 4, 3, 2, 0, 1], []⟩,
 ⟨(some 39), .slice 1 (.t 34) none (some (.t 36)) (some (.t 38)), (some (32, true)), [6, 8, 10, 7, 9, 4, 3, 2, 0, 1], []⟩,
 ⟨(some 40), .mv (.t 6), (some (32, true)), [4, 3, 2, 0, 1], []⟩,
 ⟨(some 41), .lit [(i64 0)] 1 [(0, (.t 40))], (some (32, true)), [12, 4, 3, 2, 0, 1], []⟩,
 ⟨(some 42), .app 1 8 (.t 39) (.t 41), (some (32, true)), [11, 13, 6, 8, 10, 7, 9, 12, 4, 3, 2, 0, 1], []⟩] [
 ⟨(some 43), .callv (.t 33) [(.t 42)], (some (32, true)), [5, 14, 11, 13, 6, 8, 10, 7, 9, 12, 4, 3, 2, 0, 1], []⟩,
 ⟨(some 44), .un .not (.t 43), (some (32, true)), [15, 5, 14, 11, 13, 6, 8, 10, 7, 9, 12, 4, 3, 2, 0, 1], []⟩,
 ⟨(some 45), .pick (.t 32) (.t 44) (.c (.bool false)), none, [16, 15, 5, 14, 11, 13, 6, 8, 10, 7, 9, 12, 4, 3, 2, 0, 1], []⟩]) [0, 3, 24, 25, 45]) (.cond (.t 45) (.seq (.region false [
 ⟨(some 5), .mv (.c (.bool false)), none, [], []⟩] [5]) (.ret)) (.skip))))) (.region false [
 ⟨(some 46), .bin .add (.t 25) (.c (i64 1)), none, [], []⟩,
 ⟨(some 25), .mv (.t 46), none, [], []⟩] [0, 3, 24, 25]))))
/-- (*almadraba/lifts.sea).crews$1 -/
def b101 : AC :=
 .seq (.region false [
 ⟨(some 5), .mv (.c (.bool false)), none, [], []⟩] [0, 1, 2, 3]) (.seq (.seq (.region false [
 ⟨(some 7), .mv (.t 0), none, [], []⟩,
 ⟨(some 8), .len (.t 7), none, [], []⟩,
 ⟨(some 9), .load none (.t 1), none, [], []⟩,
 ⟨(some 10), .nilck (.t 9), none, [], []⟩,
 ⟨(some 11), .faddr 0 (.t 10), none, [], []⟩,
 ⟨(some 12), .faddr 2 (.t 11), none, [], []⟩,
 ⟨(some 13), .load none (.t 12), none, [], []⟩,
 ⟨(some 14), .len (.t 13), none, [], []⟩,
 ⟨(some 15), .bin .eql (.t 8) (.t 14), none, [], []⟩] [0, 1, 2, 3, 15]) (.cond (.t 15) (.seq (.region false [
 ⟨(some 16), .load none (.t 2), none, [], []⟩,
 ⟨(some 17), .mv (.t 0), none, [], []⟩,
 ⟨(some 18), .callv (.t 16) [(.t 17)], none, [], []⟩,
 ⟨(some 5), .mv (.t 18), none, [], []⟩] [5]) (.ret)) (.skip))) (.seq (.seq (.region false [
 ⟨(some 19), .load none (.t 1), none, [], []⟩,
 ⟨(some 20), .nilck (.t 19), none, [], []⟩,
 ⟨(some 21), .faddr 0 (.t 20), none, [], []⟩,
 ⟨(some 22), .faddr 3 (.t 21), none, [], []⟩,
 ⟨(some 23), .load none (.t 22), none, [], []⟩,
 ⟨(some 24), .len (.t 23), none, [], []⟩,
 ⟨(some 25), .mv (.c (i64 0)), none, [], []⟩] [0, 3, 24, 25]) (.block 0 (b101l0))) (.seq (.region false [
 ⟨(some 5), .mv (.c (.bool true)), none, [], []⟩] [5]) (.ret))))
def a101 : AFn := ⟨4, [.t 5], b101, false⟩
def n101 : Ann := ⟨[[0, 1, 2, 3], [0, 1, 2, 3, 15], [5], [0, 3, 24, 25], [0, 3, 24, 25, 26], [0, 3, 6, 24, 25], [0, 3, 24, 25, 45], [5], [0, 3, 24, 25], [5]], [⟨[], [0, 3, 24, 25], [288]⟩], [], [], [], false, []⟩

/-- slices.Contains[[]int,int] -/
def b102 : AC :=
 .seq (.region false [
 ⟨(some 4), .mv (.c (.bool false)), none, [], []⟩] [0, 1]) (.seq (.region false [
 ⟨(some 5), .mv (.t 0), none, [], []⟩,
 ⟨(some 6), .mv (.t 1), none, [], []⟩,
 ⟨(some 7), .call 107 [(.t 5), (.t 6)], none, [], []⟩,
 ⟨(some 8), .bin .geq (.t 7) (.c (i64 0)), none, [], []⟩,
 ⟨(some 4), .mv (.t 8), none, [], []⟩] [4]) (.ret))
def a102 : AFn := ⟨2, [.t 4], b102, false⟩
def n102 : Ann := ⟨[[0, 1], [4]], [], [], [], [], false, []⟩

/-- (*almadraba/lifts.sea).need -/
def b103 : AC :=
 .seq (.region false [
 ⟨(some 4), .mv (.c (i64 0)), none, [], []⟩] [0, 1]) (.seq (.region true (spl [
 ⟨(some 5), .mv (.t 0), none, [], []⟩,
 ⟨(some 6), .nilck (.t 5), none, [0], []⟩,
 ⟨(some 7), .faddr 0 (.t 6), none, [1, 0], []⟩,
 ⟨(some 8), .faddr 0 (.t 7), none, [2, 1, 0], []⟩,
 ⟨(some 9), .faddr 1 (.t 8), none, [3, 2, 1, 0], []⟩,
 ⟨(some 10), .load none (.t 9), none, [4, 3, 2, 1, 0], []⟩,
 ⟨(some 11), .mv (.t 0), none, [], []⟩,
 ⟨(some 12), .mv (.t 1), none, [], []⟩,
 ⟨(some 13), .nilck (.t 11), none, [6], []⟩,
 ⟨(some 14), .faddr 4 (.t 13), none, [8, 6], []⟩,
 ⟨(some 15), .idxa 4 2 (.t 14) (.t 12), none, [9, 7, 8, 6], []⟩,
 ⟨(some 16), .faddr 1 (.t 15), none, [10, 9, 7, 8, 6], []⟩,
 ⟨(some 17), .load none (.t 16), none, [11, 10, 9, 7, 8, 6], []⟩] [
 ⟨(some 18), .bin .mul (.t 10) (.t 17), none, [5, 12, 4, 3, 2, 1, 0, 11, 10, 9, 7, 8, 6], []⟩,
 ⟨(some 19), .bin .add (.t 18) (.c (i64 12)), none, [13, 5, 12, 4, 3, 2, 1, 0, 11, 10, 9, 7, 8, 6], []⟩,
 ⟨(some 20), .bin .sub (.t 19) (.c (i64 1)), none, [14, 13, 5, 12, 4, 3, 2, 1, 0, 11, 10, 9, 7, 8, 6], []⟩,
 ⟨(some 21), .bin .quo (.t 20) (.c (i64 12)), none, [15, 14, 13, 5, 12, 4, 3, 2, 1, 0, 11, 10, 9, 7, 8, 6], []⟩,
 ⟨(some 4), .mv (.t 21), none, [16, 15, 14, 13, 5, 12, 4, 3, 2, 1, 0, 11, 10, 9, 7, 8, 6], []⟩]) [4]) (.ret))
def a103 : AFn := ⟨2, [.t 4], b103, false⟩
def n103 : Ann := ⟨[[0, 1], [4]], [], [], [], [], false, []⟩

/-- slices.IndexFunc[[]int,int] -/
def b104l0 : AC :=
 .loop [0, 1, 7, 8] [] (.seq (.region false [
 ⟨(some 9), .bin .lss (.t 8) (.t 7), none, [], []⟩] [0, 1, 7, 8, 9]) (.seq (.cond (.t 9) (.skip) (.exit 0)) (.seq (.block 1 (.seq (.region false [
 ⟨(some 10), .mv (.t 8), none, [], []⟩,
 ⟨(some 5), .mv (.t 10), none, [], []⟩] [0, 1, 5, 7, 8]) (.seq (.region false [
 ⟨(some 11), .mv (.t 1), none, [], []⟩,
 ⟨(some 12), .mv (.t 0), none, [], []⟩,
 ⟨(some 13), .mv (.t 5), none, [], []⟩,
 ⟨(some 14), .idxs 1 (.t 12) (.t 13), none, [], []⟩,
 ⟨(some 15), .load none (.t 14), none, [], []⟩,
 ⟨(some 16), .callv (.t 11) [(.t 15)], none, [], []⟩] [0, 1, 5, 7, 8, 16]) (.cond (.t 16) (.seq (.region false [
 ⟨(some 17), .mv (.t 5), none, [], []⟩,
 ⟨(some 4), .mv (.t 17), none, [], []⟩] [4]) (.ret)) (.skip))))) (.region false [
 ⟨(some 18), .bin .add (.t 8) (.c (i64 1)), none, [], []⟩,
 ⟨(some 8), .mv (.t 18), none, [], []⟩] [0, 1, 7, 8]))))
/-- slices.IndexFunc[[]int,int] -/
def b104 : AC :=
 .seq (.region false [
 ⟨(some 4), .mv (.c (i64 0)), none, [], []⟩] [0, 1]) (.seq (.seq (.region false [
 ⟨(some 6), .mv (.t 0), none, [], []⟩,
 ⟨(some 7), .len (.t 6), none, [], []⟩,
 ⟨(some 8), .mv (.c (i64 0)), none, [], []⟩] [0, 1, 7, 8]) (.block 0 (b104l0))) (.seq (.region false [
 ⟨(some 4), .mv (.c (i64 (-1))), none, [], []⟩] [4]) (.ret)))
def a104 : AFn := ⟨2, [.t 4], b104, false⟩
def n104 : Ann := ⟨[[0, 1], [0, 1, 7, 8], [0, 1, 7, 8, 9], [0, 1, 5, 7, 8], [0, 1, 5, 7, 8, 16], [4], [0, 1, 7, 8], [4]], [⟨[], [0, 1, 7, 8], []⟩], [], [], [], false, []⟩

/-- (almadraba/anchors.row).bears$1 -/
def b105 : AC :=
 .seq (.seq (.region false [
 ⟨(some 8), .mv (.t 0), none, [], []⟩,
 ⟨(some 9), .bin .lss (.t 8) (.c (i64 0)), none, [], []⟩,
 ⟨(some 10), .mv (.t 9), none, [], []⟩,
 ⟨(some 11), .mv (.t 0), (some (10, false)), [], []⟩,
 ⟨(some 12), .faddr 0 (.t 2), (some (10, false)), [], []⟩,
 ⟨(some 13), .faddr 6 (.t 12), (some (10, false)), [], []⟩,
 ⟨(some 14), .load none (.t 13), (some (10, false)), [], []⟩,
 ⟨(some 15), .len (.t 14), (some (10, false)), [], []⟩,
 ⟨(some 16), .bin .geq (.t 11) (.t 15), (some (10, false)), [], []⟩,
 ⟨(some 17), .pick (.t 10) (.c (.bool true)) (.t 16), none, [], []⟩] [0, 1, 2, 3, 4, 17]) (.cond (.t 17) (.ret) (.skip))) (.seq (.region true (spl [
 ⟨(some 18), .faddr 0 (.t 2), none, [], []⟩,
 ⟨(some 19), .faddr 6 (.t 18), none, [0], []⟩,
 ⟨(some 20), .load none (.t 19), none, [1, 0], []⟩,
 ⟨(some 21), .mv (.t 0), none, [], []⟩,
 ⟨(some 22), .idxs 5 (.t 20) (.t 21), none, [2, 3, 1, 0], []⟩,
 ⟨(some 23), .load (some 5) (.t 22), none, [4, 2, 3, 1, 0], []⟩,
 ⟨(some 24), .faddr 7 (.t 2), none, [], []⟩,
 ⟨(some 25), .faddr 0 (.t 24), none, [6], []⟩,
 ⟨(some 26), .load none (.t 25), none, [7, 6], []⟩,
 ⟨(some 27), .faddr 7 (.t 2), none, [], []⟩,
 ⟨(some 28), .faddr 1 (.t 27), none, [9], []⟩,
 ⟨(some 29), .load none (.t 28), none, [10, 9], []⟩] [
 ⟨(some 30), .call 106 [(.t 23), (.t 26), (.t 29)], none, [5, 8, 11, 4, 2, 3, 1, 0, 7, 6, 10, 9], []⟩,
 ⟨(some 7), .mv (.t 30), none, [12, 5, 8, 11, 4, 2, 3, 1, 0, 7, 6, 10, 9], []⟩]) [1, 3, 4, 7]) (.seq (.seq (.region false [
 ⟨(some 31), .load none (.t 3), none, [], []⟩,
 ⟨(some 32), .mv (.t 1), none, [], []⟩,
 ⟨(some 33), .call 93 [(.t 31), (.t 32)], none, [], []⟩] [4, 7, 33]) (.cond (.t 33) (.region false [
 ⟨(some 34), .mv (.t 7), none, [], []⟩,
 ⟨(some 35), .bin .mul (.t 34) (.c (i64 2)), none, [], []⟩,
 ⟨(some 7), .mv (.t 35), none, [], []⟩] [4, 7]) (.skip))) (.region false [
 ⟨(some 36), .load none (.t 4), none, [], []⟩,
 ⟨(some 37), .mv (.t 7), none, [], []⟩,
 ⟨(some 38), .bin .add (.t 36) (.t 37), none, [], []⟩,
 ⟨none, .store 1 (.t 4) (.t 38), none, [], []⟩] [])))
def a105 : AFn := ⟨5, [], b105, false⟩
def n105 : Ann := ⟨[[0, 1, 2, 3, 4, 17], [1, 3, 4, 7], [4, 7, 33], [4, 7], []], [], [], [], [], false, [(37, 480), (34, 480), (7, 480)]⟩

/-- almadraba/anchors.load -/
def b106 : AC :=
 .seq (.region false [
 ⟨(some 3), .box (.t 0), none, [], []⟩,
 ⟨(some 6), .mv (.c (i64 0)), none, [], []⟩] [1, 2, 3]) (.seq (.region false [
 ⟨(some 7), .faddr 0 (.t 3), none, [], []⟩,
 ⟨(some 8), .load none (.t 7), none, [], []⟩,
 ⟨(some 9), .mv (.t 1), none, [], []⟩,
 ⟨(some 10), .bin .mul (.t 8) (.t 9), none, [], []⟩,
 ⟨(some 11), .faddr 1 (.t 3), none, [], []⟩,
 ⟨(some 12), .load none (.t 11), none, [], []⟩,
 ⟨(some 13), .mv (.t 2), none, [], []⟩,
 ⟨(some 14), .bin .mul (.t 12) (.t 13), none, [], []⟩,
 ⟨(some 15), .bin .add (.t 10) (.t 14), none, [], []⟩,
 ⟨(some 6), .mv (.t 15), none, [], []⟩] [6]) (.ret))
def a106 : AFn := ⟨3, [.t 6], b106, false⟩
def n106 : Ann := ⟨[[1, 2, 3], [6]], [], [], [], [], false, []⟩

/-- slices.Index[[]int,int] -/
def b107l0 : AC :=
 .loop [0, 1, 7, 8] [] (.seq (.region false [
 ⟨(some 9), .bin .lss (.t 8) (.t 7), none, [], []⟩] [0, 1, 7, 8, 9]) (.seq (.cond (.t 9) (.skip) (.exit 0)) (.seq (.block 1 (.seq (.region false [
 ⟨(some 10), .mv (.t 8), none, [], []⟩,
 ⟨(some 5), .mv (.t 10), none, [], []⟩] [0, 1, 5, 7, 8]) (.seq (.region false [
 ⟨(some 11), .mv (.t 1), none, [], []⟩,
 ⟨(some 12), .mv (.t 0), none, [], []⟩,
 ⟨(some 13), .mv (.t 5), none, [], []⟩,
 ⟨(some 14), .idxs 1 (.t 12) (.t 13), none, [], []⟩,
 ⟨(some 15), .load none (.t 14), none, [], []⟩,
 ⟨(some 16), .bin .eql (.t 11) (.t 15), none, [], []⟩] [0, 1, 5, 7, 8, 16]) (.cond (.t 16) (.seq (.region false [
 ⟨(some 17), .mv (.t 5), none, [], []⟩,
 ⟨(some 4), .mv (.t 17), none, [], []⟩] [4]) (.ret)) (.skip))))) (.region false [
 ⟨(some 18), .bin .add (.t 8) (.c (i64 1)), none, [], []⟩,
 ⟨(some 8), .mv (.t 18), none, [], []⟩] [0, 1, 7, 8]))))
/-- slices.Index[[]int,int] -/
def b107 : AC :=
 .seq (.region false [
 ⟨(some 4), .mv (.c (i64 0)), none, [], []⟩] [0, 1]) (.seq (.seq (.region false [
 ⟨(some 6), .mv (.t 0), none, [], []⟩,
 ⟨(some 7), .len (.t 6), none, [], []⟩,
 ⟨(some 8), .mv (.c (i64 0)), none, [], []⟩] [0, 1, 7, 8]) (.block 0 (b107l0))) (.seq (.region false [
 ⟨(some 4), .mv (.c (i64 (-1))), none, [], []⟩] [4]) (.ret)))
def a107 : AFn := ⟨2, [.t 4], b107, false⟩
def n107 : Ann := ⟨[[0, 1], [0, 1, 7, 8], [0, 1, 7, 8, 9], [0, 1, 5, 7, 8], [0, 1, 5, 7, 8, 16], [4], [0, 1, 7, 8], [4]], [⟨[], [0, 1, 7, 8], []⟩], [], [], [], false, []⟩

end Go.Proofs.Ytekgicoibcgecaa
