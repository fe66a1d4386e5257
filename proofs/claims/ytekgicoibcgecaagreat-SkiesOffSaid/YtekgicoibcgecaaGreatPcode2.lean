/-
  MADE BY PROGRAM (mkt.py, out of what Gen.lean prints): the functions' code for the evaluator.
-/
import Derived.Test.YtekgicoibcgecaaGreatPcode1
set_option linter.unusedSimpArgs false
set_option linter.unusedVariables false
namespace Go.Proofs.YtekgicoibcgecaaGreat
open Go.Ab
def b172 : AC :=
 .seq (.region false [
 ao 2 (.box (.t 0)),
 ao 4 (.mv (.c (.bool false)))] [1, 2]) (.seq (.seq (.region false [
 ao 6 (.mv (.t 1)),
 ao 7 (.len (.t 6)),
 ao 8 (.faddr 2 (.t 2)),
 ao 9 (.load none (.t 8)),
 ao 10 (.len (.t 9)),
 ao 11 (.bin .neq (.t 7) (.t 10))] [1, 2, 11]) (.cond (.t 11) (.seq (.region false [
 ao 4 (.mv (.c (.bool false)))] [4]) (.ret)) (.skip))) (.seq (.seq (.region false [
 ao 5 (.mv (.c (i64 0)))] [1, 2, 5]) (.block 0 (b172l0))) (.seq (.region false [
 ao 36 (.mv (.t 1)),
 ao 37 (.call 173 [(.t 36)]),
 ao 38 (.bin .eql (.t 37) (.c (i64 12))),
 ao 4 (.mv (.t 38))] [4]) (.ret))))
def a172 : AFn := ⟨2, [.t 4], b172, false⟩
def n172 : Ann := ⟨[[1, 2], [1, 2, 11], [4], [1, 2, 5], [1, 2, 5, 15], [1, 2, 5, 35], [4], [1, 2, 5], [4]], [⟨[], [1, 2, 5], [32, 592]⟩], [], [], [], false, []⟩
@[simp] def d173l0 : AC :=
 .seq (.seq (.region false [
 ao 5 (.mv (.t 4)),
 ao 6 (.mv (.t 0)),
 ao 7 (.len (.t 6)),
 ao 8 (.bin .lss (.t 5) (.t 7))] [0, 3, 4, 8]) (.cond (.t 8) (.skip) (.exit 0))) (.seq (.block 1 (.region false [
 ao 11 (.mv (.t 3)),
 ao 12 (.mv (.t 0)),
 ao 13 (.mv (.t 4)),
 ao 14 (.idxs 1 (.t 12) (.t 13)),
 ao 15 (.load none (.t 14)),
 ao 16 (.bin .add (.t 11) (.t 15)),
 ao 3 (.mv (.t 16))] [0, 3, 4])) (.region false [
 ao 9 (.mv (.t 4)),
 ao 10 (.bin .add (.t 9) (.c (i64 1))),
 ao 4 (.mv (.t 10))] [0, 3, 4]))
def b173l0 : AC := .loop [0, 3, 4] [] d173l0
def b173 : AC :=
 .seq (.region false [
 ao 2 (.mv (.c (i64 0)))] [0]) (.seq (.region false [
 ao 3 (.mv (.c (i64 0)))] [0, 3]) (.seq (.seq (.region false [
 ao 4 (.mv (.c (i64 0)))] [0, 3, 4]) (.block 0 (b173l0))) (.seq (.region false [
 ao 17 (.mv (.t 3)),
 ao 2 (.mv (.t 17))] [2]) (.ret))))
def a173 : AFn := ⟨1, [.t 2], b173, false⟩
def n173 : Ann := ⟨[[0], [0, 3], [0, 3, 4], [0, 3, 4, 8], [0, 3, 4], [0, 3, 4], [2]], [⟨[], [0, 3, 4], []⟩], [], [], [], false, []⟩
end Go.Proofs.YtekgicoibcgecaaGreat
