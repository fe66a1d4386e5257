/-
  Cuts: CutsEach.
-/
import Derived.Test.YtlcnoldkekcifaaEq3
import Derived.Test.YtlcnoldkekcifaaEq1
set_option linter.unusedSimpArgs false
set_option linter.unusedVariables false
namespace Go.Proofs.Ytlcnoldkekcifaa
open Go.Ab
set_option maxHeartbeats 4000000 in
theorem e_CutsEach_la (t : List Part) (l : List Int) (A B : List Int) (w0 w1 : Int) (ht : t.length ≤ 8) (hw : Wts t l) (hE : ∀ i, i < t.length → EachF t l i) (s : Stk)  :
 Run T b14l0 [(0, .sl .no 6 (es cPart t)), (1, .sl .no 1 (es cInt l)), (5, .ptr s.length 80 0), (7, .sl .no 2 (es cSp (wsL t))), (9, .ptr s.length 144 0), (13, i64 0), (14, i64 0)] ([(80, .cell [.sl .no 1 (es cInt A), .sl .no 1 (es cInt B)]), (144, .cell [i64 w0, i64 w1])] :: s) = some (.exit 0, [(0, .sl .no 6 (es cPart t)), (1, .sl .no 1 (es cInt l)), (5, .ptr s.length 80 0), (7, .sl .no 2 (es cSp (wsL t))), (9, .ptr s.length 144 0), (13, i64 ((List.range t.length).foldl (wholeF t l) 0)), (14, i64 ((List.range t.length).length : Nat)), (73, .bool false)], [(80, .cell [.sl .no 1 (es cInt A), .sl .no 1 (es cInt B)]), (144, .cell [i64 w0, i64 w1])] :: s) := by
 have key := loop_fold (T := T) (live := [0, 1, 5, 7, 9, 13, 14]) (keep := [80, 144, 272, 384, 544, 592, 640, 720, 800, 832, 848, 1952, 2016, 2048, 2096, 2144, 2160, 2240, 2288, 2304, 2352, 2368, 2480, 2560, 2720, 2784, 3120]) (b := d14l0) (List.range t.length) (fun k n => 0 ≤ n ∧ n ≤ 30 * (k : Int)) (wholeF t l) (fun k (a : Int) => [(0, .sl .no 6 (es cPart t)), (1, .sl .no 1 (es cInt l)), (5, .ptr s.length 80 0), (7, .sl .no 2 (es cSp (wsL t))), (9, .ptr s.length 144 0), (13, i64 a), (14, i64 (k : Nat))]) (fun k (a : Int) => [(80, .cell [.sl .no 1 (es cInt A), .sl .no 1 (es cInt B)]), (144, .cell [i64 w0, i64 w1])] :: s) (fun (a : Int) => (.exit 0, [(0, .sl .no 6 (es cPart t)), (1, .sl .no 1 (es cInt l)), (5, .ptr s.length 80 0), (7, .sl .no 2 (es cSp (wsL t))), (9, .ptr s.length 144 0), (13, i64 a), (14, i64 ((List.range t.length).length : Nat)), (73, .bool false)], [(80, .cell [.sl .no 1 (es cInt A), .sl .no 1 (es cInt B)]), (144, .cell [i64 w0, i64 w1])] :: s)) (by simp) ?_ ?_ ?_ 0 (by simp) [(0, .sl .no 6 (es cPart t)), (1, .sl .no 1 (es cInt l)), (5, .ptr s.length 80 0), (7, .sl .no 2 (es cSp (wsL t))), (9, .ptr s.length 144 0), (13, i64 0), (14, i64 0)] ([(80, .cell [.sl .no 1 (es cInt A), .sl .no 1 (es cInt B)]), (144, .cell [i64 w0, i64 w1])] :: s) (by simp) (by simp)
 ·exact key
 ·intro k a hk hi
  try simp only [List.length_range] at hk
  try simp only [List.getElem_range]
  have hk2 : (k : Int) < t.length := by omega
  have hkl : k < l.length := by rw [hw.len]; exact hk
  have e0 : l.getD k 0 = l[k] := by simp [List.getD, hkl]
  have hb := hw.is k hk
  have hf := hE k hk
  have f1 := hf.w
  have f2 := hf.cut
  have f3 := hf.no
  have hp : isPart t k = true := by simp only [isPart, within, Bool.and_eq_true, decide_eq_true_eq]; omega
  rw [e0] at hb f1
  have hkw : k < (wsL t).length := by simpa using hk
  have e1 : (wsL t)[k] = wsp t k := wsL_get hkw
  have hkw2 : (k : Int) < (wsL t).length := by simpa using hk2
  unfold wholeF
  rw [e0, part_at hk]
  generalize hws : wsL t = ws at hkw hkw2 e1 ⊢
  generalize wsp t k = x at f1 e1
  obtain ⟨x0, x1⟩ := x
  have w1 : IntKind.i64.wrap (a + l[k]) = a + l[k] := wi _ (by omega) (by omega)
  cases hc : canCut t k
  ·have f4 := f3 hc
   generalize hq : spanR t false (lostE t k) = q at f4
   obtain ⟨⟨q0, q1⟩, q2⟩ := q
   dsimp only at f4
   subst f4
   by_cases ho : t[k].of = -1
   ·simp (maxSteps := 1000000) (disch := first | omega | assumption | decide +kernel | (simp; done) | (simp; omega) | fail) [run_drawnK, hk, hk2, hkl, hkw, hkw2, e1, f1, hp, hc, hq, ho, w1, wk k (by omega)]
   ·simp (maxSteps := 1000000) (disch := first | omega | assumption | decide +kernel | (simp; done) | (simp; omega) | fail) [run_drawnK, hk, hk2, hkl, hkw, hkw2, e1, f1, hp, hc, hq, ho, wk k (by omega)]
  ·obtain ⟨⟨q0, q1⟩, hq, f4⟩ := f2 hc
   by_cases ho : t[k].of = -1
   ·simp (maxSteps := 1000000) (disch := first | omega | assumption | decide +kernel | (simp; done) | (simp; omega) | fail) [run_drawnK, hk, hk2, hkl, hkw, hkw2, e1, f1, hp, hc, hq, f4, ho, hw, w1, wk k (by omega)]
   ·simp (maxSteps := 1000000) (disch := first | omega | assumption | decide +kernel | (simp; done) | (simp; omega) | fail) [run_drawnK, hk, hk2, hkl, hkw, hkw2, e1, f1, hp, hc, hq, f4, ho, hw, wk k (by omega)]
 ·intro k a hk hi
  try simp only [List.length_range] at hk
  try simp only [List.getElem_range]
  have hb := hw.is k hk
  unfold wholeF
  split <;> omega
 ·intro a hi
  simp
set_option maxHeartbeats 4000000 in
theorem e_CutsEach_lb (t : List Part) (l : List Int) (A B : List Int) (w0 w1 : Int) (ht : t.length ≤ 8) (hw : Wts t l) (hE : ∀ i, i < t.length → EachF t l i) (s : Stk)  :
 Run T b14l0 [(0, .sl .no 6 (es cPart t)), (1, .sl .no 1 (es cInt l)), (5, .ptr s.length 80 0), (7, .sl .no 2 (es cSp (wsL t))), (9, .ptr s.length 144 0), (13, i64 0), (14, i64 0)] ([(80, .cell [.sl .no 1 (es cInt A), .sl .no 1 (es cInt B)]), (144, .cell [i64 w0, i64 w1]), (832, .tok l.length)] :: s) = some (.exit 0, [(0, .sl .no 6 (es cPart t)), (1, .sl .no 1 (es cInt l)), (5, .ptr s.length 80 0), (7, .sl .no 2 (es cSp (wsL t))), (9, .ptr s.length 144 0), (13, i64 ((List.range t.length).foldl (wholeF t l) 0)), (14, i64 ((List.range t.length).length : Nat)), (73, .bool false)], [(80, .cell [.sl .no 1 (es cInt A), .sl .no 1 (es cInt B)]), (144, .cell [i64 w0, i64 w1]), (832, .tok l.length)] :: s) := by
 have key := loop_fold (T := T) (live := [0, 1, 5, 7, 9, 13, 14]) (keep := [80, 144, 272, 384, 544, 592, 640, 720, 800, 832, 848, 1952, 2016, 2048, 2096, 2144, 2160, 2240, 2288, 2304, 2352, 2368, 2480, 2560, 2720, 2784, 3120]) (b := d14l0) (List.range t.length) (fun k n => 0 ≤ n ∧ n ≤ 30 * (k : Int)) (wholeF t l) (fun k (a : Int) => [(0, .sl .no 6 (es cPart t)), (1, .sl .no 1 (es cInt l)), (5, .ptr s.length 80 0), (7, .sl .no 2 (es cSp (wsL t))), (9, .ptr s.length 144 0), (13, i64 a), (14, i64 (k : Nat))]) (fun k (a : Int) => [(80, .cell [.sl .no 1 (es cInt A), .sl .no 1 (es cInt B)]), (144, .cell [i64 w0, i64 w1]), (832, .tok l.length)] :: s) (fun (a : Int) => (.exit 0, [(0, .sl .no 6 (es cPart t)), (1, .sl .no 1 (es cInt l)), (5, .ptr s.length 80 0), (7, .sl .no 2 (es cSp (wsL t))), (9, .ptr s.length 144 0), (13, i64 a), (14, i64 ((List.range t.length).length : Nat)), (73, .bool false)], [(80, .cell [.sl .no 1 (es cInt A), .sl .no 1 (es cInt B)]), (144, .cell [i64 w0, i64 w1]), (832, .tok l.length)] :: s)) (by simp) ?_ ?_ ?_ 0 (by simp) [(0, .sl .no 6 (es cPart t)), (1, .sl .no 1 (es cInt l)), (5, .ptr s.length 80 0), (7, .sl .no 2 (es cSp (wsL t))), (9, .ptr s.length 144 0), (13, i64 0), (14, i64 0)] ([(80, .cell [.sl .no 1 (es cInt A), .sl .no 1 (es cInt B)]), (144, .cell [i64 w0, i64 w1]), (832, .tok l.length)] :: s) (by simp) (by simp)
 ·exact key
 ·intro k a hk hi
  try simp only [List.length_range] at hk
  try simp only [List.getElem_range]
  have hk2 : (k : Int) < t.length := by omega
  have hkl : k < l.length := by rw [hw.len]; exact hk
  have e0 : l.getD k 0 = l[k] := by simp [List.getD, hkl]
  have hb := hw.is k hk
  have hf := hE k hk
  have f1 := hf.w
  have f2 := hf.cut
  have f3 := hf.no
  have hp : isPart t k = true := by simp only [isPart, within, Bool.and_eq_true, decide_eq_true_eq]; omega
  rw [e0] at hb f1
  have hkw : k < (wsL t).length := by simpa using hk
  have e1 : (wsL t)[k] = wsp t k := wsL_get hkw
  have hkw2 : (k : Int) < (wsL t).length := by simpa using hk2
  unfold wholeF
  rw [e0, part_at hk]
  generalize hws : wsL t = ws at hkw hkw2 e1 ⊢
  generalize wsp t k = x at f1 e1
  obtain ⟨x0, x1⟩ := x
  have w1 : IntKind.i64.wrap (a + l[k]) = a + l[k] := wi _ (by omega) (by omega)
  cases hc : canCut t k
  ·have f4 := f3 hc
   generalize hq : spanR t false (lostE t k) = q at f4
   obtain ⟨⟨q0, q1⟩, q2⟩ := q
   dsimp only at f4
   subst f4
   by_cases ho : t[k].of = -1
   ·simp (maxSteps := 1000000) (disch := first | omega | assumption | decide +kernel | (simp; done) | (simp; omega) | fail) [run_drawnK, hk, hk2, hkl, hkw, hkw2, e1, f1, hp, hc, hq, ho, w1, wk k (by omega)]
   ·simp (maxSteps := 1000000) (disch := first | omega | assumption | decide +kernel | (simp; done) | (simp; omega) | fail) [run_drawnK, hk, hk2, hkl, hkw, hkw2, e1, f1, hp, hc, hq, ho, wk k (by omega)]
  ·obtain ⟨⟨q0, q1⟩, hq, f4⟩ := f2 hc
   by_cases ho : t[k].of = -1
   ·simp (maxSteps := 1000000) (disch := first | omega | assumption | decide +kernel | (simp; done) | (simp; omega) | fail) [run_drawnK, hk, hk2, hkl, hkw, hkw2, e1, f1, hp, hc, hq, f4, ho, hw, w1, wk k (by omega)]
   ·simp (maxSteps := 1000000) (disch := first | omega | assumption | decide +kernel | (simp; done) | (simp; omega) | fail) [run_drawnK, hk, hk2, hkl, hkw, hkw2, e1, f1, hp, hc, hq, f4, ho, hw, wk k (by omega)]
 ·intro k a hk hi
  try simp only [List.length_range] at hk
  try simp only [List.getElem_range]
  have hb := hw.is k hk
  unfold wholeF
  split <;> omega
 ·intro a hi
  simp
theorem appK_full_e {α : Type} {c : α → List V} {esz bytes lab : Nat} {s : Stk} {c' : Cap} {z' : Nat} {a : List α} (h : a = []) : appK esz bytes lab s (.sl .full esz []) (.sl c' z' (es c a)) = some (.sl .full esz (es c a), s) := by
 subst h; rw [show es c ([] : List α) = [] from rfl]; exact appK_full_nil _ _ _ _ _ _ _ _ (by simp) (by simp) (.inr rfl)
theorem appD_full_e {α : Type} {c : α → List V} {esz bytes lab : Nat} {vis : Ab.Loc} {rest : Stk} {c' : Cap} {z' : Nat} {a : List α} (h : a = []) : appD esz bytes lab vis rest (.sl .full esz []) (.sl c' z' (es c a)) = some (.sl .full esz (es c a), []) := by
 subst h; rw [show es c ([] : List α) = [] from rfl]; exact appD_full_nil _ _ _ _ _ _ _ _ _ (by simp) (by simp) (.inr rfl)
set_option maxHeartbeats 4000000 in
theorem e_CutsEach (t : List Part) (hl : t.length < 4611686018427387904) (l : List Int) (hl2 : l.length < 4611686018427387904) (a b : List Int) (ha : a.length < 4611686018427387904) (hb : b.length < 4611686018427387904) (lab s) :
 den T 14 [.sl .no 6 (es cPart t), .sl .no 1 (es cInt l), .agg [.sl .no 1 (es cInt a), .sl .no 1 (es cInt b)]] lab s = some (.bool true, s) := by
 rw [den_fn t14 _ _ _ rfl]
 simp only [b14]
 cases h1 : readyB t
 ·simp (maxSteps := 1000000) (disch := first | omega | assumption | decide +kernel | (simp; done) | (simp; omega) | fail) [h1]
 by_cases h2 : (40 : Int) < l.length
 ·simp (maxSteps := 1000000) (disch := first | omega | assumption | decide +kernel | (simp; done) | (simp; omega) | fail) [h1, h2]
 have hl3 : l.length ≤ 40 := by omega
 have hl4 : ¬ (140737488355328 : Int) < l.length * 8 := by omega
 have hl5 : ¬ (140737488355328 : Int) ≤ l.length := by omega
 have ht := readyB_ok h1
 have hn := tblOk_len ht
 cases h3 : truthB t l
 ·simp (maxSteps := 1000000) (disch := first | omega | assumption | decide +kernel | (simp; done) | (simp; omega) | fail) [h1, h2, h3, ht]
 have hT := truth_of ht h3
 have hw : Wts t l := by simp only [truthB, Bool.and_eq_true] at h3; exact parting_wts h3.1
 have hW := fun lab s => e_weights t hn (wok_of ht hT) lab s
 obtain ⟨⟨w0, w1⟩, g1, g2⟩ := whole_has ht h3
 have hH : holdsR t l = (true, 0) := by unfold holdsR; rw [if_pos ht, h3]
 have hE := each_facts ht h3
 have keya := e_CutsEach_la t l a b w0 w1 hn hw hE s
 have keyb := e_CutsEach_lb t l a b w0 w1 hn hw hE s
 rw [show (List.range t.length).foldl (wholeF t l) 0 = wholeL t l from rfl] at keya keyb
 simp only [List.length_range] at keya keyb
 cases h4 : cutsB t a b
 ·by_cases hl0 : l = []
  ·simp (maxSteps := 1000000) (disch := first | omega | assumption | decide +kernel | (simp; done) | (simp; omega) | fail) [run_drawnK, h1, h2, h3, ht, hW, g1, g2, hH, keya, h4, appK_full_e hl0]
  ·simp (maxSteps := 1000000) (disch := first | omega | assumption | decide +kernel | (simp; done) | (simp; omega) | fail) [run_drawnK, h1, h2, h3, ht, hW, g1, g2, hH, keyb, h4, hl0, hl4, hl5, appK_full]
 ·have h5 := h4
  simp only [cutsB, Bool.and_eq_true, decide_eq_true_eq] at h5
  obtain ⟨k1, k2, ca, cb⟩ := h5
  obtain ⟨⟨x0, x1⟩, q1, q2⟩ := price_has (cut := a) ht h3 ca
  obtain ⟨r, q3, q4, q5, q6⟩ := rank_has (cut := a) (other := b) ht h3 ca cb
  have k3 : ¬ (140737488355328 : Int) < a.length * 8 := by omega
  have k4 : ¬ (140737488355328 : Int) ≤ a.length := by omega
  have k5 : ¬ (140737488355328 : Int) < b.length * 8 := by omega
  have k6 : ¬ (140737488355328 : Int) ≤ b.length := by omega
  have hw2 : (∀ lab s, den T 57 [.sl .no 6 (es cPart t), .sl .no 1 (es cInt a), .sl .no 1 (es cInt l)] lab s = some (i64 (paidR t a l), s)) ∧ (∀ lab s, den T 57 [.sl .no 6 (es cPart t), .sl .no 1 (es cInt b), .sl .no 1 (es cInt l)] lab s = some (i64 (paidR t b l), s)) := ⟨fun lab s => e_paid t a l ht hw ha lab s, fun lab s => e_paid t b l ht hw hb lab s⟩
  obtain ⟨p1, p2⟩ := hw2
  generalize paidR t a l = pa at q2 q5 q6 p1
  generalize paidR t b l = pb at q5 q6 p2
  have hr : r = 1 ∧ pb < pa ∨ r = 2 ∧ pa ≤ pb ∧ ¬ pb < pa ∨ r = 3 := by omega
  clear q4 q5 q6
  have z1 : within 1 1 3 = true := rfl
  have z2 : within 2 1 3 = true := rfl
  have z3 : within 3 1 3 = true := rfl
  obtain ⟨rfl, q5⟩ | ⟨rfl, q5, q6⟩ | rfl := hr
  ·by_cases hl0 : l = [] <;> by_cases ha0 : a = [] <;> by_cases hb0 : b = []
   ·simp (maxSteps := 1000000) (disch := first | omega | assumption | decide +kernel | (simp; done) | (simp; omega) | fail) [run_drawnK, h1, h2, h3, ht, hW, g1, g2, hH, keya, h4, hl4, hl5, appK_full, appD_full, appK_full_e hl0, appD_full_e hl0, appK_full_e ha0, appD_full_e ha0, appK_full_e hb0, appD_full_e hb0, k3, k4, k5, k6, q1, q2, q3, p1, p2, q5, z1]
   ·simp (maxSteps := 1000000) (disch := first | omega | assumption | decide +kernel | (simp; done) | (simp; omega) | fail) [run_drawnK, h1, h2, h3, ht, hW, g1, g2, hH, keya, h4, hl4, hl5, appK_full, appD_full, appK_full_e hl0, appD_full_e hl0, appK_full_e ha0, appD_full_e ha0, hb0, k3, k4, k5, k6, q1, q2, q3, p1, p2, q5, z1]
   ·simp (maxSteps := 1000000) (disch := first | omega | assumption | decide +kernel | (simp; done) | (simp; omega) | fail) [run_drawnK, h1, h2, h3, ht, hW, g1, g2, hH, keya, h4, hl4, hl5, appK_full, appD_full, appK_full_e hl0, appD_full_e hl0, ha0, appK_full_e hb0, appD_full_e hb0, k3, k4, k5, k6, q1, q2, q3, p1, p2, q5, z1]
   ·simp (maxSteps := 1000000) (disch := first | omega | assumption | decide +kernel | (simp; done) | (simp; omega) | fail) [run_drawnK, h1, h2, h3, ht, hW, g1, g2, hH, keya, h4, hl4, hl5, appK_full, appD_full, appK_full_e hl0, appD_full_e hl0, ha0, hb0, k3, k4, k5, k6, q1, q2, q3, p1, p2, q5, z1]
   ·simp (maxSteps := 1000000) (disch := first | omega | assumption | decide +kernel | (simp; done) | (simp; omega) | fail) [run_drawnK, h1, h2, h3, ht, hW, g1, g2, hH, keyb, h4, hl4, hl5, appK_full, appD_full, hl0, appK_full_e ha0, appD_full_e ha0, appK_full_e hb0, appD_full_e hb0, k3, k4, k5, k6, q1, q2, q3, p1, p2, q5, z1]
   ·simp (maxSteps := 1000000) (disch := first | omega | assumption | decide +kernel | (simp; done) | (simp; omega) | fail) [run_drawnK, h1, h2, h3, ht, hW, g1, g2, hH, keyb, h4, hl4, hl5, appK_full, appD_full, hl0, appK_full_e ha0, appD_full_e ha0, hb0, k3, k4, k5, k6, q1, q2, q3, p1, p2, q5, z1]
   ·simp (maxSteps := 1000000) (disch := first | omega | assumption | decide +kernel | (simp; done) | (simp; omega) | fail) [run_drawnK, h1, h2, h3, ht, hW, g1, g2, hH, keyb, h4, hl4, hl5, appK_full, appD_full, hl0, ha0, appK_full_e hb0, appD_full_e hb0, k3, k4, k5, k6, q1, q2, q3, p1, p2, q5, z1]
   ·simp (maxSteps := 1000000) (disch := first | omega | assumption | decide +kernel | (simp; done) | (simp; omega) | fail) [run_drawnK, h1, h2, h3, ht, hW, g1, g2, hH, keyb, h4, hl4, hl5, appK_full, appD_full, hl0, ha0, hb0, k3, k4, k5, k6, q1, q2, q3, p1, p2, q5, z1]
  ·by_cases hl0 : l = [] <;> by_cases ha0 : a = [] <;> by_cases hb0 : b = []
   ·simp (maxSteps := 1000000) (disch := first | omega | assumption | decide +kernel | (simp; done) | (simp; omega) | fail) [run_drawnK, h1, h2, h3, ht, hW, g1, g2, hH, keya, h4, hl4, hl5, appK_full, appD_full, appK_full_e hl0, appD_full_e hl0, appK_full_e ha0, appD_full_e ha0, appK_full_e hb0, appD_full_e hb0, k3, k4, k5, k6, q1, q2, q3, p1, p2, q5, q6, z2]
   ·simp (maxSteps := 1000000) (disch := first | omega | assumption | decide +kernel | (simp; done) | (simp; omega) | fail) [run_drawnK, h1, h2, h3, ht, hW, g1, g2, hH, keya, h4, hl4, hl5, appK_full, appD_full, appK_full_e hl0, appD_full_e hl0, appK_full_e ha0, appD_full_e ha0, hb0, k3, k4, k5, k6, q1, q2, q3, p1, p2, q5, q6, z2]
   ·simp (maxSteps := 1000000) (disch := first | omega | assumption | decide +kernel | (simp; done) | (simp; omega) | fail) [run_drawnK, h1, h2, h3, ht, hW, g1, g2, hH, keya, h4, hl4, hl5, appK_full, appD_full, appK_full_e hl0, appD_full_e hl0, ha0, appK_full_e hb0, appD_full_e hb0, k3, k4, k5, k6, q1, q2, q3, p1, p2, q5, q6, z2]
   ·simp (maxSteps := 1000000) (disch := first | omega | assumption | decide +kernel | (simp; done) | (simp; omega) | fail) [run_drawnK, h1, h2, h3, ht, hW, g1, g2, hH, keya, h4, hl4, hl5, appK_full, appD_full, appK_full_e hl0, appD_full_e hl0, ha0, hb0, k3, k4, k5, k6, q1, q2, q3, p1, p2, q5, q6, z2]
   ·simp (maxSteps := 1000000) (disch := first | omega | assumption | decide +kernel | (simp; done) | (simp; omega) | fail) [run_drawnK, h1, h2, h3, ht, hW, g1, g2, hH, keyb, h4, hl4, hl5, appK_full, appD_full, hl0, appK_full_e ha0, appD_full_e ha0, appK_full_e hb0, appD_full_e hb0, k3, k4, k5, k6, q1, q2, q3, p1, p2, q5, q6, z2]
   ·simp (maxSteps := 1000000) (disch := first | omega | assumption | decide +kernel | (simp; done) | (simp; omega) | fail) [run_drawnK, h1, h2, h3, ht, hW, g1, g2, hH, keyb, h4, hl4, hl5, appK_full, appD_full, hl0, appK_full_e ha0, appD_full_e ha0, hb0, k3, k4, k5, k6, q1, q2, q3, p1, p2, q5, q6, z2]
   ·simp (maxSteps := 1000000) (disch := first | omega | assumption | decide +kernel | (simp; done) | (simp; omega) | fail) [run_drawnK, h1, h2, h3, ht, hW, g1, g2, hH, keyb, h4, hl4, hl5, appK_full, appD_full, hl0, ha0, appK_full_e hb0, appD_full_e hb0, k3, k4, k5, k6, q1, q2, q3, p1, p2, q5, q6, z2]
   ·simp (maxSteps := 1000000) (disch := first | omega | assumption | decide +kernel | (simp; done) | (simp; omega) | fail) [run_drawnK, h1, h2, h3, ht, hW, g1, g2, hH, keyb, h4, hl4, hl5, appK_full, appD_full, hl0, ha0, hb0, k3, k4, k5, k6, q1, q2, q3, p1, p2, q5, q6, z2]
  ·by_cases hl0 : l = [] <;> by_cases ha0 : a = [] <;> by_cases hb0 : b = []
   ·simp (maxSteps := 1000000) (disch := first | omega | assumption | decide +kernel | (simp; done) | (simp; omega) | fail) [run_drawnK, h1, h2, h3, ht, hW, g1, g2, hH, keya, h4, hl4, hl5, appK_full, appD_full, appK_full_e hl0, appD_full_e hl0, appK_full_e ha0, appD_full_e ha0, appK_full_e hb0, appD_full_e hb0, k3, k4, k5, k6, q1, q2, q3, p1, p2, z3]
   ·simp (maxSteps := 1000000) (disch := first | omega | assumption | decide +kernel | (simp; done) | (simp; omega) | fail) [run_drawnK, h1, h2, h3, ht, hW, g1, g2, hH, keya, h4, hl4, hl5, appK_full, appD_full, appK_full_e hl0, appD_full_e hl0, appK_full_e ha0, appD_full_e ha0, hb0, k3, k4, k5, k6, q1, q2, q3, p1, p2, z3]
   ·simp (maxSteps := 1000000) (disch := first | omega | assumption | decide +kernel | (simp; done) | (simp; omega) | fail) [run_drawnK, h1, h2, h3, ht, hW, g1, g2, hH, keya, h4, hl4, hl5, appK_full, appD_full, appK_full_e hl0, appD_full_e hl0, ha0, appK_full_e hb0, appD_full_e hb0, k3, k4, k5, k6, q1, q2, q3, p1, p2, z3]
   ·simp (maxSteps := 1000000) (disch := first | omega | assumption | decide +kernel | (simp; done) | (simp; omega) | fail) [run_drawnK, h1, h2, h3, ht, hW, g1, g2, hH, keya, h4, hl4, hl5, appK_full, appD_full, appK_full_e hl0, appD_full_e hl0, ha0, hb0, k3, k4, k5, k6, q1, q2, q3, p1, p2, z3]
   ·simp (maxSteps := 1000000) (disch := first | omega | assumption | decide +kernel | (simp; done) | (simp; omega) | fail) [run_drawnK, h1, h2, h3, ht, hW, g1, g2, hH, keyb, h4, hl4, hl5, appK_full, appD_full, hl0, appK_full_e ha0, appD_full_e ha0, appK_full_e hb0, appD_full_e hb0, k3, k4, k5, k6, q1, q2, q3, p1, p2, z3]
   ·simp (maxSteps := 1000000) (disch := first | omega | assumption | decide +kernel | (simp; done) | (simp; omega) | fail) [run_drawnK, h1, h2, h3, ht, hW, g1, g2, hH, keyb, h4, hl4, hl5, appK_full, appD_full, hl0, appK_full_e ha0, appD_full_e ha0, hb0, k3, k4, k5, k6, q1, q2, q3, p1, p2, z3]
   ·simp (maxSteps := 1000000) (disch := first | omega | assumption | decide +kernel | (simp; done) | (simp; omega) | fail) [run_drawnK, h1, h2, h3, ht, hW, g1, g2, hH, keyb, h4, hl4, hl5, appK_full, appD_full, hl0, ha0, appK_full_e hb0, appD_full_e hb0, k3, k4, k5, k6, q1, q2, q3, p1, p2, z3]
   ·simp (maxSteps := 1000000) (disch := first | omega | assumption | decide +kernel | (simp; done) | (simp; omega) | fail) [run_drawnK, h1, h2, h3, ht, hW, g1, g2, hH, keyb, h4, hl4, hl5, appK_full, appD_full, hl0, ha0, hb0, k3, k4, k5, k6, q1, q2, q3, p1, p2, z3]
end Go.Proofs.Ytlcnoldkekcifaa

/-
  What the arguments of the laws of cuts read as.
-/
namespace Go.Proofs.Ytlcnoldkekcifaa
open Go.Ab
set_option maxRecDepth 100000
theorem cells34 : Try.prog.cellsOf 34 = 6 := by kernel_rfl
theorem cells3 : Try.prog.cellsOf 3 = 1 := by kernel_rfl
variable {B : TypeId → Nat → Prop} {n : Nat} {vs : List V}
theorem fit_int (h : Fit Try.prog B (n + 1) 3 vs) : ∃ x, vs = [i64 x] := by
 simp only [Fit, Try.underlying3] at h
 exact h
theorem fit_sp (h : Fit Try.prog B (n + 2) 27 vs) : ∃ x : Sp, vs = cSp x := by
 simp only [Fit, FitF, Try.underlying27, Try.underlying3] at h
 obtain ⟨_, _, rfl, ⟨x, rfl⟩, _, _, rfl, ⟨y, rfl⟩, rfl⟩ := h
 exact ⟨⟨x, y⟩, rfl⟩
theorem fit_part (h : Fit Try.prog B (n + 3) 34 vs) : ∃ x : Part, vs = cPart x := by
 rw [Fit, Try.underlying34] at h
 simp only [FitF] at h
 obtain ⟨_, _, rfl, h0, _, _, rfl, h1, _, _, rfl, h2, _, _, rfl, h3, rfl⟩ := h
 obtain ⟨a, rfl⟩ := fit_int h0
 obtain ⟨x, rfl⟩ := fit_sp h1
 obtain ⟨y, rfl⟩ := fit_sp h2
 obtain ⟨z, rfl⟩ := fit_int h3
 exact ⟨⟨a, x, y, z⟩, rfl⟩
theorem es_all {α : Type} {f : α → List V} (l : List (List V)) (h : ∀ x ∈ l, ∃ y, x = f y) : ∃ l' : List α, l = es f l' := by
 obtain ⟨l', h1, _⟩ := es_of (Q := fun _ => True) l fun x hx => by obtain ⟨y, hy⟩ := h x hx; exact ⟨y, hy, trivial⟩
 exact ⟨l', h1⟩
theorem fit_ints (h : Fit Try.prog B (n + 2) 43 vs) : ∃ l : List Int, vs = [.sl .no 1 (es cInt l)] ∧ B 3 l.length := by
 rw [Fit, Try.underlying43] at h
 simp only at h
 obtain ⟨l, rfl, hb, h⟩ := h
 obtain ⟨l', rfl⟩ := es_all (f := cInt) l fun x hx => by obtain ⟨y, hy⟩ := fit_int (h x hx); exact ⟨y, hy⟩
 rw [cells3]
 exact ⟨l', rfl, by simpa using hb⟩
theorem fit_parts (h : Fit Try.prog B (n + 4) 22 vs) : ∃ l : List Part, vs = [.sl .no 6 (es cPart l)] ∧ B 34 l.length := by
 rw [Fit, Try.underlying22] at h
 simp only at h
 obtain ⟨l, rfl, hb, h⟩ := h
 obtain ⟨l', rfl⟩ := es_all (f := cPart) l fun x hx => fit_part (h x hx)
 rw [cells34]
 exact ⟨l', rfl, by simpa using hb⟩
theorem fit_sold (h : Fit Try.prog B (n + 3) 45 vs) : ∃ (a b : List Int), vs = [.sl .no 1 (es cInt a), .sl .no 1 (es cInt b)] ∧ B 3 a.length ∧ B 3 b.length := by
 rw [Fit, Try.underlying45] at h
 simp only [FitF] at h
 obtain ⟨_, _, rfl, h0, _, _, rfl, h1, rfl⟩ := h
 obtain ⟨a, rfl, ha⟩ := fit_ints h0
 obtain ⟨b, rfl, hb⟩ := fit_ints h1
 exact ⟨a, b, rfl, ha, hb⟩
def Reach (e : TypeId) (k : Nat) : Prop := k ≤ maxLen ∧ k * Try.prog.bytesOf e ≤ reachBytes
theorem bytes34 : Try.prog.bytesOf 34 = 48 := by kernel_rfl
theorem bytes3 : Try.prog.bytesOf 3 = 8 := by kernel_rfl
theorem reach_ints {k : Nat} (h : Reach 3 k) : k < 4611686018427387904 := by
 simp only [Reach, bytes3, reachBytes] at h; omega
theorem reach_parts {k : Nat} (h : Reach 34 k) : k < 4611686018427387904 := by
 simp only [Reach, bytes34, reachBytes] at h; omega
end Go.Proofs.Ytlcnoldkekcifaa
