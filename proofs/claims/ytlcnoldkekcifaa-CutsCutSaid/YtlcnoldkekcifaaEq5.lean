/-
  Cuts: the reference's lists.
-/
import Derived.Test.YtlcnoldkekcifaaEq4
import Derived.Test.YtlcnoldkekcifaaEq3
import Derived.Test.YtlcnoldkekcifaaEq1
set_option linter.unusedSimpArgs false
set_option linter.unusedVariables false
namespace Go.Proofs.Ytlcnoldkekcifaa
open Go.Ab
theorem foldl_flat {α β : Type} (g : α → List β) : ∀ (l : List α) (L : List β), l.foldl (fun L x => L ++ g x) L = L ++ l.flatMap g
 | [], L => by simp
 | x :: l, L => by rw [List.foldl_cons, foldl_flat g l, List.flatMap_cons, List.append_assoc]
theorem lists_succ (m : Nat) (f : List Int) (b : Nat) : listsP (m + 1) f b = (List.range (b - fromOf f)).foldl (fun L j => L ++ listsP m (f ++ [((fromOf f + j : Nat) : Int)]) b) [] := by
 rw [foldl_flat, listsP, List.range'_eq_map_range, List.flatMap_map]; rfl
theorem pow8 {m : Nat} (h : m ≤ 7) : 8 ^ m ≤ 2097152 := by
 have : 8 ^ m ≤ 8 ^ 7 := Nat.pow_le_pow_right (by omega) h
 omega
set_option maxHeartbeats 4000000 in
theorem e_lists_l (b : Nat) (hb : b ≤ 8) (m : Nat) (f : List Int) (hm : f.length + m + 1 ≤ 8) (hI : ∀ (n : Nat) (lab : Nat) (s : Stk), n < 8 → den T 111 [.sl .no 1 (es cInt (f ++ [(n : Int)])), i64 ((f.length : Int) + m + 1), i64 b] lab s = some (.sl .no 1 (es cList (listsP m (f ++ [(n : Int)]) b)), s)) (s : Stk)  :
 Run T b111l0 [(8, .sl (.own s.length 129) 1 []), (0, .sl .no 1 (es cInt f)), (1, i64 ((f.length : Int) + m + 1)), (2, i64 b), (8, .sl .full 1 []), (9, i64 (fromOf f : Nat))] ([(129, .tok 0)] :: s) = some (.exit 0, [(0, .sl .no 1 (es cInt f)), (1, i64 ((f.length : Int) + m + 1)), (2, i64 b), (8, .sl (.own s.length 129) 1 (es cList ((List.range (b - fromOf f)).foldl (fun L j => L ++ listsP m (f ++ [((fromOf f + j : Nat) : Int)]) b) []))), (9, i64 ((fromOf f : Int) + ((List.range (b - fromOf f)).length : Nat))), (29, .bool false)], [(129, .tok ((List.range (b - fromOf f)).foldl (fun L j => L ++ listsP m (f ++ [((fromOf f + j : Nat) : Int)]) b) []).length)] :: s) := by
 have key := loop_fold (T := T) (live := [0, 1, 2, 8, 9]) (keep := [129, 240]) (b := d111l0) (List.range (b - fromOf f)) (fun k L => L.length ≤ k * 2097152) (fun L j => L ++ listsP m (f ++ [((fromOf f + j : Nat) : Int)]) b) (fun k (a : List (List Int)) => [(0, .sl .no 1 (es cInt f)), (1, i64 ((f.length : Int) + m + 1)), (2, i64 b), (8, .sl (.own s.length 129) 1 (es cList a)), (9, i64 ((fromOf f : Int) + (k : Nat)))]) (fun k (a : List (List Int)) => [(129, .tok a.length)] :: s) (fun (a : List (List Int)) => (.exit 0, [(0, .sl .no 1 (es cInt f)), (1, i64 ((f.length : Int) + m + 1)), (2, i64 b), (8, .sl (.own s.length 129) 1 (es cList a)), (9, i64 ((fromOf f : Int) + ((List.range (b - fromOf f)).length : Nat))), (29, .bool false)], [(129, .tok a.length)] :: s)) (by simp) ?_ ?_ ?_ [] (by simp) [(8, .sl (.own s.length 129) 1 []), (0, .sl .no 1 (es cInt f)), (1, i64 ((f.length : Int) + m + 1)), (2, i64 b), (8, .sl .full 1 []), (9, i64 (fromOf f : Nat))] ([(129, .tok 0)] :: s) (by simp) (by simp)
 ·exact key
 ·intro k a hk hi
  try simp only [List.length_range] at hk
  try simp only [List.getElem_range]
  have hk2 : (fromOf f : Int) + k < b := by omega
  have w1 : IntKind.i64.wrap ((fromOf f : Int) + k + 1) = (fromOf f : Int) + ((k : Int) + 1) := by rw [wi _ (by omega) (by omega)]; omega
  have hL := lists_len hb m (f ++ [((fromOf f + k : Nat) : Int)])
  have hp := pow8 (m := m) (by omega)
  have hI2 := fun lab s => hI (fromOf f + k) lab s (by omega)
  simp only [Int.natCast_add] at hI2 hL ⊢
  generalize hx : (fromOf f : Int) + k = x at hk2 w1 hI2 hL ⊢
  generalize listsP m (f ++ [x]) b = Q at hI2 hL ⊢
  have b1 : (a.length + Q.length) * 24 ≤ 140737488355328 := by omega
  have b2 : a.length + Q.length < 140737488355328 := by omega
  have f1 : ¬ (140737488355328 : Int) < f.length * 8 := by omega
  have f2 : ¬ (140737488355328 : Int) ≤ f.length := by omega
  have ew : (fromOf f : Int) + ((k + 1 : Nat) : Int) = (fromOf f : Int) + ((k : Int) + 1) := by omega
  by_cases h0 : f = []
  ·simp (maxSteps := 1000000) (disch := first | omega | assumption | decide +kernel | (simp; done) | (simp; omega) | fail) [hx, hk2, w1, hI2, appK_full_e h0, appK_full, appK_own, b1, b2, f1, f2, ew]
  ·simp (maxSteps := 1000000) (disch := first | omega | assumption | decide +kernel | (simp; done) | (simp; omega) | fail) [hx, hk2, w1, hI2, h0, appK_full, appK_own1, appK_own, b1, b2, f1, f2, ew]
 ·intro k a hk hi
  try simp only [List.length_range] at hk
  try simp only [List.getElem_range]
  have hL := lists_len hb m (f ++ [((fromOf f + k : Nat) : Int)])
  have hp := pow8 (m := m) (by omega)
  simp only [List.length_append]; omega
 ·intro a hi
  have w : ¬ (fromOf f : Int) + ((b - fromOf f : Nat) : Int) < b := by omega
  simp [w]
set_option maxHeartbeats 4000000 in
theorem e_lists (b : Nat) (hb : b ≤ 8) : ∀ (m : Nat) (f : List Int), f.length + m ≤ 8 → (∀ y ∈ f, 0 ≤ y ∧ y < 8) → ∀ (lab : Nat) (s : Stk),
 den T 111 [.sl .no 1 (es cInt f), i64 ((f.length : Int) + m), i64 b] lab s = some (.sl .no 1 (es cList (listsP m f b)), s)
 | 0, f, _, _ => fun lab s => by
   rw [den_fn t111 _ _ _ rfl]
   simp only [b111]
   simp [listsP, es]
 | m + 1, f, hm, hf => fun lab s => by
   have hI : ∀ (n : Nat) (lab : Nat) (s : Stk), n < 8 → den T 111 [.sl .no 1 (es cInt (f ++ [(n : Int)])), i64 ((f.length : Int) + m + 1), i64 b] lab s = some (.sl .no 1 (es cList (listsP m (f ++ [(n : Int)]) b)), s) := fun n lab s hn => by
    have := e_lists b hb m (f ++ [(n : Int)]) (by simp; omega) (fun y hy => by
     rcases List.mem_append.1 hy with h | h
     ·exact hf y h
     ·simp only [List.mem_singleton] at h; omega) lab s
    have e2 : (((f ++ [(n : Int)]).length : Nat) : Int) + m = (f.length : Int) + m + 1 := by simp; omega
    rw [e2] at this
    exact this
   have hL := e_lists_l b hb m f (by omega) hI s
   rw [← lists_succ] at hL
   have em : ((m + 1 : Nat) : Int) = (m : Int) + 1 := by omega
   have e0 : (f.length : Int) + ((m : Int) + 1) = (f.length : Int) + m + 1 := by omega
   have e1 : ¬ (f.length : Int) = (f.length : Int) + m + 1 := by omega
   rw [em, e0]
   rw [den_fn t111 _ _ _ rfl]
   simp only [b111]
   by_cases h0 : f = []
   ·subst h0
    have hfr : fromOf [] = 0 := rfl
    rw [hfr] at hL
    simp only [List.length_nil, Int.natCast_zero, Int.zero_add, es_nil] at hL e1 ⊢
    have e2 : ¬ (0 : Int) = (m : Int) + 1 := by omega
    simp (maxSteps := 1000000) (disch := first | omega | assumption | decide +kernel | (simp; done) | (simp; omega) | fail) [hL, e2]
   ·have hl0 := List.length_pos_iff.2 h0
    have hlast : f.getLast? = some f[f.length - 1] := by rw [List.getLast?_eq_getElem?, List.getElem?_eq_getElem]
    have hb1 := hf f[f.length - 1] (List.getElem_mem (by omega))
    have hfr : (fromOf f : Int) = f[f.length - 1] + 1 := by unfold fromOf; rw [hlast]; dsimp only; omega
    have w1 : IntKind.i64.wrap ((f.length : Int) - 1) = (f.length : Int) - 1 := wi _ (by omega) (by omega)
    have w2 : IntKind.i64.wrap (f[f.length - 1] + 1) = (fromOf f : Int) := by rw [wi _ (by omega) (by omega), hfr]
    have t1 : ((f.length : Int) - 1).toNat = f.length - 1 := by omega
    have t2 : 0 ≤ (f.length : Int) - 1 := by omega
    have t3 : 0 < (f.length : Int) := by omega
    have t4 : f.length - 1 < f.length := by omega
    have t5 : ¬ (f.length : Int) < 1 := by omega
    simp (maxSteps := 1000000) (disch := first | omega | assumption | decide +kernel | (simp; done) | (simp; omega) | fail) [hL, e1, w1, w2, t1, t2, t3, t4, t5, hl0]
end Go.Proofs.Ytlcnoldkekcifaa

/-
  Cuts: the reference's best, Cut, Gain.
-/
namespace Go.Proofs.Ytlcnoldkekcifaa
open Go.Ab
def capOf (c : List Int) : Cap := if c = [] then .full else .no
theorem capOf_drop (d : Nat) (keep : List Nat) (c : List Int) : Cap.drop d keep (capOf c) = capOf c := by unfold capOf; split <;> rfl
abbrev cutV (c : List Int) : V := .sl (capOf c) 1 (es cInt c)
theorem capOf_some {c : List Int} (h : c ≠ []) : capOf c = .no := if_neg h
theorem capOf_nil : capOf [] = .full := rfl
theorem cutV_map (d : Nat) (keep : List Nat) (c : List Int) : V.map (dropR d keep) (cutV c) = cutV c := by
 simp [cutV, V.map, capOf_drop]
theorem valLo_eq {t : List Part} (tw : TW t) {X : List Int} {e : Nat → Int} (hX : ∀ i, X.getD i 0 = e i) (he : Small t e) {w : Nat → Nat} (hw : Truth t w) : valLo t X = lowP t e := by
 unfold valLo
 rw [show (fun i => X.getD i 0) = e from funext hX]
 have h := refL_spec (valC_ok he) tw.len tw.of tw.wastes
 have hl : leastP t (normC (costsL t (valC t e))) = lowP t e := leastP_congr tw.len tw.of (fun i w hi hw => truthC_small (bet_small he i w hi hw).1) (valC_norm he)
 rw [hl] at h
 exact h.2 (lowG_le tw.len tw.of he hw).2
def rbG (t : List Part) (a : List Int × Int) (c : List Int) : List Int × Int := if isCutR t c = true then rbStep (priceLow t) a c else a
set_option maxHeartbeats 4000000 in
theorem e_rbest_l1 (t : List Part) (tw : TW t) (hg : GoodT t) (hv : ∀ c, valLo t (paysL t c) = priceLow t c) (M : Int) (L : List (List Int)) (hL : ∀ l ∈ L, l.length ≤ 8 ∧ l ≠ []) (hLn : L.length ≤ 16777216) (c0 : List Int) (p0 : Int) (s : Stk)  :
 Run T b90l1 [(0, .sl .no 6 (es cPart t)), (4, cutV c0), (5, i64 p0), (6, i64 M), (7, .sl .no 1 (es cList L)), (8, i64 0)] ([] :: s) = some (.exit 2, [(0, .sl .no 6 (es cPart t)), (4, cutV ((L).foldl (rbG t) (c0, p0)).1), (5, i64 ((L).foldl (rbG t) (c0, p0)).2), (6, i64 M), (7, .sl .no 1 (es cList L)), (8, i64 ((L).length : Nat)), (28, .bool false)], [] :: s) := by
 have key := loop_fold (T := T) (live := [0, 4, 5, 6, 7, 8]) (keep := []) (b := d90l1) (L) (fun _ _ => True) (rbG t) (fun k (a : List Int × Int) => [(0, .sl .no 6 (es cPart t)), (4, cutV a.1), (5, i64 a.2), (6, i64 M), (7, .sl .no 1 (es cList L)), (8, i64 (k : Nat))]) (fun k (a : List Int × Int) => [] :: s) (fun (a : List Int × Int) => (.exit 2, [(0, .sl .no 6 (es cPart t)), (4, cutV a.1), (5, i64 a.2), (6, i64 M), (7, .sl .no 1 (es cList L)), (8, i64 ((L).length : Nat)), (28, .bool false)], [] :: s)) (by simp) ?_ ?_ ?_ (c0, p0) (by simp) [(0, .sl .no 6 (es cPart t)), (4, cutV c0), (5, i64 p0), (6, i64 M), (7, .sl .no 1 (es cList L)), (8, i64 0)] ([] :: s) (by simp [cutV_map, capOf_drop]) (by simp [cutV_map, capOf_drop])
 ·exact key
 ·intro k a hk hi
  obtain ⟨c, p⟩ := a
  have hlen := tw.len
  have hk2 : (k : Int) < L.length := by omega
  have hlk := hL _ (List.getElem_mem hk)
  have hP := fun F lab hF => e_Pays t L[k] (by omega) (by omega) F s lab hF
  have hV := fun lab => e_valued t tw (paysL t L[k]) (by simp) (fun i hi => by rw [paysL_e]; exact small_paysG hg L[k] i hi) s.length 704 ([(704, .arr 1 (es cInt (paysL t L[k])))] :: s) (by simp) (by rw [sget_cons, if_pos rfl]; rfl) lab
  rw [hv] at hV
  have hcs := capOf_some hlk.2
  have hi3 : L[k].length < 4611686018427387904 := by omega
  have hi4 : t.length < 4611686018427387904 := by omega
  unfold rbG rbStep
  dsimp only
  generalize valHi t (paysL t L[k]) = hi' at hV
  generalize paysL t L[k] = P at hP hV
  generalize hq : priceLow t L[k] = q at hV ⊢
  cases h1 : isCutR t L[k]
  ·simp (maxSteps := 1000000) (disch := first | omega | assumption | decide +kernel | (simp; done) | (simp; omega) | fail) [hk, hk2, h1, hi3, hi4, cutV_map, capOf_drop, wk k (by omega)]
  ·by_cases h2 : p < q
   ·simp (maxSteps := 1000000) (disch := first | omega | assumption | decide +kernel | (simp; done) | (simp; omega) | fail) [hk, hk2, h1, h2, hi3, hi4, hP, hV, hcs, cutV_map, capOf_drop, wk k (by omega)]
   ·simp (maxSteps := 1000000) (disch := first | omega | assumption | decide +kernel | (simp; done) | (simp; omega) | fail) [hk, hk2, h1, h2, hi3, hi4, hP, hV, cutV_map, capOf_drop, wk k (by omega)]
 ·intro k a hk hi
  try simp
 ·intro a hi
  simp [cutV_map, capOf_drop]
theorem rb_filter (t : List Part) (L : List (List Int)) (a : List Int × Int) : L.foldl (rbG t) a = (L.filter fun c => isCutR t c).foldl (rbStep (priceLow t)) a := by
 rw [List.foldl_filter]; rfl
def rbO (t : List Part) (a : List Int × Int) (j : Nat) : List Int × Int := (listsP (1 + j) [] t.length).foldl (rbG t) a
theorem rb_all (t : List Part) : (List.range t.length).foldl (rbO t) ([], priceLow t []) = rbest t := by
 unfold rbest
 rw [List.range'_eq_map_range, List.flatMap_map, List.filter_flatMap, List.foldl_flatMap]
 congr 1
 funext a j
 exact rb_filter t _ a
set_option maxHeartbeats 4000000 in
theorem e_rbest_l0 (t : List Part) (tw : TW t) (hg : GoodT t) (hv : ∀ c, valLo t (paysL t c) = priceLow t c) (p0 : Int) (s : Stk)  :
 Run T b90l0 [(0, .sl .no 6 (es cPart t)), (4, .sl .full 1 []), (5, i64 p0), (6, i64 1)] ([(192, .tok t.length)] :: s) = some (.exit 0, [(0, .sl .no 6 (es cPart t)), (4, cutV ((List.range t.length).foldl (rbO t) ([], p0)).1), (5, i64 ((List.range t.length).foldl (rbO t) ([], p0)).2), (6, i64 (1 + ((List.range t.length).length : Nat))), (18, .bool false)], [] :: s) := by
 have key := loop_fold (T := T) (live := [0, 4, 5, 6]) (keep := []) (b := d90l0) (List.range t.length) (fun _ _ => True) (rbO t) (fun k (a : List Int × Int) => [(0, .sl .no 6 (es cPart t)), (4, cutV a.1), (5, i64 a.2), (6, i64 (1 + (k : Nat)))]) (fun k (a : List Int × Int) => [] :: s) (fun (a : List Int × Int) => (.exit 0, [(0, .sl .no 6 (es cPart t)), (4, cutV a.1), (5, i64 a.2), (6, i64 (1 + ((List.range t.length).length : Nat))), (18, .bool false)], [] :: s)) (by simp) ?_ ?_ ?_ ([], p0) (by simp) [(0, .sl .no 6 (es cPart t)), (4, .sl .full 1 []), (5, i64 p0), (6, i64 1)] ([(192, .tok t.length)] :: s) (by simp [cutV_map, capOf_drop, capOf_nil]) (by simp [cutV_map, capOf_drop, capOf_nil])
 ·exact key
 ·intro k a hk hi
  try simp only [List.length_range] at hk
  try simp only [List.getElem_range]
  obtain ⟨c, p⟩ := a
  have hlen := tw.len
  have hk2 : 1 + (k : Int) ≤ t.length := by omega
  have hM := fun x (hx : x ∈ listsP (1 + k) [] t.length) => (lists_mem (1 + k) [] t.length x).1 hx
  have hll := lists_len (b := t.length) hlen (1 + k) []
  have hp8 : 8 ^ (1 + k) ≤ 8 ^ 8 := Nat.pow_le_pow_right (by omega) (by omega)
  have h1 := e_rbest_l1 t tw hg hv (1 + (k : Int)) (listsP (1 + k) [] t.length) (fun l hl => by
   obtain ⟨g, rfl, a1, _⟩ := hM l hl
   refine ⟨by simp [a1]; omega, fun e => ?_⟩
   have h0 := a1
   rw [e, List.length_nil] at h0; omega) (by omega) c p s
  rw [show (listsP (1 + k) [] t.length).foldl (rbG t) (c, p) = rbO t (c, p) k from rfl] at h1
  have hLs : ∀ lab s, den T 111 [.sl .no 1 [], i64 (1 + (k : Int)), i64 t.length] lab s = some (.sl .no 1 (es cList (listsP (1 + k) [] t.length)), s) := fun lab s => by
   have := e_lists t.length hlen (1 + k) [] (by simp; omega) (by simp) lab s
   simpa using this
  have w1 : IntKind.i64.wrap (1 + (k : Int) + 1) = 1 + ((k : Int) + 1) := by rw [wi _ (by omega) (by omega)]; omega
  generalize listsP (1 + k) [] t.length = L at *
  generalize rbO t (c, p) k = r at h1 ⊢
  simp (maxSteps := 1000000) (disch := first | omega | assumption | decide +kernel | (simp; done) | (simp; omega) | fail) [hk2, hLs, h1, w1, cutV_map, capOf_drop]
 ·intro k a hk hi
  try simp only [List.length_range] at hk
  try simp only [List.getElem_range]
  try simp
 ·intro a hi
  have w : ¬ 1 + (t.length : Int) ≤ t.length := by omega
  simp [w, cutV_map, capOf_drop]
set_option maxHeartbeats 4000000 in
theorem e_rbest (t : List Part) (tw : TW t) (hg : GoodT t) {w : Nat → Nat} (hw : Truth t w) (lab s) : den T 90 [.sl .no 6 (es cPart t)] lab s = some (.tup [.sl .no 1 (es cInt (rbest t).1), i64 (rbest t).2], s) := by
 have hlen := tw.len
 have hv : ∀ c, valLo t (paysL t c) = priceLow t c := fun c => valLo_eq tw (paysL_e t c) (small_paysG hg c) hw
 have hP := fun F lab hF => e_Pays t [] (by omega) (by simp) F s lab hF
 have hV := fun lab => e_valued t tw (paysL t []) (by simp) (fun i hi => by rw [paysL_e]; exact small_paysG hg [] i hi) s.length 192 ([(192, .arr 1 (es cInt (paysL t [])))] :: s) (by simp) (by rw [sget_cons, if_pos rfl]; rfl) lab
 rw [hv] at hV
 have hL := e_rbest_l0 t tw hg hv (priceLow t []) s
 rw [rb_all] at hL
 simp only [List.length_range, es_nil] at hL hP
 generalize rbest t = r at hL ⊢
 generalize valHi t (paysL t []) = hi at hV
 generalize priceLow t [] = p at hL hV
 have hPl := paysL_length t []
 generalize paysL t [] = P at hP hV hPl
 obtain ⟨c, q⟩ := r
 rw [den_fn t90 _ _ _ rfl]
 simp only [b90]
 simp (maxSteps := 1000000) (disch := first | omega | assumption | decide +kernel | (simp; done) | (simp; omega) | fail) [hP, hV, hL, hPl, cutV_map, capOf_drop]
end Go.Proofs.Ytlcnoldkekcifaa

/-
  Cuts: CutsCut.
-/
namespace Go.Proofs.Ytlcnoldkekcifaa
open Go.Ab
theorem e_Dearer (t : List Part) (n : Nat) (hn2 : n < t.length) (ht : t.length ≤ 40) (hp : 0 ≤ t[n].pence ∧ t[n].pence ≤ 99) (F : Ab.Loc) (s : Stk) (lab : Nat) :
 den T 91 [.sl .no 6 (es cPart t), i64 n] lab (F :: s) = some (.sl .no 6 (es cPart (dearer t n)), F :: s) := by
 have hne : ¬ t = [] := by intro e; subst e; simp at hn2
 have hC := fun (G : Ab.Loc) lab h => e_Copy07 t ht G (F :: s) lab h
 unfold dearer
 rw [part_at hn2]
 have hset : (es cPart t).set n [i64 t[n].of, i64 t[n].weight.lo, i64 t[n].weight.hi, i64 t[n].waste.lo, i64 t[n].waste.hi, i64 (t[n].pence + 1)] = es cPart (t.set n { t[n] with pence := t[n].pence + 1 }) := by
  simp only [es, List.map_set, cPart]
 have htake : (t.set n { t[n] with pence := t[n].pence + 1 }).take t.length = t.set n { t[n] with pence := t[n].pence + 1 } := List.take_of_length_le (by simp)
 have w : IntKind.i64.wrap (t[n].pence + 1) = t[n].pence + 1 := wi _ (by omega) (by omega)
 rw [den_fn t91 _ _ _ rfl]
 simp only [b91]
 simp (maxSteps := 1000000) (disch := first | omega | assumption | decide +kernel | (simp; done) | (simp; omega) | fail) [run_drawnK, hC, hn2, hne, hset, htake, w]
theorem dearer_tw {t : List Part} (h : tblOk t = true) (n : Nat) (hn : n < t.length) : TW (dearer t n) where
 len := (dearer_good h n hn).len
 of := (dearer_good h n hn).of
 w i hi := by
  have hi' : i < t.length := by simpa [dearer] using hi
  have := tblOk_w h i hi'
  have e := dearer_get t n i hn
  rw [part_at hi, part_at hi'] at e
  rw [e]
  split
  ·rename_i e2; subst e2; rw [part_at hn]; dsimp only; omega
  ·omega
theorem best_none_most {t : List Part} (ho : OfOk t) (hp : ∀ c, isCutP t c = true → ¬ priceLow t c < far) : (bestS t).1.most = 0 := by
 unfold bestS
 cases hL : cutsOf t with
 | nil => rfl
 | cons c L =>
   have hc := hp c ((cuts_mem ho).1 (by rw [hL]; simp))
   have : stepB t ⟨none, 0, false, false⟩ c = (⟨none, 0, false, true⟩, false) := by unfold stepB; rw [if_neg hc]
   rw [foldB, this]; rfl
theorem rbest_best {t : List Part} (hg : GoodT t) {w : Nat → Nat} (hw : Truth t w) : (bestS t).1 = ⟨some (rbest t).1, (rbest t).2, true, false⟩ := by
 obtain ⟨b, h1, h2⟩ := best_known hg hw
 obtain ⟨h3, h4⟩ := rbest_spec hg.of
 obtain rfl := best_unique h2 h4
 rw [h1, h3]
theorem e_Cut07 (t : List Part) (lab s) : den T 50 [.sl .no 6 (es cPart t)] lab s = some (.tup [.sl .no 1 (es cInt (cutR t).1), i64 (cutR t).2], s) := by
 rw [den_fn t50 _ _ _ rfl]
 simp only [b50]
 cases h : tblOk t
 ·have hp : cutR t = ([], 70) := by unfold cutR; rw [h]; rfl
  simp (maxSteps := 1000000) (disch := first | omega | assumption | decide +kernel | (simp; done) | (simp; omega) | fail) [h, hp, knownE, askE]
 cases h3 : oneB t
 ·have hp : cutR t = ([], 3) := by unfold cutR; rw [if_pos h, best_unknown h h3]; rfl
  simp (maxSteps := 1000000) (disch := first | omega | assumption | decide +kernel | (simp; done) | (simp; omega) | fail) [h, h3, hp, knownE, askE]
 ·obtain ⟨w, hw⟩ := (oneB_iff h).1 h3
  have hb := rbest_best (good_of h) hw
  have hp : cutR t = ((rbest t).1, 0) := by unfold cutR; rw [if_pos h, hb]; rfl
  have hR := fun lab s => e_rbest t (tw_ok h) (good_of h) hw lab s
  rw [hp]
  generalize rbest t = r at hR ⊢
  obtain ⟨c, q⟩ := r
  simp (maxSteps := 1000000) (disch := first | omega | assumption | decide +kernel | (simp; done) | (simp; omega) | fail) [h, h3, hR, knownE, askE]
set_option maxHeartbeats 2000000 in
theorem e_Gain07 (t : List Part) (n : Int) (hl : t.length ≤ 40) (lab s) : den T 51 [.sl .no 6 (es cPart t), i64 n] lab s = some (.tup [i64 (gainR t n).1, i64 (gainR t n).2], s) := by
 rw [den_fn t51 _ _ _ rfl]
 simp only [b51]
 cases h : tblOk t
 ·have hp : gainR t n = (0, 70) := by unfold gainR askE; rw [h]; rfl
  simp (maxSteps := 1000000) (disch := first | omega | assumption | decide +kernel | (simp; done) | (simp; omega) | fail) [h, hp, knownE, askE]
 cases h2 : isPart t n
 ·have hp : gainR t n = (0, 1) := by unfold gainR askE; rw [h, h2]; rfl
  simp (maxSteps := 1000000) (disch := first | omega | assumption | decide +kernel | (simp; done) | (simp; omega) | fail) [h, h2, hp, knownE, askE]
 cases h3 : oneB t
 ·have hp : gainR t n = (0, 3) := by unfold gainR askE; rw [h, h2, best_unknown h h3]; rfl
  simp (maxSteps := 1000000) (disch := first | omega | assumption | decide +kernel | (simp; done) | (simp; omega) | fail) [h, h2, h3, hp, knownE, askE]
 ·have hb : 0 ≤ n ∧ n < t.length := by simp only [isPart, within, Bool.and_eq_true, decide_eq_true_eq] at h2; omega
  obtain ⟨m, rfl⟩ : ∃ m : Nat, n = m := ⟨n.toNat, by omega⟩
  have hm : m < t.length := by omega
  obtain ⟨w, hw⟩ := (oneB_iff h).1 h3
  have hw2 := (dearer_twin hm).truth hw
  have hb1 := rbest_best (good_of h) hw
  have hb2 := rbest_best (dearer_good h m hm) hw2
  have hr := gain_range h hm hw (W := 30) fun v hv => by have := (hv m hm).1.lt; omega
  have hp : gainR t m = ((rbest (dearer t m)).2 - (rbest t).2, 0) := by unfold gainR askE; rw [h, h2, Int.toNat_natCast, hb1, hb2]; rfl
  rw [hb1, hb2] at hr
  dsimp only at hr
  have hR1 := fun lab s => e_rbest t (tw_ok h) (good_of h) hw lab s
  have hR2 := fun lab s => e_rbest (dearer t m) (dearer_tw h m hm) (dearer_good h m hm) hw2 lab s
  have htw := tblOk_w h m hm
  have hD := fun F lab => e_Dearer t m hm hl (by omega) F s lab
  have w1 : IntKind.i64.wrap ((rbest (dearer t m)).2 - (rbest t).2) = (rbest (dearer t m)).2 - (rbest t).2 := wi _ (by omega) (by omega)
  rw [hp]
  generalize rbest t = r at hR1 w1 ⊢
  generalize rbest (dearer t m) = q at hR2 w1 ⊢
  generalize dearer t m = o at hR2 hD
  obtain ⟨r1, r2⟩ := r
  obtain ⟨q1, q2⟩ := q
  dsimp only at hR1 hR2 w1 ⊢
  simp (maxSteps := 1000000) (disch := first | omega | assumption | decide +kernel | (simp; done) | (simp; omega) | fail) [h, h2, h3, hR1, hR2, hD, w1, knownE, askE]
theorem e_SameT_l (t : List Part) (ht : t.length < 4611686018427387904) (s : Stk)  :
 Run T b35l0 [(0, .sl .no 6 (es cPart t)), (1, .sl .no 6 (es cPart t)), (5, i64 0)] ([] :: s) = some (.exit 0, [(0, .sl .no 6 (es cPart t)), (1, .sl .no 6 (es cPart t)), (5, i64 ((List.range t.length).length : Nat)), (14, .bool false)], [] :: s) := by
 have key := loop_fold (T := T) (live := [0, 1, 5]) (keep := []) (b := d35l0) (List.range t.length) (fun _ _ => True) (fun _ _ => ()) (fun k (a : Unit) => [(0, .sl .no 6 (es cPart t)), (1, .sl .no 6 (es cPart t)), (5, i64 (k : Nat))]) (fun k (a : Unit) => [] :: s) (fun (a : Unit) => (.exit 0, [(0, .sl .no 6 (es cPart t)), (1, .sl .no 6 (es cPart t)), (5, i64 ((List.range t.length).length : Nat)), (14, .bool false)], [] :: s)) (by simp) ?_ ?_ ?_ () (by simp) [(0, .sl .no 6 (es cPart t)), (1, .sl .no 6 (es cPart t)), (5, i64 0)] ([] :: s) (by simp) (by simp)
 ·exact key
 ·intro k a hk hi
  try simp only [List.length_range] at hk
  try simp only [List.getElem_range]
  have hk2 : (k : Int) < t.length := by omega
  simp (maxSteps := 1000000) (disch := first | omega | assumption | decide +kernel | (simp; done) | (simp; omega) | fail) [run_drawnK, hk, hk2, wk k (by omega)]
 ·intro k a hk hi
  try simp only [List.length_range] at hk
  try simp only [List.getElem_range]
  try simp
 ·intro a hi
  simp
theorem e_SameT (t : List Part) (ht : t.length < 4611686018427387904) (lab s) : den T 35 [.sl .no 6 (es cPart t), .sl .no 6 (es cPart t)] lab s = some (.bool true, s) := by
 have h := e_SameT_l t ht s
 simp only [List.length_range] at h
 rw [den_fn t35 _ _ _ rfl]
 simp only [b35]
 simp (maxSteps := 1000000) (disch := first | omega | assumption | decide +kernel | (simp; done) | (simp; omega) | fail) [h]
set_option maxHeartbeats 4000000 in
theorem e_CutsCut (t : List Part) (hl : t.length < 4611686018427387904) (n : Int) (lab s) : den T 12 [.sl .no 6 (es cPart t), i64 n] lab s = some (.bool true, s) := by
 rw [den_fn t12 _ _ _ rfl]
 simp only [b12]
 by_cases h1 : (40 : Int) < t.length
 ·simp (maxSteps := 1000000) (disch := first | omega | assumption | decide +kernel | (simp; done) | (simp; omega) | fail) [h1]
 have hC := fun F lab hF => e_Copy07 t (by omega) F s lab hF
 have c1 := fun lab s => e_Cut t lab s
 have c2 := fun lab s => e_Cut07 t lab s
 have g1 : ∀ lab s, den T 45 [.sl .no 6 (es cPart t), i64 n] lab s = some (.tup [i64 (gainR t n).1, i64 (gainR t n).2], s) := fun lab s => e_Gain t n (by omega) (fun hp ht => by
  have hb : 0 ≤ n ∧ n < t.length := by simp only [isPart, within, Bool.and_eq_true, decide_eq_true_eq] at hp; omega
  have hm : n.toNat < t.length := by omega
  cases h3 : oneB t
  ·have hno : ∀ w, ¬ Truth t w := fun w hw => by
    have := (oneB_iff ht).2 ⟨w, hw⟩
    rw [h3] at this; cases this
   have hd := dearer_good ht n.toNat hm
   rw [best_none_most (tblOk_of ht) fun c _ hf => by
    obtain ⟨w, hw, _⟩ := low_ex ht (small_pays ht c) hf
    exact hno w hw,
    best_none_most hd.of fun c _ hf => by
     obtain ⟨w, hw, _⟩ := lowG_ex hd.len hd.of (small_paysG hd c) hf
     exact hno w ((dearer_twin hm).symm.truth hw)]
   decide +kernel
  ·obtain ⟨w, hw⟩ := (oneB_iff ht).1 h3
   have hr := gain_range ht hm hw (W := 30) fun v hv => by have := (hv _ hm).1.lt; omega
   exact wi _ (by omega) (by omega)) lab s
 have g2 := fun lab s => e_Gain07 t n (by omega) lab s
 have hS := fun lab s => e_SameT t hl lab s
 have z0 : t.take t.length = t := List.take_of_length_le (Nat.le_refl _)
 have hcl : (cutR t).1.length < 4611686018427387904 := by
  cases ht : tblOk t
  ·unfold cutR; rw [ht]; simp
  cases h3 : oneB t
  ·unfold cutR; rw [if_pos ht, best_unknown ht h3]; simp
  ·obtain ⟨w, hw⟩ := (oneB_iff ht).1 h3
   have hp : cutR t = ((rbest t).1, 0) := by unfold cutR; rw [if_pos ht, rbest_best (good_of ht) hw]; rfl
   have hc : isCutR t (rbest t).1 = true := by rw [← isCut_eq (tblOk_of ht)]; exact (rbest_spec (tblOk_of ht)).2.cut
   have hlen := tblOk_len ht
   simp only [isCutR, Bool.and_eq_true] at hc
   obtain ⟨a1, a2⟩ := rising_iff.1 hc.1
   have := pair_lenL (lo := 0) (n := t.length) a1 fun x hx => by have := a2 x hx; omega
   rw [hp]; dsimp only; omega
 generalize cutR t = c at c1 c2 hcl
 generalize gainR t n = g at g1 g2
 obtain ⟨c, e⟩ := c
 obtain ⟨g, f⟩ := g
 dsimp only at c1 c2 g1 g2 hcl
 simp (maxSteps := 1000000) (disch := first | omega | assumption | decide +kernel | (simp; done) | (simp; omega) | fail) [h1, hC, c1, c2, g1, g2, hS, z0, hcl]
end Go.Proofs.Ytlcnoldkekcifaa

/-
  What the arguments of the laws of cuts read as.
-/
namespace Go.Proofs.Ytlcnoldkekcifaa
open Go.Ab
set_option maxRecDepth 100000
theorem cells34 : Try.prog.cellsOf 34 = 6 := by kernel_rfl
variable {B : TypeId → Nat → Prop} {n : Nat} {vs : List V}
theorem fit_int (h : Fit Try.prog B (n + 1) 3 vs) : ∃ x, vs = [i64 x] := by
 simp only [Fit, Try.underlying3] at h
 exact h
theorem fit_sp (h : Fit Try.prog B (n + 2) 27 vs) : ∃ x : Sp, vs = cSp x := by
 simp only [Fit, FitF, Try.underlying27, Try.underlying3] at h
 obtain ⟨_, _, rfl, ⟨x, rfl⟩, _, _, rfl, ⟨y, rfl⟩, rfl⟩ := h
 exact ⟨⟨x, y⟩, rfl⟩
theorem fit_part (h : Fit Try.prog B (n + 3) 34 vs) : ∃ x : Part, vs = cPart x := by
 rw [Fit, Try.underlying34] at h
 simp only [FitF] at h
 obtain ⟨_, _, rfl, h0, _, _, rfl, h1, _, _, rfl, h2, _, _, rfl, h3, rfl⟩ := h
 obtain ⟨a, rfl⟩ := fit_int h0
 obtain ⟨x, rfl⟩ := fit_sp h1
 obtain ⟨y, rfl⟩ := fit_sp h2
 obtain ⟨z, rfl⟩ := fit_int h3
 exact ⟨⟨a, x, y, z⟩, rfl⟩
theorem es_all {α : Type} {f : α → List V} (l : List (List V)) (h : ∀ x ∈ l, ∃ y, x = f y) : ∃ l' : List α, l = es f l' := by
 obtain ⟨l', h1, _⟩ := es_of (Q := fun _ => True) l fun x hx => by obtain ⟨y, hy⟩ := h x hx; exact ⟨y, hy, trivial⟩
 exact ⟨l', h1⟩
theorem fit_parts (h : Fit Try.prog B (n + 4) 22 vs) : ∃ l : List Part, vs = [.sl .no 6 (es cPart l)] ∧ B 34 l.length := by
 rw [Fit, Try.underlying22] at h
 simp only at h
 obtain ⟨l, rfl, hb, h⟩ := h
 obtain ⟨l', rfl⟩ := es_all (f := cPart) l fun x hx => fit_part (h x hx)
 rw [cells34]
 exact ⟨l', rfl, by simpa using hb⟩
def Reach (e : TypeId) (k : Nat) : Prop := k ≤ maxLen ∧ k * Try.prog.bytesOf e ≤ reachBytes
theorem bytes34 : Try.prog.bytesOf 34 = 48 := by kernel_rfl
theorem reach_parts {k : Nat} (h : Reach 34 k) : k < 4611686018427387904 := by
 simp only [Reach, bytes34, reachBytes] at h; omega
end Go.Proofs.Ytlcnoldkekcifaa
