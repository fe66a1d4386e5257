/-
  Cuts: the reference's least: its loops.
-/
import Derived.Test.YtlcnoldkekcifaaEq3
import Derived.Test.YtlcnoldkekcifaaEq1
import Derived.Test.YtlcnoldkekcifaaEq2
set_option linter.unusedSimpArgs false
set_option linter.unusedVariables false
namespace Go.Proofs.Ytlcnoldkekcifaa
open Go.Ab
def cRow (r : List Int) : List V := [if r = [] then .sl .full 1 [] else .sl .no 1 (es cInt r)]
theorem cRow_some {r : List Int} (h : r ≠ []) : cRow r = [.sl .no 1 (es cInt r)] := by simp [cRow, h]
theorem cRow_map (r : Ren) (h1 : r.c .no = .no) (h2 : r.c .full = .full) (x : List Int) : V.mapAll r (cRow x) = cRow x := by
 by_cases h : x = []
 ·subst h; simp [cRow, V.mapAll, V.map, h2]
 ·rw [cRow_some h]; simp [h1]
theorem rows_map (r : Ren) (h1 : r.c .no = .no) (h2 : r.c .full = .full) (B : List (List Int)) : (es cRow B).map (V.mapAll r) = es cRow B := es_map _ _ (fun x => cRow_map r h1 h2 x) _
@[simp] theorem rows_map_d (d keep B) : (es cRow B).map (V.mapAll (dropR d keep)) = es cRow B := rows_map _ rfl rfl B
@[simp] theorem rows_map_f (d k z e B) : (es cRow B).map (V.mapAll (frzR d k z e)) = es cRow B := rows_map _ rfl rfl B
@[simp] theorem cRow_map_d (d keep x) : V.mapAll (dropR d keep) (cRow x) = cRow x := cRow_map _ rfl rfl x
@[simp] theorem cRow_map_f (d k z e x) : V.mapAll (frzR d k z e) (cRow x) = cRow x := cRow_map _ rfl rfl x
def RowAt (S : Stk) (v : V) (r : List Int) : Prop := (∃ c, v = .sl c 1 (es cInt r)) ∨ ∃ d l, v = .asl d l 1 31 0 31 ∧ d < S.length ∧ sget S d l = some (.arr 1 (es cInt r))
structure MatAt (S : Stk) (d0 l0 : Nat) (E : List (List V)) (C : List (List Int)) : Prop where
 lt : d0 < S.length
 get : sget S d0 l0 = some (.arr 1 E)
 len : E.length = C.length
 row : ∀ i (h : i < E.length), ∃ v, E[i] = [v] ∧ RowAt S v (C.getD i [])
set_option maxHeartbeats 1000000 in
theorem e_rl_l1 (t : List Part) (hn : t.length ≤ 8) (d0 l0 : Nat) (T5 : Int) (B : List (List Int)) (hB : B.length = t.length) (i : Nat) (hi0 : i < t.length) (hP : ∀ m, m ≤ t.length - 1 - i → RowQ (piecesR t B i (i + 1) m)) (hQ : ∀ k, i < k → k < t.length → RowQ (B.getD k [])) (s : Stk) (hd0 : ¬ d0 = s.length) :
 Run T b65l1 [(0, .sl .no 6 (es cPart t)), (1, .asl d0 l0 1 t.length 0 t.length), (5, i64 T5), (6, .asl s.length 256 1 t.length 0 t.length), (7, i64 i), (8, .sl (.own s.length 384) 1 (es cInt nothingR)), (9, i64 ((i : Int) + 1))] ([(256, .arr 1 (es cRow B)), (384, .tok 31)] :: s) = some (.exit 2, [(0, .sl .no 6 (es cPart t)), (1, .asl d0 l0 1 t.length 0 t.length), (5, i64 T5), (6, .asl s.length 256 1 t.length 0 t.length), (7, i64 i), (8, .sl .no 1 (es cInt (piecesR t B i (i + 1) (List.range (t.length - 1 - i)).length))), (9, i64 ((i : Int) + 1 + ((List.range (t.length - 1 - i)).length : Nat))), (32, .bool false)], [(256, .arr 1 (es cRow B))] :: s) := by
 have key := loop_fold (T := T) (live := [0, 1, 5, 6, 7, 8, 9]) (keep := [256]) (b := d65l1) (List.range (t.length - 1 - i)) (fun _ _ => True) (fun _ _ => ()) (fun k (a : Unit) => [(0, .sl .no 6 (es cPart t)), (1, .asl d0 l0 1 t.length 0 t.length), (5, i64 T5), (6, .asl s.length 256 1 t.length 0 t.length), (7, i64 i), (8, .sl .no 1 (es cInt (piecesR t B i (i + 1) k))), (9, i64 ((i : Int) + 1 + (k : Nat)))]) (fun k (a : Unit) => [(256, .arr 1 (es cRow B))] :: s) (fun (a : Unit) => (.exit 2, [(0, .sl .no 6 (es cPart t)), (1, .asl d0 l0 1 t.length 0 t.length), (5, i64 T5), (6, .asl s.length 256 1 t.length 0 t.length), (7, i64 i), (8, .sl .no 1 (es cInt (piecesR t B i (i + 1) (List.range (t.length - 1 - i)).length))), (9, i64 ((i : Int) + 1 + ((List.range (t.length - 1 - i)).length : Nat))), (32, .bool false)], [(256, .arr 1 (es cRow B))] :: s)) (by simp) ?_ ?_ ?_ () (by simp) [(0, .sl .no 6 (es cPart t)), (1, .asl d0 l0 1 t.length 0 t.length), (5, i64 T5), (6, .asl s.length 256 1 t.length 0 t.length), (7, i64 i), (8, .sl (.own s.length 384) 1 (es cInt nothingR)), (9, i64 ((i : Int) + 1))] ([(256, .arr 1 (es cRow B)), (384, .tok 31)] :: s) (by simp [hd0, show piecesR t B i (i + 1) 0 = nothingR from rfl]) (by simp [hd0, show piecesR t B i (i + 1) 0 = nothingR from rfl])
 ·exact key
 ·intro k a hk hi
  try simp only [List.length_range] at hk
  try simp only [List.getElem_range]
  have hk1 : (i : Int) + 1 + k < t.length := by omega
  have hk0 : 0 ≤ (i : Int) + 1 + k := by omega
  have tk : ((i : Int) + 1 + k).toNat = i + 1 + k := by omega
  have hk3 : i + 1 + k < t.length := by omega
  have hk4 : i + 1 + k < B.length := by omega
  have w1 : IntKind.i64.wrap ((i : Int) + 1 + k + 1) = (i : Int) + 1 + ((k : Int) + 1) := by rw [wi _ (by omega) (by omega)]; omega
  have hq := hQ (i + 1 + k) (by omega) hk3
  have e1 : B.getD (i + 1 + k) [] = B[i + 1 + k] := by simp [List.getD, hk4]
  have hp := hP k (by omega)
  rw [e1] at hq
  have hne : B[i + 1 + k] ≠ [] := fun e => by have := hq.len; rw [e] at this; simp at this
  have hc := cRow_some hne
  rw [piecesR_succ, part_at hk3, e1]
  by_cases h1 : t[i + 1 + k].of = (i : Int)
  ·simp (maxSteps := 1000000) (disch := first | omega | assumption | decide +kernel | (simp; done) | (simp; omega) | fail) [hk0, hk1, tk, hk3, hk4, hB, w1, hd0, hc, hp, hq, h1]
  ·simp (maxSteps := 1000000) (disch := first | omega | assumption | decide +kernel | (simp; done) | (simp; omega) | fail) [hk0, hk1, tk, hk3, hk4, hB, w1, hd0, h1]
 ·intro k a hk hi
  try simp only [List.length_range] at hk
  try simp only [List.getElem_range]
  try simp
 ·intro a hi
  have w : (i : Int) + 1 + ((t.length - 1 - i : Nat) : Int) = t.length := by omega
  simp [hd0, w]
def rowsP (d : Nat) (B : List (List Int)) (i : Nat) : List (List V) := (es cRow B).set i [.asl d 800 1 31 0 31]
@[simp] theorem rowsP_length (d B i) : (rowsP d B i).length = B.length := by simp [rowsP]
theorem rowsP_map (d' d keep B i) (h : 800 ∈ keep) : (rowsP d B i).map (V.mapAll (dropR d' keep)) = rowsP d B i := by
 unfold rowsP; rw [List.map_set, rows_map_d]; simp [V.mapAll, V.map, dropR, h]
theorem rowsP_get {d B i} (h : i < B.length) : (rowsP d B i)[i]? = some [.asl d 800 1 31 0 31] := by simp [rowsP, h]
@[simp] theorem rowsP_getE {d B i} (h : i < (rowsP d B i).length) : (rowsP d B i)[i] = [.asl d 800 1 31 0 31] := by simp [rowsP]
theorem lost_nat {s : Sp} {n : Nat} (h : 0 ≤ s.lo ∧ s.lo ≤ s.hi ∧ s.hi ≤ 30) (k : Nat) : k < min s.hi.toNat n + 1 - s.lo.toNat ↔ s.lo + k ≤ s.hi ∧ s.lo + k ≤ n := by omega
set_option maxHeartbeats 4000000 in
theorem e_rl_l3 (t : List Part) (ht : TW t) (d0 l0 : Nat) (T5 : Int) (B : List (List Int)) (hB : B.length = t.length) (i : Nat) (hi0 : i < t.length) (hc : canCut t i = true) (P : List Int) (hP : RowQ P) (C : List (List Int)) (hC : RowQ (C.getD i [])) (E : List (List V)) (hCl : C.length = t.length) (n : Nat) (hn : n < 31) (r : List Int) (hr : r.length = 31) (s : Stk) (m0 : Int) (hd0 : ¬ d0 = s.length) (hM : MatAt s d0 l0 E C) :
 Run T b65l3 [(0, .sl .no 6 (es cPart t)), (1, .asl d0 l0 1 t.length 0 t.length), (5, i64 T5), (6, .asl s.length 256 1 t.length 0 t.length), (7, i64 i), (8, .sl .no 1 (es cInt P)), (10, i64 n), (11, i64 ((t.getD i default).waste.lo + 0))] ([(256, .arr 1 (rowsP s.length B i)), (800, .arr 1 (es cInt (r.set n m0)))] :: s) = some (.exit 6, [(0, .sl .no 6 (es cPart t)), (1, .asl d0 l0 1 t.length 0 t.length), (5, i64 T5), (6, .asl s.length 256 1 t.length 0 t.length), (7, i64 i), (8, .sl .no 1 (es cInt P)), (10, i64 n), (11, i64 ((t.getD i default).waste.lo + ((List.range (min (t.getD i default).waste.hi.toNat n + 1 - (t.getD i default).waste.lo.toNat)).length : Nat))), (96, .bool false)], [(256, .arr 1 (rowsP s.length B i)), (800, .arr 1 (es cInt (r.set n ((List.range (min (t.getD i default).waste.hi.toNat n + 1 - (t.getD i default).waste.lo.toNat)).foldl (fun m k => min m ((C.getD i []).getD n 0 + P.getD (n - ((t.getD i default).waste.lo.toNat + k)) 0)) m0))))] :: s) := by
 have key := loop_fold (T := T) (live := [0, 1, 5, 6, 7, 8, 10, 11]) (keep := [256, 800]) (b := d65l3) (List.range (min (t.getD i default).waste.hi.toNat n + 1 - (t.getD i default).waste.lo.toNat)) (fun _ _ => True) (fun m k => min m ((C.getD i []).getD n 0 + P.getD (n - ((t.getD i default).waste.lo.toNat + k)) 0)) (fun k (a : Int) => [(0, .sl .no 6 (es cPart t)), (1, .asl d0 l0 1 t.length 0 t.length), (5, i64 T5), (6, .asl s.length 256 1 t.length 0 t.length), (7, i64 i), (8, .sl .no 1 (es cInt P)), (10, i64 n), (11, i64 ((t.getD i default).waste.lo + (k : Nat)))]) (fun k (a : Int) => [(256, .arr 1 (rowsP s.length B i)), (800, .arr 1 (es cInt (r.set n a)))] :: s) (fun (a : Int) => (.exit 6, [(0, .sl .no 6 (es cPart t)), (1, .asl d0 l0 1 t.length 0 t.length), (5, i64 T5), (6, .asl s.length 256 1 t.length 0 t.length), (7, i64 i), (8, .sl .no 1 (es cInt P)), (10, i64 n), (11, i64 ((t.getD i default).waste.lo + ((List.range (min (t.getD i default).waste.hi.toNat n + 1 - (t.getD i default).waste.lo.toNat)).length : Nat))), (96, .bool false)], [(256, .arr 1 (rowsP s.length B i)), (800, .arr 1 (es cInt (r.set n a)))] :: s)) (by simp) ?_ ?_ ?_ m0 (by simp) [(0, .sl .no 6 (es cPart t)), (1, .asl d0 l0 1 t.length 0 t.length), (5, i64 T5), (6, .asl s.length 256 1 t.length 0 t.length), (7, i64 i), (8, .sl .no 1 (es cInt P)), (10, i64 n), (11, i64 ((t.getD i default).waste.lo + 0))] ([(256, .arr 1 (rowsP s.length B i)), (800, .arr 1 (es cInt (r.set n m0)))] :: s) (by simp [hd0, rowsP_map]) (by simp [hd0, rowsP_map])
 ·exact key
 ·intro k a hk hi
  try simp only [List.length_range] at hk
  try simp only [List.getElem_range]
  have hlen := ht.len
  have hw := ht.w i hi0
  rw [part_at hi0] at hk ⊢
  have hk1 := (lost_nat (s := t[i].waste) (n := n) ⟨by omega, by omega, by omega⟩ k).1 hk
  obtain ⟨v, hv1, hv2⟩ := hM.row i (by rw [hM.len, hCl]; exact hi0)
  have hlt := hM.lt
  have hget := hM.get
  have hElen : E.length = t.length := by rw [hM.len, hCl]
  have hi5 : i < E.length := by omega
  have hi2 : (i : Int) < t.length := by omega
  have hi4 : i < B.length := by omega
  have hn2 : (n : Int) < 31 := by omega
  have hn3 : n < r.length := by omega
  have lP := hP.len
  have lC := hC.len
  generalize C.getD i [] = c at hv2 hC lC ⊢
  have hn4 : n < c.length := by omega
  have ec : c.getD n 0 = c[n] := by simp [List.getD, hn4]
  have bC := hC.is n hn
  rw [ec] at bC ⊢
  have hx : n - (t[i].waste.lo.toNat + k) < P.length := by omega
  have eP : P.getD (n - (t[i].waste.lo.toNat + k)) 0 = P[n - (t[i].waste.lo.toNat + k)] := by simp [List.getD, hx]
  have bP := hP.is (n - (t[i].waste.lo.toNat + k)) (by omega)
  rw [eP] at bP ⊢
  generalize hlo : t[i].waste.lo = lo at *
  generalize hhi : t[i].waste.hi = hi' at *
  have w1 : IntKind.i64.wrap ((n : Int) - (lo + k)) = ((n : Int) - (lo + k)) := wi _ (by omega) (by omega)
  have t1 : ((n : Int) - (lo + k)).toNat = n - (lo.toNat + k) := by omega
  have t2 : 0 ≤ (n : Int) - (lo + k) := by omega
  have t3 : (n : Int) - (lo + k) < 31 := by omega
  have w3 : IntKind.i64.wrap (lo + k + 1) = lo + (k + 1) := by rw [wi _ (by omega) (by omega)]; omega
  generalize hPy : P[n - (lo.toNat + k)] = y at *
  generalize hcn : c[n] = x at *
  have w2 : IntKind.i64.wrap (x + y) = x + y := wi _ (by omega) (by omega)
  have hp := rowsP_get (d := s.length) hi4
  have hset : ∀ z, (es cInt (r.set n a)).set n [i64 z] = es cInt (r.set n z) := fun z => by simp [es, List.map_set]
  have hE : E[i]? = some [v] := by rw [List.getElem?_eq_getElem hi5, hv1]
  have k1 := hk1.1
  have k2 := hk1.2
  have k0 : 0 ≤ lo + k := by omega
  have hset2 : (r.set n a).length = 31 := by simp [hr]
  have hgn : (r.set n a)[n]'(by simp [hr]; omega) = a := by simp
  rcases hv2 with ⟨c0, rfl⟩ | ⟨d1, l1, rfl, hd1, hg1⟩
  ·simp (maxSteps := 1000000) (disch := first | omega | assumption | decide +kernel | (simp; done) | (simp; omega) | fail) [run_drawnK, hc, hi2, hi4, hhi, hlo, k0, k1, k2, hd0, hget, hE, hv1, hElen, rowsP_map, hp, hset, hset2, hgn, hn2, hn3, hn4, hn, hr, lC, lP, hcn, w1, w2, w3, t1, t2, t3, hx, hPy, hB]
  ·have hd2 : ¬ d1 = s.length := by omega
   simp (maxSteps := 1000000) (disch := first | omega | assumption | decide +kernel | (simp; done) | (simp; omega) | fail) [run_drawnK, hc, hi2, hi4, hhi, hlo, k0, k1, k2, hd0, hget, hE, hv1, hElen, rowsP_map, hp, hset, hset2, hgn, hn2, hn3, hn4, hn, hr, lC, lP, hcn, w1, w2, w3, t1, t2, t3, hx, hPy, hB, hd2, hg1]
 ·intro k a hk hi
  try simp only [List.length_range] at hk
  try simp only [List.getElem_range]
  try simp
 ·intro a hi
  have hlen := ht.len
  have hw := ht.w i hi0
  rw [part_at hi0]
  have hi2 : (i : Int) < t.length := by omega
  have hkn := lost_nat (s := t[i].waste) (n := n) ⟨by omega, by omega, by omega⟩ (min t[i].waste.hi.toNat n + 1 - t[i].waste.lo.toNat)
  simp only [List.length_range]
  generalize min t[i].waste.hi.toNat n + 1 - t[i].waste.lo.toNat = k at *
  by_cases h1 : t[i].waste.lo + k ≤ t[i].waste.hi
  ·have h2 : ¬ t[i].waste.lo + k ≤ n := by omega
   simp (maxSteps := 1000000) (disch := first | omega | assumption | decide +kernel | (simp; done) | (simp; omega) | fail) [hd0, hc, hi2, h1, h2, rowsP_map]
  ·simp (maxSteps := 1000000) (disch := first | omega | assumption | decide +kernel | (simp; done) | (simp; omega) | fail) [hd0, hc, hi2, h1, rowsP_map]
theorem e_rl_l3n (t : List Part) (ht : TW t) (d0 l0 : Nat) (T5 : Int) (B : List (List Int)) (i : Nat) (hi0 : i < t.length) (hc : canCut t i = false) (P : List Int) (n : Nat) (r : List Int) (lo : Int) (s : Stk) (hd0 : ¬ d0 = s.length) :
 Run T b65l3 [(0, .sl .no 6 (es cPart t)), (1, .asl d0 l0 1 t.length 0 t.length), (5, i64 T5), (6, .asl s.length 256 1 t.length 0 t.length), (7, i64 i), (8, .sl .no 1 (es cInt P)), (10, i64 n), (11, i64 lo)] ([(256, .arr 1 (rowsP s.length B i)), (800, .arr 1 (es cInt r))] :: s) = some (.exit 6, [(0, .sl .no 6 (es cPart t)), (1, .asl d0 l0 1 t.length 0 t.length), (5, i64 T5), (6, .asl s.length 256 1 t.length 0 t.length), (7, i64 i), (8, .sl .no 1 (es cInt P)), (10, i64 n), (11, i64 lo), (96, .bool false)], [(256, .arr 1 (rowsP s.length B i)), (800, .arr 1 (es cInt r))] :: s) := by
 have key := loop_fold (T := T) (live := [0, 1, 5, 6, 7, 8, 10, 11]) (keep := [256, 800]) (b := d65l3) (([] : List Nat)) (fun _ _ => True) (fun _ _ => ()) (fun k (a : Unit) => [(0, .sl .no 6 (es cPart t)), (1, .asl d0 l0 1 t.length 0 t.length), (5, i64 T5), (6, .asl s.length 256 1 t.length 0 t.length), (7, i64 i), (8, .sl .no 1 (es cInt P)), (10, i64 n), (11, i64 lo)]) (fun k (a : Unit) => [(256, .arr 1 (rowsP s.length B i)), (800, .arr 1 (es cInt r))] :: s) (fun (a : Unit) => (.exit 6, [(0, .sl .no 6 (es cPart t)), (1, .asl d0 l0 1 t.length 0 t.length), (5, i64 T5), (6, .asl s.length 256 1 t.length 0 t.length), (7, i64 i), (8, .sl .no 1 (es cInt P)), (10, i64 n), (11, i64 lo), (96, .bool false)], [(256, .arr 1 (rowsP s.length B i)), (800, .arr 1 (es cInt r))] :: s)) (by simp) ?_ ?_ ?_ () (by simp) [(0, .sl .no 6 (es cPart t)), (1, .asl d0 l0 1 t.length 0 t.length), (5, i64 T5), (6, .asl s.length 256 1 t.length 0 t.length), (7, i64 i), (8, .sl .no 1 (es cInt P)), (10, i64 n), (11, i64 lo)] ([(256, .arr 1 (rowsP s.length B i)), (800, .arr 1 (es cInt r))] :: s) (by simp [hd0, rowsP_map]) (by simp [hd0, rowsP_map])
 ·exact key
 ·intro k a hk hi
  simp at hk
 ·intro k a hk hi
  try simp
 ·intro a hi
  have hlen := ht.len
  have hi2 : (i : Int) < t.length := by omega
  simp (maxSteps := 1000000) (disch := first | omega | assumption | decide +kernel | (simp; done) | (simp; omega) | fail) [hd0, hc, hi2, rowsP_map]
set_option maxHeartbeats 4000000 in
theorem e_rl_l2 (t : List Part) (ht : TW t) (d0 l0 : Nat) (T5 : Int) (B : List (List Int)) (hB : B.length = t.length) (i : Nat) (hi0 : i < t.length) (P : List Int) (hP : RowQ P) (C : List (List Int)) (hC : RowQ (C.getD i [])) (E : List (List V)) (hCl : C.length = t.length) (s : Stk) (hd0 : ¬ d0 = s.length) (hM : MatAt s d0 l0 E C) :
 Run T b65l2 [(0, .sl .no 6 (es cPart t)), (1, .asl d0 l0 1 t.length 0 t.length), (5, i64 T5), (6, .asl s.length 256 1 t.length 0 t.length), (7, i64 i), (8, .sl .no 1 (es cInt P)), (10, i64 0)] ([(256, .arr 1 (rowsP s.length B i)), (800, .arr 1 (es cInt farR))] :: s) = some (.exit 4, [(0, .sl .no 6 (es cPart t)), (1, .asl d0 l0 1 t.length 0 t.length), (5, i64 T5), (6, .asl s.length 256 1 t.length 0 t.length), (7, i64 i), (8, .sl .no 1 (es cInt P)), (10, i64 ((List.range 31).length : Nat)), (53, .bool false)], [(256, .arr 1 (rowsP s.length B i)), (800, .arr 1 (es cInt ((List.range 31).foldl (fun r n => r.set n ((bestRow t i (C.getD i []) P).getD n 0)) farR)))] :: s) := by
 have key := loop_fold (T := T) (live := [0, 1, 5, 6, 7, 8, 10]) (keep := [256, 800]) (b := d65l2) (List.range 31) (fun k r => r.length = 31 ∧ ∀ j, k ≤ j → j < 31 → r.getD j 0 = far) (fun r n => r.set n ((bestRow t i (C.getD i []) P).getD n 0)) (fun k (a : List Int) => [(0, .sl .no 6 (es cPart t)), (1, .asl d0 l0 1 t.length 0 t.length), (5, i64 T5), (6, .asl s.length 256 1 t.length 0 t.length), (7, i64 i), (8, .sl .no 1 (es cInt P)), (10, i64 (k : Nat))]) (fun k (a : List Int) => [(256, .arr 1 (rowsP s.length B i)), (800, .arr 1 (es cInt a))] :: s) (fun (a : List Int) => (.exit 4, [(0, .sl .no 6 (es cPart t)), (1, .asl d0 l0 1 t.length 0 t.length), (5, i64 T5), (6, .asl s.length 256 1 t.length 0 t.length), (7, i64 i), (8, .sl .no 1 (es cInt P)), (10, i64 ((List.range 31).length : Nat)), (53, .bool false)], [(256, .arr 1 (rowsP s.length B i)), (800, .arr 1 (es cInt a))] :: s)) (by simp) ?_ ?_ ?_ farR (⟨farR_length, fun j _ h => farR_get j h⟩) [(0, .sl .no 6 (es cPart t)), (1, .asl d0 l0 1 t.length 0 t.length), (5, i64 T5), (6, .asl s.length 256 1 t.length 0 t.length), (7, i64 i), (8, .sl .no 1 (es cInt P)), (10, i64 0)] ([(256, .arr 1 (rowsP s.length B i)), (800, .arr 1 (es cInt farR))] :: s) (by simp [hd0, rowsP_map]) (by simp [hd0, rowsP_map])
 ·exact key
 ·intro k a hk hi
  try simp only [List.length_range] at hk
  try simp only [List.getElem_range]
  have hlen := ht.len
  obtain ⟨hr, hfar⟩ := hi
  have hk2 : (k : Int) ≤ 30 := by omega
  have hk3 : (k : Int) < 31 := by omega
  have hk4 : ¬ (31 : Int) ≤ k := by omega
  have hi2 : (i : Int) < t.length := by omega
  have hi4 : i < B.length := by omega
  have hka : k < a.length := by omega
  have hset : ∀ z, (es cInt a).set k [i64 z] = es cInt (a.set k z) := fun z => by simp [es, List.map_set]
  rw [bestRow_get _ _ _ _ hk]
  cases hc : canCut t i
  ·obtain ⟨v, hv1, hv2⟩ := hM.row i (by rw [hM.len, hCl]; exact hi0)
   have hlt := hM.lt
   have hget := hM.get
   have hElen : E.length = t.length := by rw [hM.len, hCl]
   have hi5 : i < E.length := by omega
   have hE : E[i]? = some [v] := by rw [List.getElem?_eq_getElem hi5, hv1]
   have lC := hC.len
   generalize C.getD i [] = c at hv2 lC ⊢
   have hn4 : k < c.length := by omega
   have ec : c.getD k 0 = c[k] := by simp [List.getD, hn4]
   simp only [Bool.false_eq_true, if_false]
   rw [ec]
   rcases hv2 with ⟨c0, rfl⟩ | ⟨d1, l1, rfl, hd1, hg1⟩
   ·simp (maxSteps := 1000000) (disch := first | omega | assumption | decide +kernel | (simp; done) | (simp; omega) | fail) [run_drawnK, hc, hi2, hi4, hd0, hget, hE, hv1, hElen, rowsP_map, hset, hr, hn4, hka, hk, hk2, hk3, hk4, lC, hB, e_rl_l3n, ht, hi0, wk k (by omega)]
   ·have hd2 : ¬ d1 = s.length := by omega
    simp (maxSteps := 1000000) (disch := first | omega | assumption | decide +kernel | (simp; done) | (simp; omega) | fail) [run_drawnK, hc, hi2, hi4, hd0, hget, hE, hv1, hElen, rowsP_map, hset, hr, hn4, hka, hk, hk2, hk3, hk4, lC, hB, hd2, hg1, e_rl_l3n, ht, hi0, wk k (by omega)]
  ·have h3 := fun m0 => e_rl_l3 t ht d0 l0 T5 B hB i hi0 hc P hP C hC E hCl k hk a hr s m0 hd0 hM
   have hak : a.set k far = a := by
    have e1 : a.getD k 0 = a[k] := by simp [List.getD, hka]
    rw [← hfar k (Nat.le_refl _) hk, e1, List.set_getElem_self]
   have h4 := h3 far
   rw [hak, show (List.range (min (t.getD i default).waste.hi.toNat k + 1 - (t.getD i default).waste.lo.toNat)).foldl (fun m j => min m ((C.getD i []).getD k 0 + P.getD (k - ((t.getD i default).waste.lo.toNat + j)) 0)) far = lostV ((C.getD i []).getD k 0) P (t.getD i default).waste.lo.toNat (t.getD i default).waste.hi.toNat k from rfl] at h4
   simp only [if_true]
   generalize lostV ((C.getD i []).getD k 0) P (t.getD i default).waste.lo.toNat (t.getD i default).waste.hi.toNat k = L at h4 ⊢
   rw [part_at hi0] at h4
   simp only [Int.add_zero] at h4
   simp (maxSteps := 1000000) (disch := first | omega | assumption | decide +kernel | (simp; done) | (simp; omega) | fail) [hc, hi2, hi4, hd0, h4, rowsP_map, hr, hk, hk2, hk3, hk4, hB, wk k (by omega)]
 ·intro k a hk hi
  try simp only [List.length_range] at hk
  try simp only [List.getElem_range]
  obtain ⟨hr, hfar⟩ := hi
  refine ⟨by simp [hr], fun j h1 h2 => ?_⟩
  rw [← hfar j (by omega) h2]
  simp only [List.getD, List.getElem?_set]; rw [if_neg (by omega)]
 ·intro a hi
  simp [hd0, rowsP_map]
end Go.Proofs.Ytlcnoldkekcifaa

/-
  Cuts: the reference's least.
-/
namespace Go.Proofs.Ytlcnoldkekcifaa
open Go.Ab
def rowsO (d : Nat) (B : List (List Int)) (i : Nat) (row : List Int) : List (List V) := (es cRow B).set i [.sl (.own d 800) 1 (es cInt row)]
@[simp] theorem rowsO_length (d B i row) : (rowsO d B i row).length = B.length := by simp [rowsO]
theorem rowsO_map {d B i row keep} (h : 800 ∉ keep) (hr : row ≠ []) : (rowsO d B i row).map (V.mapAll (dropR d keep)) = es cRow (B.set i row) := by
 unfold rowsO
 rw [List.map_set, rows_map_d]
 have e : es cRow (B.set i row) = (es cRow B).set i (cRow row) := by simp [es, List.map_set]
 rw [e, cRow_some hr]
 simp [V.mapAll, V.map, dropR, Cap.drop, h]
theorem rowsP_frz {d B i row} (hr : row.length = 31) : (rowsP d B i).map (V.mapAll (frzR d 800 1 (es cInt row))) = rowsO d B i row := by
 unfold rowsP rowsO
 rw [List.map_set, rows_map_f]
 have ht : (es cInt row).take 31 = es cInt row := List.take_of_length_le (by simp [hr])
 simp [V.mapAll, V.map, hr, ht]
theorem row_ne {row : List Int} (h : row.length = 31) : row ≠ [] := fun e => by rw [e] at h; simp at h
theorem e_rl_l4 (t : List Part) (d0 l0 : Nat) (T5 : Int) (B : List (List Int)) (hB : B.length = t.length) (i : Nat) (hi0 : i < t.length) (row : List Int) (hr : row.length = 31) (s : Stk) (hd0 : ¬ d0 = s.length) :
 Run T b65l4 [(0, .sl .no 6 (es cPart t)), (1, .asl d0 l0 1 t.length 0 t.length), (5, i64 T5), (6, .asl s.length 256 1 t.length 0 t.length), (7, i64 i), (12, i64 far), (13, i64 0)] ([(256, .arr 1 (rowsO s.length B i row)), (800, .tok 31)] :: s) = some (.exit 8, [(0, .sl .no 6 (es cPart t)), (1, .asl d0 l0 1 t.length 0 t.length), (5, i64 T5), (6, .asl s.length 256 1 t.length 0 t.length), (7, i64 i), (12, i64 ((List.range 31).foldl (fun m k => min m (row.getD k 0)) far)), (13, i64 ((List.range 31).length : Nat)), (134, .bool false)], [(256, .arr 1 (es cRow (B.set i row)))] :: s) := by
 have key := loop_fold (T := T) (live := [0, 1, 5, 6, 7, 12, 13]) (keep := [256]) (b := d65l4) (List.range 31) (fun _ _ => True) (fun m k => min m (row.getD k 0)) (fun k (a : Int) => [(0, .sl .no 6 (es cPart t)), (1, .asl d0 l0 1 t.length 0 t.length), (5, i64 T5), (6, .asl s.length 256 1 t.length 0 t.length), (7, i64 i), (12, i64 a), (13, i64 (k : Nat))]) (fun k (a : Int) => [(256, .arr 1 (es cRow (B.set i row)))] :: s) (fun (a : Int) => (.exit 8, [(0, .sl .no 6 (es cPart t)), (1, .asl d0 l0 1 t.length 0 t.length), (5, i64 T5), (6, .asl s.length 256 1 t.length 0 t.length), (7, i64 i), (12, i64 a), (13, i64 ((List.range 31).length : Nat)), (134, .bool false)], [(256, .arr 1 (es cRow (B.set i row)))] :: s)) (by simp) ?_ ?_ ?_ far (by simp) [(0, .sl .no 6 (es cPart t)), (1, .asl d0 l0 1 t.length 0 t.length), (5, i64 T5), (6, .asl s.length 256 1 t.length 0 t.length), (7, i64 i), (12, i64 far), (13, i64 0)] ([(256, .arr 1 (rowsO s.length B i row)), (800, .tok 31)] :: s) (by simp [hd0, rowsO_map, row_ne hr]) (by simp [hd0, rowsO_map, row_ne hr])
 ·exact key
 ·intro k a hk hi
  try simp only [List.length_range] at hk
  try simp only [List.getElem_range]
  have hk2 : (k : Int) ≤ 30 := by omega
  have hk3 : (k : Int) < 31 := by omega
  have hi2 : (i : Int) < t.length := by omega
  have hi4 : i < (B.set i row).length := by simp; omega
  have hkr : k < row.length := by omega
  have e1 : row.getD k 0 = row[k] := by simp [List.getD, hkr]
  have hg : (B.set i row)[i] = row := by simp
  have hc := cRow_some (row_ne hr)
  have hi5 : i < B.length := by omega
  rw [e1]
  simp (maxSteps := 1000000) (disch := first | omega | assumption | decide +kernel | (simp; done) | (simp; omega) | fail) [hd0, hi2, hi4, hi5, hg, hc, hkr, hk, hk2, hk3, hB, hr, wk k (by omega)]
 ·intro k a hk hi
  try simp only [List.length_range] at hk
  try simp only [List.getElem_range]
  try simp
 ·intro a hi
  simp [hd0]
theorem bestB_next (t : List Part) (C : List (List Int)) (m : Nat) : bestB t C (m + 1) = (bestB t C m).set (t.length - 1 - m) (bestRow t (t.length - 1 - m) (C.getD (t.length - 1 - m) []) (piecesR t (bestB t C m) (t.length - 1 - m) (t.length - m) m)) := rfl
end Go.Proofs.Ytlcnoldkekcifaa

/-
  Cuts: the reference's least, whole; is there a truth?
-/
namespace Go.Proofs.Ytlcnoldkekcifaa
open Go.Ab
@[simp] theorem cRow_length (x) : (cRow x).length = 1 := rfl
@[simp] theorem cRow_set (x v) : (cRow x).set 0 v = [v] := rfl
theorem nothing_set : (es cInt farR).set 0 [i64 0] = es cInt nothingR := by
 have e : farR.set 0 0 = nothingR := by decide +kernel
 rw [← e]; simp [es, List.map_set]
theorem set_all {row : List Int} (h : row.length = 31) : (List.range 31).foldl (fun r n => r.set n (row.getD n 0)) farR = row := by
 have hf := fold_set 31 (fun n _ => row.getD n 0) farR 0 (by simp)
 rw [hf, List.drop_of_length_le (by simp), List.append_nil]
 refine List.ext_getElem (by simp [h]) fun n n1 n2 => ?_
 simp only [List.getElem_map, List.getElem_range]
 simp [List.getD, n2]
set_option maxHeartbeats 4000000 in
theorem e_rl_l0 (t : List Part) (ht : TW t) (d0 l0 : Nat) (C : List (List Int)) (hC : CostsOk t C) (E : List (List V)) (s : Stk) (hd0 : ¬ d0 = s.length) (hM : MatAt s d0 l0 E C) :
 Run T b65l0 [(0, .sl .no 6 (es cPart t)), (1, .asl d0 l0 1 t.length 0 t.length), (5, i64 0), (6, .asl s.length 256 1 t.length 0 t.length), (7, i64 ((t.length : Int) - 1))] ([(256, .arr 1 (es cRow (List.replicate t.length [])))] :: s) = some (.exit 0, [(0, .sl .no 6 (es cPart t)), (1, .asl d0 l0 1 t.length 0 t.length), (5, i64 (totalR t C (List.range t.length).length)), (6, .asl s.length 256 1 t.length 0 t.length), (7, i64 ((t.length : Int) - 1 - ((List.range t.length).length : Nat))), (21, .bool false)], [(256, .arr 1 (es cRow (bestB t C (List.range t.length).length)))] :: s) := by
 have key := loop_fold (T := T) (live := [0, 1, 5, 6, 7]) (keep := [256]) (b := d65l0) (List.range t.length) (fun _ _ => True) (fun _ _ => ()) (fun k (a : Unit) => [(0, .sl .no 6 (es cPart t)), (1, .asl d0 l0 1 t.length 0 t.length), (5, i64 (totalR t C k)), (6, .asl s.length 256 1 t.length 0 t.length), (7, i64 ((t.length : Int) - 1 - (k : Nat)))]) (fun k (a : Unit) => [(256, .arr 1 (es cRow (bestB t C k)))] :: s) (fun (a : Unit) => (.exit 0, [(0, .sl .no 6 (es cPart t)), (1, .asl d0 l0 1 t.length 0 t.length), (5, i64 (totalR t C (List.range t.length).length)), (6, .asl s.length 256 1 t.length 0 t.length), (7, i64 ((t.length : Int) - 1 - ((List.range t.length).length : Nat))), (21, .bool false)], [(256, .arr 1 (es cRow (bestB t C (List.range t.length).length)))] :: s)) (by simp) ?_ ?_ ?_ () (by simp) [(0, .sl .no 6 (es cPart t)), (1, .asl d0 l0 1 t.length 0 t.length), (5, i64 0), (6, .asl s.length 256 1 t.length 0 t.length), (7, i64 ((t.length : Int) - 1))] ([(256, .arr 1 (es cRow (List.replicate t.length [])))] :: s) (by simp [hd0, show bestB t C 0 = List.replicate t.length [] from rfl, show totalR t C 0 = 0 from rfl]) (by simp [hd0, show bestB t C 0 = List.replicate t.length [] from rfl, show totalR t C 0 = 0 from rfl])
 ·exact key
 ·intro k a hk hi
  try simp only [List.length_range] at hk
  try simp only [List.getElem_range]
  have hlen := ht.len
  have hT := total_range hC hlen (ht.of) (ht.wastes) k (by omega)
  have hI := best_inv hC hlen (ht.of) (ht.wastes) k (by omega)
  have hl := low_B hC hlen (ht.of) (ht.wastes) (k := t.length - 1 - k) (by omega)
  rw [best_keep t C (k := t.length - 1 - k) (m := k + 1) (m' := t.length) (by omega) (by omega) (by omega)] at hl
  have e2 : far = 1099511627776 := rfl
  have hB := bestB_length t C k
  have hn1 := bestB_next t C k
  have htot : totalR t C (k + 1) = if (t.getD (t.length - 1 - k) default).of = -1 then totalR t C k + lowR ((bestB t C (k + 1)).getD (t.length - 1 - k) []) else totalR t C k := rfl
  obtain ⟨i, hi2⟩ : ∃ i, i = t.length - 1 - k := ⟨_, rfl⟩
  have hi0 : i < t.length := by omega
  have ek : k = t.length - 1 - i := by omega
  have e3 : (t.length : Int) - 1 - k = i := by omega
  have e4 : t.length - k = i + 1 := by omega
  have e5 : (t.length : Int) - 1 - ((k + 1 : Nat) : Int) = (i : Int) - 1 := by omega
  rw [← hi2, e4] at hn1
  rw [← hi2] at htot hl
  rw [e4] at hI
  rw [e3, e5]
  have hI0 := hI
  generalize totalR t C k = T5 at *
  generalize bestB t C k = B at *
  have hP : ∀ m, m ≤ t.length - 1 - i → RowQ (piecesR t B i (i + 1) m) := fun m hm => by
   by_cases h1 : i + 1 < t.length
   ·have hY := YY_le (k := t.length - 1 - (i + 1)) (by omega)
    have b7 : (m : Int) * YY (t.length - 1 - (i + 1)) ≤ 7 * YY (t.length - 1 - (i + 1)) := Int.mul_le_mul_of_nonneg_right (by omega) (by have : M0 = 3000 := rfl; omega)
    have := piecesR_B (t := t) (B := B) (i := i) (b := i + 1) (Y := YY (t.length - 1 - (i + 1))) (m := m) (fun k hk _ => hI.rows (i + 1 + k) (by omega) (by omega)) (by omega) (by have : M0 = 3000 := rfl; omega)
    exact this.q (by omega)
   ·have : m = 0 := by omega
    subst this
    exact RefB.nothing.q (by omega)
  have hQ : ∀ k, i < k → k < t.length → RowQ (B.getD k []) := fun k h1 h2 => by
   have hY := YY_le (k := t.length - 1 - (i + 1)) (by omega)
   exact (hI.rows k (by omega) h2).q (by omega)
  have hCq : RowQ (C.getD i []) := (hC.2 i hi0).q (by have : M0 = 3000 := rfl; omega)
  have l1 := e_rl_l1 t hlen d0 l0 T5 B hB i hi0 hP hQ s hd0
  have l2 := e_rl_l2 t ht d0 l0 T5 B hB i hi0 (piecesR t B i (i + 1) (t.length - 1 - i)) (hP _ (Nat.le_refl _)) C hCq E hC.1 s hd0 hM
  have hrow : (List.range 31).foldl (fun r n => r.set n ((bestRow t i (C.getD i []) (piecesR t B i (i + 1) (t.length - 1 - i))).getD n 0)) farR = bestRow t i (C.getD i []) (piecesR t B i (i + 1) (t.length - 1 - i)) := set_all (bestRow_length _ _ _ _)
  rw [hrow] at l2
  simp only [List.length_range] at l1 l2
  rw [← ek] at l1 l2 hrow
  rw [hn1] at htot hl ⊢
  have hrl : (bestRow t i (C.getD i []) (piecesR t B i (i + 1) k)).length = 31 := bestRow_length _ _ _ _
  rw [set_get (by omega), if_pos rfl] at htot hl
  generalize bestRow t i (C.getD i []) (piecesR t B i (i + 1) k) = row at *
  have l4 := e_rl_l4 t d0 l0 T5 B hB i hi0 row hrl s hd0
  rw [show (List.range 31).foldl (fun m k => min m (row.getD k 0)) far = lowR row from rfl] at l4
  simp only [List.length_range] at l4
  rw [e2] at l4
  have hN := fun F lab hF => e_none F s lab hF
  have hrp : (es cRow B).set i [.asl s.length 800 1 31 0 31] = rowsP s.length B i := rfl
  have hi4 : i < B.length := by omega
  have hi5 : (i : Int) < t.length := by omega
  have w1 : IntKind.i64.wrap ((i : Int) + 1) = (i : Int) + 1 := wi _ (by omega) (by omega)
  have w2 : IntKind.i64.wrap ((i : Int) - 1) = (i : Int) - 1 := wi _ (by omega) (by omega)
  have hfr := rowsP_frz (d := s.length) (B := B) (i := i) hrl
  have hne := row_ne hrl
  rw [part_at hi0] at htot
  by_cases ho : t[i].of = -1
  ·rw [if_pos ho] at htot
   rw [htot]
   have w3 : IntKind.i64.wrap (T5 + lowR row) = T5 + lowR row := wi _ (by omega) (by omega)
   clear hi2
   have nl : nothingR.length = 31 := by decide +kernel
   have nt : List.take 31 nothingR = nothingR := by decide +kernel
   simp (maxSteps := 1000000) (disch := first | omega | assumption | decide +kernel | (simp; done) | (simp; omega) | fail) [hd0, nl, nt, hi4, hi5, hN, l1, l2, l4, hrp, hfr, hrl, hne, rowsO_map, rowsP_map, nothing_set, w1, w2, w3, ho, hB]
  ·rw [if_neg ho] at htot
   rw [htot]
   clear hi2
   have nl : nothingR.length = 31 := by decide +kernel
   have nt : List.take 31 nothingR = nothingR := by decide +kernel
   simp (maxSteps := 1000000) (disch := first | omega | assumption | decide +kernel | (simp; done) | (simp; omega) | fail) [hd0, nl, nt, hi4, hi5, hN, l1, l2, hrp, hfr, hrl, hne, rowsO_map, rowsP_map, nothing_set, w1, w2, ho, hB]
 ·intro k a hk hi
  try simp only [List.length_range] at hk
  try simp only [List.getElem_range]
  try simp
 ·intro a hi
  have e0 : (t.length : Int) - 1 - t.length = -1 := by omega
  simp [hd0, e0]
theorem e_rleast (t : List Part) (ht : TW t) (d0 l0 : Nat) (C : List (List Int)) (hC : CostsOk t C) (E : List (List V)) (s : Stk) (hM : MatAt s d0 l0 E C) (lab) : den T 65 [.sl .no 6 (es cPart t), .asl d0 l0 1 t.length 0 t.length] lab s = some (i64 (refL t C), s) := by
 have hlen := ht.len
 have hd0 : ¬ d0 = s.length := by have := hM.lt; omega
 have h := e_rl_l0 t ht d0 l0 C hC E s hd0 hM
 simp only [List.length_range] at h
 rw [show totalR t C t.length = refL t C from rfl] at h
 have hb3 : (t.length : Int) < 140737488355328 := by omega
 have hb4 : (t.length : Int) * 24 ≤ 140737488355328 := by omega
 have hb5 : ¬ 140737488355328 < (t.length : Int) * 24 := by omega
 have hb6 : ¬ 140737488355328 ≤ (t.length : Int) := by omega
 have hrep : List.replicate t.length [.sl .full 1 []] = es cRow (List.replicate t.length []) := by simp [es, cRow]
 have w1 : IntKind.i64.wrap ((t.length : Int) - 1) = (t.length : Int) - 1 := wi _ (by omega) (by omega)
 rw [den_fn t65 _ _ _ rfl]
 simp only [b65]
 simp (maxSteps := 1000000) (disch := first | omega | assumption | decide +kernel | (simp; done) | (simp; omega) | fail) [h, hb3, hb4, hb5, hb6, hrep, w1, hd0]
end Go.Proofs.Ytlcnoldkekcifaa

/-
  Cuts: is there a truth? Change of the reference.
-/
namespace Go.Proofs.Ytlcnoldkekcifaa
open Go.Ab
theorem matAt_mat {G : Ab.Loc} {s : Stk} {l : Nat} {C : List (List Int)} (hG : FreeAt G l) (hC : C.length ≤ 8) : MatAt ((G ++ matF s.length l C []) :: s) s.length l (ptrs s.length (l + 1000) C.length) C where
 lt := by simp
 get := by
  rw [sget_cons, if_pos rfl, get_app _ _ _ (by have := hG 0 (by omega); simpa using this), matF, Loc.get, if_pos rfl]
 len := by simp
 row i h := by
  have hi : i < C.length := by simpa using h
  refine ⟨_, ptrs_get _ _ _ _ h, .inr ⟨_, _, rfl, by simp, ?_⟩⟩
  have e : l + 1000 * (i + 1) = l + 1000 + 1000 * i := by omega
  have hg := hG (i + 1) (by omega)
  rw [e] at hg
  rw [sget_cons, if_pos rfl, get_app _ _ _ hg, matF, Loc.get, if_neg (by omega), get_rows _ _ _ _ hi]
  simp [List.getD, hi]
@[simp] theorem e_isOne (n : Int) (lab s) : den T 64 [i64 n] lab s = some (.bool (decide (n < half)), s) := by
 rw [den_fn t64 _ _ _ rfl]
 simp only [b64]
 by_cases h : n < 549755813888 <;> simp (disch := first | omega | assumption | decide +kernel | (simp; done) | (simp; omega) | fail) [h, half]
end Go.Proofs.Ytlcnoldkekcifaa

/-
  Cuts: the change: plain law.
-/
namespace Go.Proofs.Ytlcnoldkekcifaa
open Go.Ab
def onlyAll (t : List Part) (k : List Int) (m : Nat) : List Part := (List.range m).foldl (fun o i => onlyT o i (k.getD i 0)) t
theorem onlyAll_succ (t k m) : onlyAll t k (m + 1) = onlyT (onlyAll t k m) m (k.getD m 0) := by simp [onlyAll, List.range_succ]
@[simp] theorem onlyAll_length (t k) : ∀ m, (onlyAll t k m).length = t.length
 | 0 => rfl
 | m + 1 => by rw [onlyAll_succ, only_length, onlyAll_length t k m]
end Go.Proofs.Ytlcnoldkekcifaa

/-
  Cuts: the reference's valued: its frame, and its loops.
-/
namespace Go.Proofs.Ytlcnoldkekcifaa
open Go.Ab
theorem rows_append : ∀ (R : List (List Int)) (l : Nat) (F G : Ab.Loc), rowsF l R F ++ G = rowsF l R (F ++ G)
 | [], _, _, _ => rfl
 | r :: R, l, F, G => by rw [rowsF, List.cons_append, rows_append R, rowsF]
section
variable (d : Nat) (R1 R2 : List (List Int))
end
end Go.Proofs.Ytlcnoldkekcifaa

/-
  Cuts: the reference's Change.
-/
namespace Go.Proofs.Ytlcnoldkekcifaa
open Go.Ab
def partedE (t : List Part) (is : Bool) : Int := if askE t is = 0 then (if leastP t (awayC t) < far then 0 else 3) else askE t is
theorem ask_ok {t : List Part} {is : Bool} (h : askE t is = 0) : tblOk t = true := by
 unfold askE at h; cases ht : tblOk t
 ·rw [ht] at h; simp at h
 ·rfl
theorem chg_least (t : List Part) (ht : tblOk t = true) (l : Nat) (s : Stk) (lab : Nat) : den T 65 [.sl .no 6 (es cPart t), .asl s.length l 1 t.length 0 t.length] lab (matF s.length l (costsL t (awayC t)) [] :: s) = some (i64 (refL t (costsL t (awayC t))), matF s.length l (costsL t (awayC t)) [] :: s) := by
 have hM := matAt_mat (G := []) (s := s) (l := l) (C := costsL t (awayC t)) (fun _ _ => rfl) (by simpa using tblOk_len ht)
 rw [List.nil_append] at hM
 exact e_rleast t (tw_ok ht) s.length l _ (awayC_costs ht) _ _ hM lab
@[simp] theorem e_parted (t : List Part) (is : Bool) (lab s) : den T 86 [.sl .no 6 (es cPart t), .bool is] lab s = some (i64 (partedE t is), s) := by
 unfold partedE
 rw [den_fn t86 _ _ _ rfl]
 simp only [b86]
 by_cases h : askE t is = 0
 ·have ht := ask_ok h
  have hw := e_changes t (tw_ok ht) [] s 224 (fun _ _ => rfl)
  have hl := fun lab => chg_least t ht 224 s lab
  have hr := ref_away ht
  rw [List.nil_append] at hw
  generalize matF s.length 224 (costsL t (awayC t)) [] = M at hw hl
  generalize refL t (costsL t (awayC t)) = r at hl hr
  by_cases hf : leastP t (awayC t) < far
  ·have h2 := hr.1.2 hf
   simp (maxSteps := 1000000) (disch := first | omega | assumption | decide +kernel | (simp; done) | (simp; omega) | fail) [h, hw, hl, h2, hf]
  ·have h2 : ¬ r < half := fun e => hf (hr.1.1 e)
   simp (maxSteps := 1000000) (disch := first | omega | assumption | decide +kernel | (simp; done) | (simp; omega) | fail) [h, hw, hl, h2, hf]
 ·simp (maxSteps := 1000000) (disch := first | omega | assumption | decide +kernel | (simp; done) | (simp; omega) | fail) [h]
theorem e_Change07 (t : List Part) (lab s) : den T 47 [.sl .no 6 (es cPart t)] lab s = some (.tup [i64 (changeR t true).1, i64 (changeR t true).2], s) := by
 rw [den_fn t47 _ _ _ rfl]
 simp only [b47]
 unfold changeR
 by_cases h : askE t true = 0
 ·have ht := ask_ok h
  have hw := e_changes t (tw_ok ht) [] s 192 (fun _ _ => rfl)
  have hl := fun lab => chg_least t ht 192 s lab
  have hr := ref_away ht
  rw [List.nil_append] at hw
  generalize matF s.length 192 (costsL t (awayC t)) [] = M at hw hl
  generalize refL t (costsL t (awayC t)) = r at hl hr
  by_cases hf : leastP t (awayC t) < far
  ·have h2 := hr.2 hf
   have h3 : ¬ far ≤ leastP t (awayC t) := by omega
   subst h2
   simp (maxSteps := 1000000) (disch := first | omega | assumption | decide +kernel | (simp; done) | (simp; omega) | fail) [h, hw, hl, hf, h3, partedE]
  ·have h3 : far ≤ leastP t (awayC t) := by omega
   simp (maxSteps := 1000000) (disch := first | omega | assumption | decide +kernel | (simp; done) | (simp; omega) | fail) [h, hf, h3, partedE]
 ·simp (maxSteps := 1000000) (disch := first | omega | assumption | decide +kernel | (simp; done) | (simp; omega) | fail) [h, partedE]
end Go.Proofs.Ytlcnoldkekcifaa

/-
  Cuts: the reference's Changed: its frame.
-/
namespace Go.Proofs.Ytlcnoldkekcifaa
open Go.Ab
def uF (d : Nat) (R1 R2 : List (List Int)) : Ab.Loc := rowsF 1384 R1 ((416, .arr 1 (ptrs d 1416 R2.length)) :: rowsF 1416 R2 [])
section
variable (d : Nat) (R1 R2 : List (List Int))
theorem uF_get1 {i : Nat} (h : i < R1.length) (a : List Int) : Loc.get (uF d (R1.set i a) R2) (1384 + 1000 * i) = some (.arr 1 (es cInt a)) := get_row h a _
theorem uF_put1 {i : Nat} (h : i < R1.length) (a a' : List Int) : Loc.put (uF d (R1.set i a) R2) (1384 + 1000 * i) (.arr 1 (es cInt a')) = uF d (R1.set i a') R2 := put_row h a a' _
theorem uF_get0 (h : R1.length ≤ 8) : Loc.get (uF d R1 R2) 416 = some (.arr 1 (ptrs d 1416 R2.length)) := by
 unfold uF; rw [get_rows_no _ _ _ _ fun i hi => by omega, Loc.get, if_pos rfl]
theorem uF_get2 {i : Nat} (h1 : R1.length ≤ 8) (h : i < R2.length) (b : List Int) : Loc.get (uF d R1 (R2.set i b)) (1416 + 1000 * i) = some (.arr 1 (es cInt b)) := by
 unfold uF; rw [get_rows_no _ _ _ _ fun j hj => by omega, Loc.get, if_neg (by omega)]; exact get_row h b _
theorem uF_put2 {i : Nat} (h1 : R1.length ≤ 8) (h : i < R2.length) (b b' : List Int) : Loc.put (uF d R1 (R2.set i b)) (1416 + 1000 * i) (.arr 1 (es cInt b')) = uF d R1 (R2.set i b') := by
 unfold uF; rw [put_rows_no _ _ _ _ _ fun j hj => by omega, Loc.put, if_neg (by omega), put_row h b b']; simp
theorem uF_ren (r : Ren) (h : (ptrs d 1416 R2.length).map (V.mapAll r) = ptrs d 1416 R2.length) : Loc.ren r (uF d R1 R2) = uF d R1 R2 := by
 unfold uF
 rw [rows_ren, show ∀ (e : Entry) (L : Ab.Loc), Loc.ren r ((416, e) :: L) = (416, e.map r) :: Loc.ren r L from fun _ _ => rfl, rows_ren, show Entry.map r (.arr 1 (ptrs d 1416 R2.length)) = .arr 1 ((ptrs d 1416 R2.length).map (V.mapAll r)) from rfl, h]
 rfl
end
def uKeep : List Nat := [384, 416, 1384, 1416, 2384, 2416, 3384, 3416, 4384, 4416, 5384, 5416, 6384, 6416, 7384, 7416, 8384, 8416]
theorem uF_gc {d : Nat} {R1 R2 : List (List Int)} (h1 : R1.length ≤ 8) (h2 : R2.length ≤ 8) : (uF d R1 R2).filter (fun x => uKeep.contains x.1) = uF d R1 R2 := by
 unfold uF
 rw [rows_filter _ _ _ _ fun i hi => by have := keep8 (keep := uKeep) (l := 1384) h1 (by simp [uKeep]) i hi; simpa using this]
 rw [List.filter_cons, if_pos (by simp [uKeep]), rows_filter _ _ _ _ fun i hi => by have := keep8 (keep := uKeep) (l := 1416) h2 (by simp [uKeep]) i hi; simpa using this]
 rfl
theorem uptr_gc {l n : Nat} (hl : l = 1384 ∨ l = 1416) (h : n ≤ 8) (d : Nat) : (ptrs d l n).map (V.mapAll (dropR d uKeep)) = ptrs d l n := ptrs_drop fun _ => by
 rcases hl with rfl | rfl
 ·exact keep8 h (by simp [uKeep])
 ·exact keep8 h (by simp [uKeep])
end Go.Proofs.Ytlcnoldkekcifaa

/-
  Cuts: the reference's Changed.
-/
namespace Go.Proofs.Ytlcnoldkekcifaa
open Go.Ab
theorem rows_drop {p : Nat × Entry → Bool} {b : Nat} : ∀ {R : List (List Int)} {F : Ab.Loc} (_ : ∀ i x, i < R.length → p (b + 1000 * i, x) = false), (rowsF b R F).filter p = F.filter p
 | [], _, _ => rfl
 | r :: R, F, h => by
   have h0 := h 0 (.arr 1 (es cInt r)) (by simp)
   simp only [Nat.mul_zero, Nat.add_zero] at h0
   rw [rowsF, List.filter_cons, h0, if_neg (by simp), rows_drop fun i x hi => by have := h (i + 1) x (by simpa using hi); rw [← this]; congr 2; omega]
theorem uF_gcS {d : Nat} {R1 R2 : List (List Int)} (h1 : R1.length ≤ 8) (h2 : R2.length ≤ 8) : (uF d R1 R2).filter (fun x => decide (x.fst = 384) || (decide (x.fst = 416) || (decide (x.fst = 1384) || (decide (x.fst = 1416) || (decide (x.fst = 2384) || (decide (x.fst = 2416) || (decide (x.fst = 3384) || (decide (x.fst = 3416) || (decide (x.fst = 4384) || (decide (x.fst = 4416) || (decide (x.fst = 5384) || (decide (x.fst = 5416) || (decide (x.fst = 6384) || (decide (x.fst = 6416) || (decide (x.fst = 7384) || (decide (x.fst = 7416) || (decide (x.fst = 8384) || (decide (x.fst = 8416))))))))))))))))))) = uF d R1 R2 := by
 have := uF_gc (d := d) h1 h2
 simpa [uKeep] using this
theorem uF_renS {d : Nat} {R1 R2 : List (List Int)} (h2 : R2.length ≤ 8) : Loc.ren (dropR d [384, 416, 1384, 1416, 2384, 2416, 3384, 3416, 4384, 4416, 5384, 5416, 6384, 6416, 7384, 7416, 8384, 8416]) (uF d R1 R2) = uF d R1 R2 := uF_ren _ _ _ _ (uptr_gc (.inr rfl) h2 d)
theorem u_drop {d : Nat} {R : List (List Int)} (h : R.length ≤ 8) (F : Ab.Loc) : (rowsF 1336 R F).filter (fun x => decide (x.fst = 384) || (decide (x.fst = 416) || (decide (x.fst = 1384) || (decide (x.fst = 1416) || (decide (x.fst = 2384) || (decide (x.fst = 2416) || (decide (x.fst = 3384) || (decide (x.fst = 3416) || (decide (x.fst = 4384) || (decide (x.fst = 4416) || (decide (x.fst = 5384) || (decide (x.fst = 5416) || (decide (x.fst = 6384) || (decide (x.fst = 6416) || (decide (x.fst = 7384) || (decide (x.fst = 7416) || (decide (x.fst = 8384) || (decide (x.fst = 8416))))))))))))))))))) = F.filter (fun x => decide (x.fst = 384) || (decide (x.fst = 416) || (decide (x.fst = 1384) || (decide (x.fst = 1416) || (decide (x.fst = 2384) || (decide (x.fst = 2416) || (decide (x.fst = 3384) || (decide (x.fst = 3416) || (decide (x.fst = 4384) || (decide (x.fst = 4416) || (decide (x.fst = 5384) || (decide (x.fst = 5416) || (decide (x.fst = 6384) || (decide (x.fst = 6416) || (decide (x.fst = 7384) || (decide (x.fst = 7416) || (decide (x.fst = 8384) || (decide (x.fst = 8416))))))))))))))))))) := rows_drop fun i x hi => by
 have : i = 0 ∨ i = 1 ∨ i = 2 ∨ i = 3 ∨ i = 4 ∨ i = 5 ∨ i = 6 ∨ i = 7 := by omega
 rcases this with rfl | rfl | rfl | rfl | rfl | rfl | rfl | rfl <;> rfl
def ChgI (t : List Part) (p : Nat) (k : Nat) (a : List Int × List Int) : Prop := a.1.length = 31 ∧ a.2.length = 31 ∧ ∀ j, k ≤ j → j < 31 → a.1.getD j 0 = awayC t p j
def chg2 (a : List Int × List Int) (k : Nat) : List Int × List Int := if 0 < a.1.getD k 0 then (a.1.set k far, a.2) else (a.1, a.2.set k far)
set_option maxHeartbeats 4000000 in
theorem e_Changed07_l (t : List Part) (ht : t.length ≤ 8) (w : Int) (p : Nat) (hp : p < t.length) (C : List (List Int)) (hC : C.length = t.length) (r : List Int) (hr : ChgI t p 0 (r, r)) (hCr : C.set p r = C) (s : Stk)  :
 Run T b49l0 [(0, .sl .no 6 (es cPart t)), (1, i64 p), (7, i64 w), (8, .asl s.length 384 1 t.length 0 t.length), (9, .asl s.length 416 1 t.length 0 t.length), (10, i64 0)] (((336, .arr 1 (ptrs s.length 1336 t.length)) :: rowsF 1336 C ((384, .arr 1 (ptrs s.length 1384 t.length)) :: uF s.length C C)) :: s) = some (.exit 0, [(0, .sl .no 6 (es cPart t)), (1, i64 p), (7, i64 w), (8, .asl s.length 384 1 t.length 0 t.length), (9, .asl s.length 416 1 t.length 0 t.length), (10, i64 ((List.range 31).length : Nat)), (28, .bool false)], ((384, .arr 1 (ptrs s.length 1384 t.length)) :: uF s.length (C.set p ((List.range 31).foldl (chg2) (r, r)).1) (C.set p ((List.range 31).foldl (chg2) (r, r)).2)) :: s) := by
 have key := loop_fold (T := T) (live := [0, 1, 7, 8, 9, 10]) (keep := [384, 416, 1384, 1416, 2384, 2416, 3384, 3416, 4384, 4416, 5384, 5416, 6384, 6416, 7384, 7416, 8384, 8416]) (b := d49l0) (List.range 31) (fun k a => ChgI t p k a) (chg2) (fun k (a : List Int × List Int) => [(0, .sl .no 6 (es cPart t)), (1, i64 p), (7, i64 w), (8, .asl s.length 384 1 t.length 0 t.length), (9, .asl s.length 416 1 t.length 0 t.length), (10, i64 (k : Nat))]) (fun k (a : List Int × List Int) => ((384, .arr 1 (ptrs s.length 1384 t.length)) :: uF s.length (C.set p a.1) (C.set p a.2)) :: s) (fun (a : List Int × List Int) => (.exit 0, [(0, .sl .no 6 (es cPart t)), (1, i64 p), (7, i64 w), (8, .asl s.length 384 1 t.length 0 t.length), (9, .asl s.length 416 1 t.length 0 t.length), (10, i64 ((List.range 31).length : Nat)), (28, .bool false)], ((384, .arr 1 (ptrs s.length 1384 t.length)) :: uF s.length (C.set p a.1) (C.set p a.2)) :: s)) (by simp) ?_ ?_ ?_ (r, r) (hr) [(0, .sl .no 6 (es cPart t)), (1, i64 p), (7, i64 w), (8, .asl s.length 384 1 t.length 0 t.length), (9, .asl s.length 416 1 t.length 0 t.length), (10, i64 0)] (((336, .arr 1 (ptrs s.length 1336 t.length)) :: rowsF 1336 C ((384, .arr 1 (ptrs s.length 1384 t.length)) :: uF s.length C C)) :: s) (by simp [u_drop (d := s.length) (show C.length ≤ 8 by omega), hCr, uF_gcS (d := s.length) (R1 := C) (R2 := C) (by omega) (by omega), uF_renS (d := s.length) (R1 := C) (R2 := C) (by omega), show (ptrs s.length 1384 t.length).map (V.mapAll (dropR s.length [384, 416, 1384, 1416, 2384, 2416, 3384, 3416, 4384, 4416, 5384, 5416, 6384, 6416, 7384, 7416, 8384, 8416])) = ptrs s.length 1384 t.length from uptr_gc (.inl rfl) ht _]) (by simp [u_drop (d := s.length) (show C.length ≤ 8 by omega), hCr, uF_gcS (d := s.length) (R1 := C) (R2 := C) (by omega) (by omega), uF_renS (d := s.length) (R1 := C) (R2 := C) (by omega), show (ptrs s.length 1384 t.length).map (V.mapAll (dropR s.length [384, 416, 1384, 1416, 2384, 2416, 3384, 3416, 4384, 4416, 5384, 5416, 6384, 6416, 7384, 7416, 8384, 8416])) = ptrs s.length 1384 t.length from uptr_gc (.inl rfl) ht _])
 ·exact key
 ·intro k a hk hi
  try simp only [List.length_range] at hk
  try simp only [List.getElem_range]
  obtain ⟨a1, a2⟩ := a
  obtain ⟨h1, h2, h3⟩ := hi
  dsimp only at h1 h2 h3 ⊢
  have hk2 : (k : Int) ≤ 30 := by omega
  have hk3 : (k : Int) < 31 := by omega
  have hk4 : ¬ (31 : Int) ≤ k := by omega
  have hi2 : (p : Int) < t.length := by omega
  have hk5 : k < a1.length := by omega
  have hk6 : k < a2.length := by omega
  have e1 : a1.getD k 0 = a1[k] := by simp [List.getD, hk5]
  unfold chg2
  dsimp only
  rw [e1]
  have hpC : p < C.length := by omega
  have l1 : ∀ b : List Int, (C.set p b).length ≤ 8 := fun b => by simp; omega
  have l2 : ∀ b : List Int, (C.set p b).length = t.length := fun b => by simp [hC]
  have g1 := fun (a b : List Int) => uF_get1 s.length C (C.set p b) hpC a
  have g2 := fun (a b : List Int) => uF_get2 s.length (C.set p a) C (l1 a) hpC b
  have g0 : ∀ a b : List Int, Loc.get (uF s.length (C.set p a) (C.set p b)) 416 = some (.arr 1 (ptrs s.length 1416 t.length)) := fun a b => by rw [uF_get0 s.length _ _ (l1 a), l2]
  have u1 := fun (a b a' : List Int) => uF_put1 s.length C (C.set p b) hpC a a'
  have u2 := fun (a b b' : List Int) => uF_put2 s.length (C.set p a) C (l1 a) hpC b b'
  have z1 : ¬ 1384 + 1000 * p = 384 := by omega
  have z3 : ¬ 1416 + 1000 * p = 384 := by omega
  have gc0 : ∀ a b : List Int, (uF s.length (C.set p a) (C.set p b)).filter (fun x => decide (x.fst = 384) || (decide (x.fst = 416) || (decide (x.fst = 1384) || (decide (x.fst = 1416) || (decide (x.fst = 2384) || (decide (x.fst = 2416) || (decide (x.fst = 3384) || (decide (x.fst = 3416) || (decide (x.fst = 4384) || (decide (x.fst = 4416) || (decide (x.fst = 5384) || (decide (x.fst = 5416) || (decide (x.fst = 6384) || (decide (x.fst = 6416) || (decide (x.fst = 7384) || (decide (x.fst = 7416) || (decide (x.fst = 8384) || (decide (x.fst = 8416))))))))))))))))))) = uF s.length (C.set p a) (C.set p b) := fun a b => uF_gcS (l1 a) (l1 b)
  have gp : (ptrs s.length 1384 t.length).map (V.mapAll (dropR s.length [384, 416, 1384, 1416, 2384, 2416, 3384, 3416, 4384, 4416, 5384, 5416, 6384, 6416, 7384, 7416, 8384, 8416])) = ptrs s.length 1384 t.length := uptr_gc (.inl rfl) ht _
  have gv : ∀ a b : List Int, Loc.ren (dropR s.length [384, 416, 1384, 1416, 2384, 2416, 3384, 3416, 4384, 4416, 5384, 5416, 6384, 6416, 7384, 7416, 8384, 8416]) (uF s.length (C.set p a) (C.set p b)) = uF s.length (C.set p a) (C.set p b) := fun a b => uF_renS (l1 b)
  have q1 : ∀ z, (es cInt a1).set k [i64 z] = es cInt (a1.set k z) := fun z => by simp [es, List.map_set]
  have q2 : ∀ z, (es cInt a2).set k [i64 z] = es cInt (a2.set k z) := fun z => by simp [es, List.map_set]
  by_cases c : 0 < a1[k]
  ·simp (maxSteps := 1000000) (disch := first | omega | assumption | decide +kernel | (simp; done) | (simp; omega) | fail) [hk, hk2, hk3, hk4, hi2, hp, hk5, hk6, h1, h2, g0, g1, g2, u1, u2, z1, z3, gc0, gp, gv, q1, q2, c, far, wk k (by omega)]
  ·simp (maxSteps := 1000000) (disch := first | omega | assumption | decide +kernel | (simp; done) | (simp; omega) | fail) [hk, hk2, hk3, hk4, hi2, hp, hk5, hk6, h1, h2, g0, g1, g2, u1, u2, z1, z3, gc0, gp, gv, q1, q2, c, far, wk k (by omega)]
 ·intro k a hk hi
  try simp only [List.length_range] at hk
  try simp only [List.getElem_range]
  obtain ⟨h1, h2, h3⟩ := hi
  unfold chg2
  split
  ·refine ⟨by simp [h1], h2, fun j k1 k2 => ?_⟩
   rw [← h3 j (by omega) k2]
   simp only [List.getD, List.getElem?_set]; rw [if_neg (by omega)]
  ·exact ⟨h1, by simp [h2], fun j k1 k2 => h3 j (by omega) k2⟩
 ·intro a hi
  have l1 : ∀ b : List Int, (C.set p b).length ≤ 8 := fun b => by simp; omega
  have gc0 : ∀ a b : List Int, (uF s.length (C.set p a) (C.set p b)).filter (fun x => decide (x.fst = 384) || (decide (x.fst = 416) || (decide (x.fst = 1384) || (decide (x.fst = 1416) || (decide (x.fst = 2384) || (decide (x.fst = 2416) || (decide (x.fst = 3384) || (decide (x.fst = 3416) || (decide (x.fst = 4384) || (decide (x.fst = 4416) || (decide (x.fst = 5384) || (decide (x.fst = 5416) || (decide (x.fst = 6384) || (decide (x.fst = 6416) || (decide (x.fst = 7384) || (decide (x.fst = 7416) || (decide (x.fst = 8384) || (decide (x.fst = 8416))))))))))))))))))) = uF s.length (C.set p a) (C.set p b) := fun a b => uF_gcS (l1 a) (l1 b)
  have gp : (ptrs s.length 1384 t.length).map (V.mapAll (dropR s.length [384, 416, 1384, 1416, 2384, 2416, 3384, 3416, 4384, 4416, 5384, 5416, 6384, 6416, 7384, 7416, 8384, 8416])) = ptrs s.length 1384 t.length := uptr_gc (.inl rfl) ht _
  have gv : ∀ a b : List Int, Loc.ren (dropR s.length [384, 416, 1384, 1416, 2384, 2416, 3384, 3416, 4384, 4416, 5384, 5416, 6384, 6416, 7384, 7416, 8384, 8416]) (uF s.length (C.set p a) (C.set p b)) = uF s.length (C.set p a) (C.set p b) := fun a b => uF_renS (l1 b)
  simp [gc0, gp, gv]
end Go.Proofs.Ytlcnoldkekcifaa

/-
  Cuts: the reference's Changed, whole.
-/
namespace Go.Proofs.Ytlcnoldkekcifaa
open Go.Ab
theorem getD_at {α : Type} {l : List (List α)} {p : Nat} (h : p < l.length) : l.getD p [] = l[p] := by simp [List.getD, h]
theorem mayC_costs {t : List Part} (ht : tblOk t = true) (p : Int) (b : Bool) : CostsOk t (costsL t (mayC t p b)) := costsL_ok fun i n hi hn => by
 have := awayC_small ht i hi n hn
 have e3 : M0 = 3000 := rfl
 unfold mayC; split
 ·left; omega
 ·right; omega
theorem ref_may {t : List Part} (ht : tblOk t = true) (p : Int) (b : Bool) : (refL t (costsL t (mayC t p b)) < half ↔ leastP t (mayC t p b) < far) ∧ (leastP t (mayC t p b) < far → refL t (costsL t (mayC t p b)) = leastP t (mayC t p b)) := by
 have h := refL_spec (mayC_costs ht p b) (tblOk_len ht) (tblOk_of ht) (wastes ht)
 have hl : leastP t (normC (costsL t (mayC t p b))) = leastP t (mayC t p b) := leastP_congr (tblOk_len ht) (tblOk_of ht) (mayC_ok ht p b) fun i w hi hw => by
  have := awayC_small ht i hi w hw
  have e1 : half = 549755813888 := rfl
  have e2 : far = 1099511627776 := rfl
  unfold normC; rw [costsL_get hi hw]
  unfold mayC
  split
  ·rw [if_pos (by omega)]
  ·rw [if_neg (by omega)]
 rw [hl] at h
 exact h
theorem mayC_ge {t : List Part} (ht : tblOk t = true) (p : Int) (b : Bool) (hf : leastP t (mayC t p b) < far) : leastP t (awayC t) ≤ leastP t (mayC t p b) := by
 obtain ⟨w, h1, h2⟩ := leastP_ex (tblOk_len ht) (tblOk_of ht) (mayC_ok ht p b) hf
 have e : ∀ i, i < t.length → awayC t i (w i) = mayC t p b i (w i) := fun i hi => ((mayC_lt (h1 i hi).ok).1).symm
 have := (leastP_le (tblOk_len ht) (tblOk_of ht) (awayC_ok ht) w fun i hi => (h1 i hi).congr (e i hi)).1
 rwa [costW_congr e _ (Nat.le_refl _), h2] at this
theorem may_gt {t : List Part} (ht : tblOk t = true) (hf : leastP t (awayC t) < far) (p : Int) (b : Bool) : leastP t (awayC t) < refL t (costsL t (mayC t p b)) ↔ ¬ leastP t (mayC t p b) = leastP t (awayC t) := by
 have hr := ref_may ht p b
 have hc := change_range ht hf
 have e1 : half = 549755813888 := rfl
 by_cases h : leastP t (mayC t p b) < far
 ·have := mayC_ge ht p b h
  have := hr.2 h
  omega
 ·have h2 : ¬ refL t (costsL t (mayC t p b)) < half := fun e => h (hr.1.1 e)
  constructor
  ·intro _ e; omega
  ·intro _; omega
theorem chg2_spec (t : List Part) (p : Nat) {r : List Int} (hr : r.length = 31) (hv : ∀ j, j < 31 → r.getD j 0 = awayC t p j) : ∀ m, m ≤ 31 → ∃ a, (List.range m).foldl chg2 (r, r) = a ∧ a.1.length = 31 ∧ a.2.length = 31 ∧ ∀ j, j < 31 → a.1.getD j 0 = (if j < m then mayC t p false p j else awayC t p j) ∧ a.2.getD j 0 = (if j < m then mayC t p true p j else awayC t p j)
 | 0, _ => ⟨_, rfl, hr, hr, fun j hj => ⟨hv j hj, hv j hj⟩⟩
 | m + 1, hm => by
   obtain ⟨⟨a1, a2⟩, e, h1, h2, h3⟩ := chg2_spec t p hr hv m (by omega)
   rw [List.range_succ, List.foldl_append, e]
   refine ⟨_, rfl, ?_⟩
   simp only [List.foldl_cons, List.foldl_nil]
   dsimp only at h1 h2 h3
   have h4 := h3 m (by omega)
   rw [if_neg (by omega), if_neg (by omega)] at h4
   have f0 : ∀ {q : List Int} (j : Nat) (x : Int), q.length = 31 → j < 31 → (q.set m x).getD j 0 = if j = m then x else q.getD j 0 := fun {q} j x hq hj => by
    simp only [List.getD, List.getElem?_set]
    by_cases e : m = j
    ·subst e; simp [hq, hj]
    ·rw [if_neg e, if_neg fun h => e h.symm]
   have m1 : mayC t p false p m = if 0 < awayC t p m then far else awayC t p m := by
    unfold mayC
    by_cases c : 0 < awayC t p m <;> simp [c]
   have m2 : mayC t p true p m = if 0 < awayC t p m then awayC t p m else far := by
    unfold mayC
    by_cases c : 0 < awayC t p m <;> simp [c]
   unfold chg2
   dsimp only
   rw [h4.1]
   by_cases c : 0 < awayC t p m
   ·rw [if_pos c] at m1 m2 ⊢
    refine ⟨by simp [h1], h2, fun j hj => ⟨?_, ?_⟩⟩
    ·dsimp only; rw [f0 j far h1 hj]
     by_cases e : j = m
     ·subst e; rw [if_pos rfl, if_pos (by omega), m1]
     ·rw [if_neg e, (h3 j hj).1]
      by_cases e2 : j < m
      ·rw [if_pos e2, if_pos (by omega)]
      ·rw [if_neg e2, if_neg (by omega)]
    ·dsimp only; rw [(h3 j hj).2]
     by_cases e : j = m
     ·subst e; rw [if_neg (by omega), if_pos (by omega), m2]
     ·by_cases e2 : j < m
      ·rw [if_pos e2, if_pos (by omega)]
      ·rw [if_neg e2, if_neg (by omega)]
   ·rw [if_neg c] at m1 m2 ⊢
    refine ⟨h1, by simp [h2], fun j hj => ⟨?_, ?_⟩⟩
    ·dsimp only; rw [(h3 j hj).1]
     by_cases e : j = m
     ·subst e; rw [if_neg (by omega), if_pos (by omega), m1]
     ·by_cases e2 : j < m
      ·rw [if_pos e2, if_pos (by omega)]
      ·rw [if_neg e2, if_neg (by omega)]
    ·dsimp only; rw [f0 j far h2 hj]
     by_cases e : j = m
     ·subst e; rw [if_pos rfl, if_pos (by omega), m2]
     ·rw [if_neg e, (h3 j hj).2]
      by_cases e2 : j < m
      ·rw [if_pos e2, if_pos (by omega)]
      ·rw [if_neg e2, if_neg (by omega)]
theorem row_is {f : Nat → Int} {r : List Int} (h : r.length = 31) (hv : ∀ j, j < 31 → r.getD j 0 = f j) : r = (List.range 31).map f := by
 refine List.ext_getElem (by simp [h]) fun j h1 h2 => ?_
 have := hv j (by omega)
 rw [show r.getD j 0 = r[j] by simp [List.getD, h1]] at this
 rw [this]; simp
theorem set_costs {t : List Part} {f g : Nat → Nat → Int} {p : Nat} (h : ∀ i, i ≠ p → ∀ w, g i w = f i w) : (costsL t f).set p ((List.range 31).map (g p)) = costsL t g := by
 refine List.ext_getElem (by simp) fun i h1 h2 => ?_
 have hi : i < t.length := by simpa using h2
 rw [List.getElem_set]
 by_cases e : p = i
 ·subst e; simp [costsL]
 ·rw [if_neg e]
  simp only [costsL, List.getElem_map, List.getElem_range]
  exact List.map_congr_left fun w _ => (h i (fun h => e h.symm) w).symm
theorem mayC_other (t : List Part) (p : Nat) (b : Bool) (i : Nat) (h : i ≠ p) (w : Nat) : mayC t p b i w = awayC t i w := by
 unfold mayC; rw [if_pos (.inl (by omega))]
theorem chg2_all {t : List Part} {p : Nat} (hp : p < t.length) : (List.range 31).foldl chg2 ((costsL t (awayC t)).getD p [], (costsL t (awayC t)).getD p []) = ((List.range 31).map (mayC t p false p), (List.range 31).map (mayC t p true p)) := by
 obtain ⟨⟨a1, a2⟩, e, h1, h2, h3⟩ := chg2_spec t p (r := (costsL t (awayC t)).getD p []) (by rw [costsL_row hp]; simp) (fun j hj => costsL_get hp hj) 31 (Nat.le_refl _)
 rw [e]
 dsimp only at h1 h2 h3
 have q1 : a1 = (List.range 31).map (mayC t p false p) := row_is h1 fun j hj => by have := (h3 j hj).1; rwa [if_pos hj] at this
 have q2 : a2 = (List.range 31).map (mayC t p true p) := row_is h2 fun j hj => by have := (h3 j hj).2; rwa [if_pos hj] at this
 rw [q1, q2]
theorem matAt_u1 {s : Stk} {R1 R2 : List (List Int)} {n : Nat} (hn : R1.length = n) : MatAt (((384, .arr 1 (ptrs s.length 1384 n)) :: uF s.length R1 R2) :: s) s.length 384 (ptrs s.length 1384 n) R1 where
 lt := by simp
 get := by rw [sget_cons, if_pos rfl, Loc.get, if_pos rfl]
 len := by simp [hn]
 row i h := by
  have hi : i < R1.length := by rw [hn]; simpa using h
  refine ⟨_, ptrs_get _ _ _ _ h, .inr ⟨_, _, rfl, by simp, ?_⟩⟩
  rw [sget_cons, if_pos rfl, Loc.get, if_neg (by omega), uF, get_rows _ _ _ _ hi]
  simp [List.getD, hi]
theorem matAt_u2 {s : Stk} {R1 R2 : List (List Int)} {n : Nat} (h8 : R1.length ≤ 8) (hn : R2.length = n) : MatAt (((384, .arr 1 (ptrs s.length 1384 n)) :: uF s.length R1 R2) :: s) s.length 416 (ptrs s.length 1416 n) R2 where
 lt := by simp
 get := by rw [sget_cons, if_pos rfl, Loc.get, if_neg (by omega), uF_get0 _ _ _ h8, hn]
 len := by simp [hn]
 row i h := by
  have hi : i < R2.length := by rw [hn]; simpa using h
  refine ⟨_, ptrs_get _ _ _ _ h, .inr ⟨_, _, rfl, by simp, ?_⟩⟩
  rw [sget_cons, if_pos rfl, Loc.get, if_neg (by omega), uF, get_rows_no _ _ _ _ fun j hj => by omega, Loc.get, if_neg (by omega), get_rows _ _ _ _ hi]
  simp [List.getD, hi]
set_option maxHeartbeats 4000000 in
theorem e_Changed07 (t : List Part) (n : Int) (hl : t.length < 4611686018427387904) (lab s) : den T 49 [.sl .no 6 (es cPart t), i64 n] lab s = some (.tup [i64 (changedR t n).1, i64 (changedR t n).2], s) := by
 rw [den_fn t49 _ _ _ rfl]
 simp only [b49]
 by_cases h : askE t (isPart t n) = 0
 ·have ht := ask_ok h
  by_cases hf : leastP t (awayC t) < far
  ·have hpt : isPart t n = true := by
    cases hp : isPart t n
    ·rw [hp] at h; simp [askE, ht] at h
    ·rfl
   have hb : 0 ≤ n ∧ n < t.length := by simp only [isPart, within, Bool.and_eq_true, decide_eq_true_eq] at hpt; omega
   obtain ⟨p, rfl⟩ : ∃ p : Nat, n = p := ⟨n.toNat, by omega⟩
   have hp : p < t.length := by omega
   have hlen := tblOk_len ht
   have hC8 : (costsL t (awayC t)).length ≤ 8 := by simpa using hlen
   rw [changedR_ok ht hf p hp]
   have f0 : FreeAt [] 336 := fun _ _ => rfl
   have f1 : FreeAt ((336, .arr 1 (ptrs s.length 1336 t.length)) :: rowsF 1336 (costsL t (awayC t)) []) 384 := fun i _ => by
    rw [Loc.get, if_neg (by omega), get_rows_no _ _ _ _ fun j hj => by omega]; rfl
   have f2 : FreeAt ((336, .arr 1 (ptrs s.length 1336 t.length)) :: rowsF 1336 (costsL t (awayC t)) ((384, .arr 1 (ptrs s.length 1384 t.length)) :: rowsF 1384 (costsL t (awayC t)) [])) 416 := fun i _ => by
    rw [Loc.get, if_neg (by omega), get_rows_no _ _ _ _ fun j hj => by omega, Loc.get, if_neg (by omega), get_rows_no _ _ _ _ fun j hj => by omega]; rfl
   have hw0 := e_changes t (tw_ok ht) _ s 336 f0
   have hw1 := e_changes t (tw_ok ht) _ s 384 f1
   have hw2 := e_changes t (tw_ok ht) _ s 416 f2
   have hl0 := fun lab => chg_least t ht 336 s lab
   rw [(ref_away ht).2 hf] at hl0
   simp only [matF, List.cons_append, List.nil_append, costsL_length, rows_append] at hw0 hw1 hw2 hl0
   rw [show rowsF (384 + 1000) (costsL t (awayC t)) ((416, .arr 1 (ptrs s.length (416 + 1000) t.length)) :: rowsF (416 + 1000) (costsL t (awayC t)) []) = uF s.length (costsL t (awayC t)) (costsL t (awayC t)) by unfold uF; rw [costsL_length]] at hw2
   have hL := e_Changed07_l t hlen (leastP t (awayC t)) p hp (costsL t (awayC t)) (by simp) ((costsL t (awayC t)).getD p []) ⟨by rw [costsL_row hp]; simp, by rw [costsL_row hp]; simp, fun j _ hj => costsL_get hp hj⟩ (by
    have hpc : p < (costsL t (awayC t)).length := by simpa using hp
    rw [show (costsL t (awayC t)).getD p [] = (costsL t (awayC t))[p] from getD_at hpc, List.set_getElem_self]) s
   rw [chg2_all hp] at hL
   dsimp only at hL
   rw [set_costs (g := mayC t p false) fun i h w => mayC_other t p false i h w, set_costs (g := mayC t p true) fun i h w => mayC_other t p true i h w] at hL
   simp only [List.length_range] at hL
   have l1 := fun lab => e_rleast t (tw_ok ht) s.length 384 _ (mayC_costs ht p false) _ _ (matAt_u1 (s := s) (R2 := costsL t (mayC t p true)) (costsL_length t (mayC t p false))) lab
   have l2 := fun lab => e_rleast t (tw_ok ht) s.length 416 _ (mayC_costs ht p true) _ _ (matAt_u2 (s := s) (R1 := costsL t (mayC t p false)) (by simpa using hlen) (costsL_length t (mayC t p true))) lab
   have g1 := may_gt ht hf p false
   have g2 := may_gt ht hf p true
   have hpe : partedE t true = 0 := by unfold partedE askE; simp [ht, hf]
   unfold chgV
   generalize refL t (costsL t (mayC t p false)) = x1 at l1 g1
   generalize refL t (costsL t (mayC t p true)) = x2 at l2 g2
   generalize leastP t (awayC t) = w at *
   generalize costsL t (mayC t p false) = R1 at hL l1 l2
   generalize costsL t (mayC t p true) = R2 at hL l1 l2
   generalize uF s.length (costsL t (awayC t)) (costsL t (awayC t)) = U at hw2 hL
   by_cases c1 : w < x1
   ·have d1 := g1.1 c1
    simp (maxSteps := 1000000) (disch := first | omega | assumption | decide +kernel | (simp; done) | (simp; omega) | fail) [hpt, hpe, hl, hw0, hw1, hw2, hl0, hL, l1, l2, c1, d1]
   ·have d1 : leastP t (mayC t p false) = w := Classical.byContradiction fun e => c1 (g1.2 e)
    by_cases c2 : w < x2
    ·have d2 := g2.1 c2
     simp (maxSteps := 1000000) (disch := first | omega | assumption | decide +kernel | (simp; done) | (simp; omega) | fail) [hpt, hpe, hl, hw0, hw1, hw2, hl0, hL, l1, l2, c1, d1, c2, d2]
    ·have d2 : leastP t (mayC t p true) = w := Classical.byContradiction fun e => c2 (g2.2 e)
     simp (maxSteps := 1000000) (disch := first | omega | assumption | decide +kernel | (simp; done) | (simp; omega) | fail) [hpt, hpe, hl, hw0, hw1, hw2, hl0, hL, l1, l2, c1, d1, c2, d2]
  ·have hcr : changeR t (isPart t n) = (0, 3) := by unfold changeR; rw [if_pos h, if_pos (by omega)]
   have hx : changedR t n = (0, 3) := by unfold changedR; rw [hcr]; rfl
   have hpe : partedE t (isPart t n) = 3 := by unfold partedE; rw [if_pos h, if_neg hf]
   rw [hx]
   simp (maxSteps := 1000000) (disch := first | omega | assumption | decide +kernel | (simp; done) | (simp; omega) | fail) [hpe, hl]
 ·have hcr : changeR t (isPart t n) = (0, askE t (isPart t n)) := by unfold changeR; rw [if_neg h]
  have hx : changedR t n = (0, askE t (isPart t n)) := by unfold changedR; rw [hcr]; simp [h]
  have hpe : partedE t (isPart t n) = askE t (isPart t n) := by unfold partedE; rw [if_neg h]
  rw [hx]
  simp (maxSteps := 1000000) (disch := first | omega | assumption | decide +kernel | (simp; done) | (simp; omega) | fail) [hpe, hl, h]
end Go.Proofs.Ytlcnoldkekcifaa

/-
  Cuts: the reference's Fix (not built yet).
-/
namespace Go.Proofs.Ytlcnoldkekcifaa
open Go.Ab
theorem fixC_costs {t : List Part} (ht : tblOk t = true) (O : List Int) : CostsOk t (costsL t (fixC t O)) := costsL_ok fun i n hi hn => by
 have := awayC_small ht i hi n hn
 have e3 : M0 = 3000 := rfl
 unfold fixC; split
 ·right; omega
 ·left; omega
theorem ref_fix {t : List Part} (ht : tblOk t = true) (O : List Int) : (refL t (costsL t (fixC t O)) < half ↔ leastP t (fixC t O) < far) ∧ (leastP t (fixC t O) < far → refL t (costsL t (fixC t O)) = leastP t (fixC t O)) := by
 have h := refL_spec (fixC_costs ht O) (tblOk_len ht) (tblOk_of ht) (wastes ht)
 have hl : leastP t (normC (costsL t (fixC t O))) = leastP t (fixC t O) := leastP_congr (tblOk_len ht) (tblOk_of ht) (fixC_small ht O) fun i w hi hw => by
  have := awayC_small ht i hi w hw
  have e1 : half = 549755813888 := rfl
  have e2 : far = 1099511627776 := rfl
  unfold normC; rw [costsL_get hi hw]
  unfold fixC
  split
  ·rw [if_neg (by omega)]
  ·rw [if_pos (by omega)]
 rw [hl] at h
 exact h
theorem fix_eq {t : List Part} (ht : tblOk t = true) {n : Int} (hn : 0 ≤ n ∧ n ≤ 240) (O : List Int) : refL t (costsL t (fixC t O)) = n ↔ leastP t (fixC t O) = n := by
 have hr := ref_fix ht O
 have e1 : half = 549755813888 := rfl
 have e2 : far = 1099511627776 := rfl
 by_cases h : leastP t (fixC t O) < far
 ·rw [hr.2 h]
 ·have h2 : ¬ refL t (costsL t (fixC t O)) < half := fun e => h (hr.1.1 e)
  constructor <;> intro e <;> omega
def oneRow (t : List Part) (i v : Nat) : List Int := farR.set v (awayC t i v)
@[simp] theorem oneRow_length (t i v) : (oneRow t i v).length = 31 := by simp [oneRow]
theorem fix_rows {t : List Part} {O : List Int} {i v : Nat} (hO : O.length = i) (hi : i < t.length) (hv : v < 31) : (costsL t (fixC t O)).set i (oneRow t i v) = costsL t (fixC t (O ++ [(v : Int)])) := by
 refine List.ext_getElem (by simp) fun j h1 h2 => ?_
 have hj : j < t.length := by simpa using h2
 rw [List.getElem_set]
 by_cases e : i = j
 ·subst e
  rw [if_pos rfl]
  simp only [costsL, List.getElem_map, List.getElem_range]
  refine List.ext_getElem (by simp) fun w w1 w2 => ?_
  have hw : w < 31 := by simpa using w2
  simp only [oneRow, List.getElem_map, List.getElem_range, List.getElem_set]
  rw [fixC_snoc]
  by_cases e2 : v = w
  ·subst e2
   rw [if_pos rfl, if_neg (fun h => h.2 rfl)]
   unfold fixC; rw [if_neg (by omega)]
  ·rw [if_neg e2, if_pos ⟨hO.symm, by omega⟩]
   have := farR_get w hw
   simpa [List.getD, hw] using this
 ·rw [if_neg e]
  simp only [costsL, List.getElem_map, List.getElem_range]
  refine List.map_congr_left fun w _ => ?_
  rw [fixC_snoc, if_neg (fun h => e (by omega))]
def fixO (d L : Nat) (C : List (List Int)) (i : Nat) (row : List Int) : List (List V) := (es cRow C).set i [.sl (.own d L) 1 (es cInt row)]
def fixP (d L : Nat) (C : List (List Int)) (i : Nat) : List (List V) := (es cRow C).set i [.asl d L 1 31 0 31]
@[simp] theorem fixO_length (d L C i row) : (fixO d L C i row).length = C.length := by simp [fixO]
@[simp] theorem fixP_length (d L C i) : (fixP d L C i).length = C.length := by simp [fixP]
@[simp] theorem fixP_getE {d L C i} (h : i < (fixP d L C i).length) : (fixP d L C i)[i] = [.asl d L 1 31 0 31] := by simp [fixP]
theorem fixP_map (d' d L keep C i) (h : L ∈ keep) : (fixP d L C i).map (V.mapAll (dropR d' keep)) = fixP d L C i := by
 unfold fixP; rw [List.map_set, rows_map_d]; simp [V.mapAll, V.map, dropR, h]
theorem fixO_map {d L C i row keep} (h : L ∉ keep) (hr : row ≠ []) : (fixO d L C i row).map (V.mapAll (dropR d keep)) = es cRow (C.set i row) := by
 unfold fixO
 rw [List.map_set, rows_map_d]
 have e : es cRow (C.set i row) = (es cRow C).set i (cRow row) := by simp [es, List.map_set]
 rw [e, cRow_some hr]
 simp [V.mapAll, V.map, dropR, Cap.drop, h]
theorem fixP_frz {d L C i row} (hr : row.length = 31) : (fixP d L C i).map (V.mapAll (frzR d L 1 (es cInt row))) = fixO d L C i row := by
 unfold fixP fixO
 rw [List.map_set, rows_map_f]
 have ht : (es cInt row).take 31 = es cInt row := List.take_of_length_le (by simp [hr])
 simp [V.mapAll, V.map, hr, ht]
theorem matAt_fix {s : Stk} {C : List (List Int)} {i L : Nat} {row : List Int} {F : Ab.Loc} (hF : Loc.get F 272 = some (.arr 1 (fixO s.length L C i row))) (hC : ∀ j (h : j < C.length), C[j] ≠ []) : MatAt (F :: s) s.length 272 (fixO s.length L C i row) (C.set i row) where
 lt := by simp
 get := by rw [sget_cons, if_pos rfl]; exact hF
 len := by simp
 row j h := by
  have hj : j < C.length := by simpa using h
  by_cases e : i = j
  ·subst e
   refine ⟨.sl (.own s.length L) 1 (es cInt row), by simp [fixO], .inl ⟨.own s.length L, ?_⟩⟩
   simp [List.getD, hj]
  ·refine ⟨.sl .no 1 (es cInt C[j]), ?_, .inl ⟨.no, ?_⟩⟩
   ·simp only [fixO]
    rw [List.getElem_set, if_neg e, es_at, cRow_some (hC j hj)]
   ·simp [List.getD, List.getElem?_set, e, hj]
end Go.Proofs.Ytlcnoldkekcifaa

/-
  Cuts: the reference's Fix: its inner loop (not built yet).
-/
namespace Go.Proofs.Ytlcnoldkekcifaa
open Go.Ab
def fxC (t : List Part) (O : List Int) : Nat → List (List Int)
 | 0 => costsL t (fixC t O)
 | k + 1 => costsL t (fixC t (O ++ [(k : Int)]))
@[simp] theorem fxC_length (t O) : ∀ k, (fxC t O k).length = t.length
 | 0 => by simp [fxC]
 | k + 1 => by simp [fxC]
theorem fxC_set {t : List Part} {O : List Int} {i : Nat} (hO : O.length = i) (hi : i < t.length) {v : Nat} (hv : v < 31) : ∀ k, k < 32 → (fxC t O k).set i (oneRow t i v) = costsL t (fixC t (O ++ [(v : Int)]))
 | 0, _ => fix_rows hO hi hv
 | k + 1, h => by
   rw [fxC, ← fix_rows hO hi (show k < 31 by omega), List.set_set]; exact fix_rows hO hi hv
theorem fxC_ne {t : List Part} {O : List Int} {k j : Nat} (h : j < (fxC t O k).length) : (fxC t O k)[j] ≠ [] := by
 have hj : j < t.length := by simpa using h
 have : ∀ f, ∀ (h : j < (costsL t f).length), (costsL t f)[j] ≠ [] := fun f h e => by
  have h2 : (costsL t f)[j].length = 31 := by simp [costsL]
  rw [e] at h2; simp at h2
 cases k with
 | zero => exact this _ h
 | succ k => exact this _ h
def awR (t : List Part) (i : Nat) : List Int := (List.range 31).map (awayC t i)
@[simp] theorem awR_length (t i) : (awR t i).length = 31 := by simp [awR]
section
variable {t : List Part} {O : List Int} {i k : Nat}
theorem fx_least (ht : tblOk t = true) (hO : O.length = i) (hi : i < t.length) (hk : k < 31) (s : Stk) (F : Ab.Loc) (L : Nat) (hF : Loc.get F 272 = some (.arr 1 (fixO s.length L (fxC t O k) i (oneRow t i k)))) (lab : Nat) :
 den T 65 [.sl .no 6 (es cPart t), .asl s.length 272 1 t.length 0 t.length] lab (F :: s) = some (i64 (refL t (costsL t (fixC t (O ++ [(k : Int)])))), F :: s) := by
 have hM := matAt_fix (i := i) (row := oneRow t i k) hF fun j h => fxC_ne h
 rw [fxC_set hO hi hk k (by omega)] at hM
 exact e_rleast t (tw_ok ht) s.length 272 _ (fixC_costs ht _) _ _ hM lab
end
set_option maxHeartbeats 4000000 in
theorem e_fx_a (t : List Part) (ht : tblOk t = true) (i : Nat) (hi0 : i < t.length) (O : List Int) (hO : O.length = i) (n : Int) (hn : 0 ≤ n ∧ n ≤ 240) (v : Nat) (hv : v < 30) (hne : ∀ k, k < v → leastP t (fixC t (O ++ [(k : Int)])) ≠ n) (heq : leastP t (fixC t (O ++ [(v : Int)])) = n) (s : Stk)  :
 Run T b48l1 [(0, .sl .no 6 (es cPart t)), (5, .asl s.length 272 1 t.length 0 t.length), (6, i64 n), (7, .sl (.own s.length 113) 1 (es cInt O)), (8, i64 i), (9, .sl .no 1 (es cInt (awR t i))), (10, i64 0)] ([(272, .arr 1 (es cRow (fxC t O 0))), (113, .tok O.length)] :: s) = some (.exit 2, [(0, .sl .no 6 (es cPart t)), (5, .asl s.length 272 1 t.length 0 t.length), (6, i64 n), (7, .sl (.own s.length 113) 1 (es cInt O)), (8, i64 i), (9, .sl .no 1 (es cInt (awR t i))), (10, i64 v), (53, .bool true)], [(272, .arr 1 (fixO s.length 592 (fxC t O v) i (oneRow t i v))), (113, .tok O.length), (592, .tok 31)] :: s) := by
 have key := loop_fold (T := T) (live := [0, 5, 6, 7, 8, 9, 10]) (keep := [113, 272]) (b := d48l1) (List.range v) (fun _ _ => True) (fun _ _ => ()) (fun k (a : Unit) => [(0, .sl .no 6 (es cPart t)), (5, .asl s.length 272 1 t.length 0 t.length), (6, i64 n), (7, .sl (.own s.length 113) 1 (es cInt O)), (8, i64 i), (9, .sl .no 1 (es cInt (awR t i))), (10, i64 (k : Nat))]) (fun k (a : Unit) => [(272, .arr 1 (es cRow (fxC t O k))), (113, .tok O.length)] :: s) (fun (a : Unit) => (.exit 2, [(0, .sl .no 6 (es cPart t)), (5, .asl s.length 272 1 t.length 0 t.length), (6, i64 n), (7, .sl (.own s.length 113) 1 (es cInt O)), (8, i64 i), (9, .sl .no 1 (es cInt (awR t i))), (10, i64 v), (53, .bool true)], [(272, .arr 1 (fixO s.length 592 (fxC t O v) i (oneRow t i v))), (113, .tok O.length), (592, .tok 31)] :: s)) (by simp) ?_ ?_ ?_ () (by simp) [(0, .sl .no 6 (es cPart t)), (5, .asl s.length 272 1 t.length 0 t.length), (6, i64 n), (7, .sl (.own s.length 113) 1 (es cInt O)), (8, i64 i), (9, .sl .no 1 (es cInt (awR t i))), (10, i64 0)] ([(272, .arr 1 (es cRow (fxC t O 0))), (113, .tok O.length)] :: s) (by simp) (by simp)
 ·exact key
 ·intro k a hk hi
  try simp only [List.length_range] at hk
  try simp only [List.getElem_range]
  have hk2 : (k : Int) < 30 := by omega
  have hk3 : (k : Int) < 31 := by omega
  have hi2 : (i : Int) < t.length := by omega
  have hkr : k < (awR t i).length := by simp; omega
  have er : (awR t i)[k] = awayC t i k := by simp [awR]
  have hN := fun F lab hF => e_none F s lab hF
  have hfl := fxC_length t O k
  have hiC : i < (fxC t O k).length := by omega
  have hrp : (es cRow (fxC t O k)).set i [.asl s.length 592 1 31 0 31] = fixP s.length 592 (fxC t O k) i := rfl
  have hs : (es cInt farR).set k [i64 (awayC t i k)] = es cInt (oneRow t i k) := by simp [es, List.map_set, oneRow]
  have hfz := fixP_frz (d := s.length) (L := 592) (C := fxC t O k) (i := i) (oneRow_length t i k)
  have hl := fun lab => fx_least ht hO hi0 (k := k) (by omega) s [(272, .arr 1 (fixO s.length 592 (fxC t O k) i (oneRow t i k))), (113, .tok O.length), (592, .tok 31)] 592 rfl lab
  have hne2 : ¬ refL t (costsL t (fixC t (O ++ [(k : Int)]))) = n := fun e => hne k hk ((fix_eq ht hn _).1 e)
  have hgc : (fixO s.length 592 (fxC t O k) i (oneRow t i k)).map (V.mapAll (dropR s.length [113, 272])) = es cRow (fxC t O (k + 1)) := by
   rw [fixO_map (by simp) (row_ne (oneRow_length t i k)), fxC_set hO hi0 (by omega) k (by omega)]; rfl
  have h31 := oneRow_length t i k
  generalize refL t (costsL t (fixC t (O ++ [(k : Int)]))) = r at hl hne2
  generalize hfk : fxC t O k = C at *
  generalize fxC t O (k + 1) = C2 at *
  generalize oneRow t i k = row at *
  generalize awayC t i k = x at *
  simp (maxSteps := 1000000) (disch := first | omega | assumption | decide +kernel | (simp; done) | (simp; omega) | fail) [run_drawnK, hk, hk2, hk3, hi2, hkr, er, hN, hfl, hiC, hrp, hs, hfz, hl, hne2, hgc, h31, fixP_map, wk k (by omega)]
 ·intro k a hk hi
  try simp only [List.length_range] at hk
  try simp only [List.getElem_range]
  try simp
 ·intro a hi
  have hk2 : (v : Int) < 30 := by omega
  have hk3 : (v : Int) < 31 := by omega
  have hi2 : (i : Int) < t.length := by omega
  have hkr : v < (awR t i).length := by simp; omega
  have er : (awR t i)[v] = awayC t i v := by simp [awR]
  have hN := fun F lab hF => e_none F s lab hF
  have hfl := fxC_length t O v
  have hiC : i < (fxC t O v).length := by omega
  have hrp : (es cRow (fxC t O v)).set i [.asl s.length 592 1 31 0 31] = fixP s.length 592 (fxC t O v) i := rfl
  have hs : (es cInt farR).set v [i64 (awayC t i v)] = es cInt (oneRow t i v) := by simp [es, List.map_set, oneRow]
  have hfz := fixP_frz (d := s.length) (L := 592) (C := fxC t O v) (i := i) (oneRow_length t i v)
  have hl := fun lab => fx_least ht hO hi0 (k := v) (by omega) s [(272, .arr 1 (fixO s.length 592 (fxC t O v) i (oneRow t i v))), (113, .tok O.length), (592, .tok 31)] 592 rfl lab
  rw [(fix_eq ht hn _).2 heq] at hl
  have h31 := oneRow_length t i v
  simp only [List.length_range]
  generalize fxC t O v = C at *
  generalize oneRow t i v = row at *
  generalize awayC t i v = x at *
  simp (maxSteps := 1000000) (disch := first | omega | assumption | decide +kernel | (simp; done) | (simp; omega) | fail) [run_drawnK, hk2, hk3, hi2, hkr, er, hN, hfl, hiC, hrp, hs, hfz, hl, h31, fixP_map]
end Go.Proofs.Ytlcnoldkekcifaa

/-
  Cuts: the reference's Fix: its inner loop, if it comes to the end.
-/
namespace Go.Proofs.Ytlcnoldkekcifaa
open Go.Ab
set_option maxHeartbeats 4000000 in
theorem e_fx_b (t : List Part) (ht : tblOk t = true) (i : Nat) (hi0 : i < t.length) (O : List Int) (hO : O.length = i) (n : Int) (hn : 0 ≤ n ∧ n ≤ 240) (hne : ∀ k : Nat, k < 30 → leastP t (fixC t (O ++ [(k : Int)])) ≠ n) (s : Stk)  :
 Run T b48l1 [(0, .sl .no 6 (es cPart t)), (5, .asl s.length 272 1 t.length 0 t.length), (6, i64 n), (7, .sl (.own s.length 113) 1 (es cInt O)), (8, i64 i), (9, .sl .no 1 (es cInt (awR t i))), (10, i64 0)] ([(272, .arr 1 (es cRow (fxC t O 0))), (113, .tok O.length)] :: s) = some (.exit 2, [(0, .sl .no 6 (es cPart t)), (5, .asl s.length 272 1 t.length 0 t.length), (6, i64 n), (7, .sl (.own s.length 113) 1 (es cInt O)), (8, i64 i), (9, .sl .no 1 (es cInt (awR t i))), (10, i64 ((List.range 30).length : Nat)), (32, .bool false)], [(272, .arr 1 (es cRow (fxC t O (List.range 30).length))), (113, .tok O.length)] :: s) := by
 have key := loop_fold (T := T) (live := [0, 5, 6, 7, 8, 9, 10]) (keep := [113, 272]) (b := d48l1) (List.range 30) (fun _ _ => True) (fun _ _ => ()) (fun k (a : Unit) => [(0, .sl .no 6 (es cPart t)), (5, .asl s.length 272 1 t.length 0 t.length), (6, i64 n), (7, .sl (.own s.length 113) 1 (es cInt O)), (8, i64 i), (9, .sl .no 1 (es cInt (awR t i))), (10, i64 (k : Nat))]) (fun k (a : Unit) => [(272, .arr 1 (es cRow (fxC t O k))), (113, .tok O.length)] :: s) (fun (a : Unit) => (.exit 2, [(0, .sl .no 6 (es cPart t)), (5, .asl s.length 272 1 t.length 0 t.length), (6, i64 n), (7, .sl (.own s.length 113) 1 (es cInt O)), (8, i64 i), (9, .sl .no 1 (es cInt (awR t i))), (10, i64 ((List.range 30).length : Nat)), (32, .bool false)], [(272, .arr 1 (es cRow (fxC t O (List.range 30).length))), (113, .tok O.length)] :: s)) (by simp) ?_ ?_ ?_ () (by simp) [(0, .sl .no 6 (es cPart t)), (5, .asl s.length 272 1 t.length 0 t.length), (6, i64 n), (7, .sl (.own s.length 113) 1 (es cInt O)), (8, i64 i), (9, .sl .no 1 (es cInt (awR t i))), (10, i64 0)] ([(272, .arr 1 (es cRow (fxC t O 0))), (113, .tok O.length)] :: s) (by simp) (by simp)
 ·exact key
 ·intro k a hk hi
  try simp only [List.length_range] at hk
  try simp only [List.getElem_range]
  have hk2 : (k : Int) < 30 := by omega
  have hk3 : (k : Int) < 31 := by omega
  have hi2 : (i : Int) < t.length := by omega
  have hkr : k < (awR t i).length := by simp; omega
  have er : (awR t i)[k] = awayC t i k := by simp [awR]
  have hN := fun F lab hF => e_none F s lab hF
  have hfl := fxC_length t O k
  have hiC : i < (fxC t O k).length := by omega
  have hrp : (es cRow (fxC t O k)).set i [.asl s.length 592 1 31 0 31] = fixP s.length 592 (fxC t O k) i := rfl
  have hs : (es cInt farR).set k [i64 (awayC t i k)] = es cInt (oneRow t i k) := by simp [es, List.map_set, oneRow]
  have hfz := fixP_frz (d := s.length) (L := 592) (C := fxC t O k) (i := i) (oneRow_length t i k)
  have hl := fun lab => fx_least ht hO hi0 (k := k) (by omega) s [(272, .arr 1 (fixO s.length 592 (fxC t O k) i (oneRow t i k))), (113, .tok O.length), (592, .tok 31)] 592 rfl lab
  have hne2 : ¬ refL t (costsL t (fixC t (O ++ [(k : Int)]))) = n := fun e => hne k hk ((fix_eq ht hn _).1 e)
  have hgc : (fixO s.length 592 (fxC t O k) i (oneRow t i k)).map (V.mapAll (dropR s.length [113, 272])) = es cRow (fxC t O (k + 1)) := by
   rw [fixO_map (by simp) (row_ne (oneRow_length t i k)), fxC_set hO hi0 (by omega) k (by omega)]; rfl
  have h31 := oneRow_length t i k
  generalize refL t (costsL t (fixC t (O ++ [(k : Int)]))) = r at hl hne2
  generalize hfk : fxC t O k = C at *
  generalize fxC t O (k + 1) = C2 at *
  generalize oneRow t i k = row at *
  generalize awayC t i k = x at *
  simp (maxSteps := 1000000) (disch := first | omega | assumption | decide +kernel | (simp; done) | (simp; omega) | fail) [run_drawnK, hk, hk2, hk3, hi2, hkr, er, hN, hfl, hiC, hrp, hs, hfz, hl, hne2, hgc, h31, fixP_map, wk k (by omega)]
 ·intro k a hk hi
  try simp only [List.length_range] at hk
  try simp only [List.getElem_range]
  try simp
 ·intro a hi
  have hfl := fxC_length t O 30
  simp
end Go.Proofs.Ytlcnoldkekcifaa

/-
  Cuts: the reference's Fix: the frozen rows (not built yet).
-/
namespace Go.Proofs.Ytlcnoldkekcifaa
open Go.Ab
def fzA (d : Nat) : Nat → List (List Int) → List (List V)
 | _, [] => []
 | b, r :: R => [.sl (.own d b) 1 (es cInt r)] :: fzA d (b + 1000) R
def fzF : Nat → List (List Int) → Ab.Loc → Ab.Loc
 | _, [], F => F
 | b, r :: R, F => (b, .tok r.length) :: fzF (b + 1000) R F
@[simp] theorem fzA_length (d) : ∀ (b) (R), (fzA d b R).length = R.length
 | _, [] => rfl
 | b, r :: R => by simp [fzA, fzA_length d (b + 1000) R]
theorem fzA_get (d) : ∀ (R : List (List Int)) (b i : Nat) (h : i < (fzA d b R).length) (h2 : i < R.length), (fzA d b R)[i] = [.sl (.own d (b + 1000 * i)) 1 (es cInt R[i])]
 | r :: R, b, 0, _, _ => by simp [fzA]
 | r :: R, b, i + 1, h, h2 => by
   have e : b + 1000 * (i + 1) = b + 1000 + 1000 * i := by omega
   have := fzA_get d R (b + 1000) i (by simpa using h2) (by simpa using h2)
   simp only [fzA, List.getElem_cons_succ, this, e]
theorem fzF_get : ∀ (R : List (List Int)) (b : Nat) (F : Ab.Loc) (l : Nat) (_ : l < b), Loc.get (fzF b R F) l = Loc.get F l
 | [], _, _, _, _ => rfl
 | r :: R, b, F, l, h => by rw [fzF, Loc.get, if_neg (by omega), fzF_get R (b + 1000) F l (by omega)]
theorem fzF_put : ∀ (R : List (List Int)) (b : Nat) (F : Ab.Loc) (l : Nat) (x : Entry) (_ : l < b), Loc.put (fzF b R F) l x = fzF b R (Loc.put F l x)
 | [], _, _, _, _, _ => rfl
 | r :: R, b, F, l, x, h => by rw [fzF, Loc.put, if_neg (by omega), fzF_put R (b + 1000) F l x (by omega)]; rfl
theorem fzF_gc : ∀ (R : List (List Int)) (b : Nat) (F : Ab.Loc) (_ : 272 < b), (fzF b R F).filter (fun x => decide (x.fst = 113) || (decide (x.fst = 272))) = F.filter (fun x => decide (x.fst = 113) || (decide (x.fst = 272)))
 | [], _, _, _ => rfl
 | r :: R, b, F, h => by
   rw [fzF, List.filter_cons, if_neg (by simp; omega), fzF_gc R (b + 1000) F (by omega)]
theorem fzA_gc (d) : ∀ (R : List (List Int)) (b : Nat) (_ : 272 < b) (_ : ∀ r ∈ R, r ≠ []), (fzA d b R).map (V.mapAll (dropR d [113, 272])) = es cRow R
 | [], _, _, _ => rfl
 | r :: R, b, h, hr => by
   have ih := fzA_gc d R (b + 1000) (by omega) fun x hx => hr x (List.mem_cons_of_mem _ hx)
   have e : es cRow (r :: R) = cRow r :: es cRow R := rfl
   have h1 : ¬ b = 113 := by omega
   have h2 : ¬ b = 272 := by omega
   rw [fzA, List.map_cons, ih, e, cRow_some (hr r (by simp))]
   simp [V.mapAll, V.map, dropR, Cap.drop, h1, h2]
theorem matAt_fz {s : Stk} {C : List (List Int)} {F : Ab.Loc} (hF : Loc.get F 272 = some (.arr 1 (fzA s.length 1272 C))) : MatAt (F :: s) s.length 272 (fzA s.length 1272 C) C where
 lt := by simp
 get := by rw [sget_cons, if_pos rfl]; exact hF
 len := by simp
 row i h := by
  have hi : i < C.length := by simpa using h
  refine ⟨_, fzA_get _ _ _ _ h hi, .inl ⟨.own s.length (1272 + 1000 * i), ?_⟩⟩
  simp [List.getD, hi]
theorem frz_chg (t : List Part) (C : List (List Int)) (hC : C.length ≤ 8) (hr : ∀ r ∈ C, r.length = 31) (s : Stk) (n : Nat) (hn : C.length = n) :
 frzAll [1272, 2272, 3272, 4272, 5272, 6272, 7272, 8272] [(0, .sl .no 6 (es cPart t)), (5, .asl s.length 272 1 n 0 n)] (((272, .arr 1 (ptrs s.length 1272 n)) :: rowsF 1272 C []) :: s) =
  ([(0, .sl .no 6 (es cPart t)), (5, .asl s.length 272 1 n 0 n)], ((272, .arr 1 (fzA s.length 1272 C)) :: fzF 1272 C []) :: s) := by
 subst hn
 have ht : ∀ r : List Int, r.length = 31 → (es cInt r).take 31 = es cInt r := fun r h => List.take_of_length_le (by simp [h])
 match C, hC, hr with
 | [], _, _ => simp [ptrs, rowsF, fzA, fzF]
 | [a], _, hr =>
   simp only [List.mem_cons, List.not_mem_nil, or_false, forall_eq_or_imp, forall_eq] at hr
   simp [ptrs, rowsF, fzA, fzF, hr, ht, List.range_succ]
 | [a, b], _, hr =>
   simp only [List.mem_cons, List.not_mem_nil, or_false, forall_eq_or_imp, forall_eq] at hr
   simp [ptrs, rowsF, fzA, fzF, hr, ht, List.range_succ]
 | [a, b, c], _, hr =>
   simp only [List.mem_cons, List.not_mem_nil, or_false, forall_eq_or_imp, forall_eq] at hr
   simp [ptrs, rowsF, fzA, fzF, hr, ht, List.range_succ]
 | [a, b, c, d], _, hr =>
   simp only [List.mem_cons, List.not_mem_nil, or_false, forall_eq_or_imp, forall_eq] at hr
   simp [ptrs, rowsF, fzA, fzF, hr, ht, List.range_succ]
 | [a, b, c, d, e], _, hr =>
   simp only [List.mem_cons, List.not_mem_nil, or_false, forall_eq_or_imp, forall_eq] at hr
   simp [ptrs, rowsF, fzA, fzF, hr, ht, List.range_succ]
 | [a, b, c, d, e, f], _, hr =>
   simp only [List.mem_cons, List.not_mem_nil, or_false, forall_eq_or_imp, forall_eq] at hr
   simp [ptrs, rowsF, fzA, fzF, hr, ht, List.range_succ]
 | [a, b, c, d, e, f, g], _, hr =>
   simp only [List.mem_cons, List.not_mem_nil, or_false, forall_eq_or_imp, forall_eq] at hr
   simp [ptrs, rowsF, fzA, fzF, hr, ht, List.range_succ]
 | [a, b, c, d, e, f, g, i], _, hr =>
   simp only [List.mem_cons, List.not_mem_nil, or_false, forall_eq_or_imp, forall_eq] at hr
   simp [ptrs, rowsF, fzA, fzF, hr, ht, List.range_succ]
end Go.Proofs.Ytlcnoldkekcifaa

/-
  Cuts: the reference's Fix, whole (not built yet).
-/
namespace Go.Proofs.Ytlcnoldkekcifaa
open Go.Ab
@[simp] theorem fixO_getE {d L C i row} (h : i < (fixO d L C i row).length) : (fixO d L C i row)[i] = [.sl (.own d L) 1 (es cInt row)] := by simp [fixO]
theorem fixC_row {t : List Part} {O : List Int} {i : Nat} (hO : O.length = i) (hi : i < t.length) : (costsL t (fixC t O)).getD i [] = awR t i := by
 rw [costsL_row hi]
 refine List.map_congr_left fun w _ => ?_
 unfold fixC; rw [if_neg (by omega)]
set_option maxHeartbeats 4000000 in
theorem e_Fix07_l (t : List Part) (ht : tblOk t = true) (n : Int) (hn : 0 ≤ n ∧ n ≤ 240) (hn0 : leastP t (awayC t) = n) (s : Stk) (F0 : Ab.Loc) (hF0 : Loc.ren (dropR s.length [113, 272]) (F0.filter (fun x => decide (x.fst = 113) || (decide (x.fst = 272)))) = [(272, .arr 1 (es cRow (costsL t (awayC t)))), (113, .tok 0)]) :
 Run T b48l0 [(7, .sl (.own s.length 113) 1 []), (0, .sl .no 6 (es cPart t)), (5, .asl s.length 272 1 t.length 0 t.length), (6, i64 n), (7, .sl .full 1 []), (8, i64 0)] (F0 :: s) = some (.exit 0, [(0, .sl .no 6 (es cPart t)), (5, .asl s.length 272 1 t.length 0 t.length), (6, i64 n), (7, .sl (.own s.length 113) 1 (es cInt ((List.range t.length).foldl (fun O _ => O ++ [(fixV t n O : Int)]) ([] : List Int)))), (8, i64 ((List.range t.length).length : Nat)), (24, .bool false)], [(272, .arr 1 (es cRow (costsL t (fixC t ((List.range t.length).foldl (fun O _ => O ++ [(fixV t n O : Int)]) ([] : List Int)))))), (113, .tok (((List.range t.length).foldl (fun O _ => O ++ [(fixV t n O : Int)]) ([] : List Int))).length)] :: s) := by
 have key := loop_fold (T := T) (live := [0, 5, 6, 7, 8]) (keep := [113, 272]) (b := d48l0) (List.range t.length) (fun k O => O.length = k ∧ leastP t (fixC t O) = n) (fun O _ => O ++ [(fixV t n O : Int)]) (fun k (a : List Int) => [(0, .sl .no 6 (es cPart t)), (5, .asl s.length 272 1 t.length 0 t.length), (6, i64 n), (7, .sl (.own s.length 113) 1 (es cInt a)), (8, i64 (k : Nat))]) (fun k (a : List Int) => [(272, .arr 1 (es cRow (costsL t (fixC t a)))), (113, .tok (a).length)] :: s) (fun (a : List Int) => (.exit 0, [(0, .sl .no 6 (es cPart t)), (5, .asl s.length 272 1 t.length 0 t.length), (6, i64 n), (7, .sl (.own s.length 113) 1 (es cInt a)), (8, i64 ((List.range t.length).length : Nat)), (24, .bool false)], [(272, .arr 1 (es cRow (costsL t (fixC t a)))), (113, .tok (a).length)] :: s)) (by simp) ?_ ?_ ?_ ([] : List Int) (⟨rfl, by rw [fixC_nil]; exact hn0⟩) [(7, .sl (.own s.length 113) 1 []), (0, .sl .no 6 (es cPart t)), (5, .asl s.length 272 1 t.length 0 t.length), (6, i64 n), (7, .sl .full 1 []), (8, i64 0)] (F0 :: s) (by simp [hF0, fixC_nil]) (by simp [hF0, fixC_nil])
 ·exact key
 ·intro k a hk hi
  try simp only [List.length_range] at hk
  try simp only [List.getElem_range]
  have hlen := tblOk_len ht
  have hk2 : (k : Int) < t.length := by omega
  have hf : n < far := by have e2 : far = 1099511627776 := rfl; omega
  obtain ⟨v1, v2, v3⟩ := fixV_spec (fix_next ht (O := a) (by omega) hi.2 hf)
  have hak := hi.1
  have hrow := fixC_row hak hk
  have hC : (costsL t (fixC t a)).length = t.length := by simp
  have hkC : k < (costsL t (fixC t a)).length := by simpa using hk
  have hrow2 : (costsL t (fixC t a))[k] = awR t k := by rw [← hrow]; simp [List.getD, hk]
  have hne : (awR t k) ≠ [] := row_ne (awR_length t k)
  have hcr := cRow_some hne
  have hN := fun F lab hF => e_none F s lab hF
  have hfl := fxC_length t a (fixV t n a)
  have hiC : k < (fxC t a (fixV t n a)).length := by omega
  have hfz := fixP_frz (d := s.length) (L := 896) (C := fxC t a (fixV t n a)) (i := k) (oneRow_length t k (fixV t n a))
  have hs : (es cInt farR).set (fixV t n a) [i64 (awayC t k (fixV t n a))] = es cInt (oneRow t k (fixV t n a)) := by simp [es, List.map_set, oneRow]
  have hkr : fixV t n a < (awR t k).length := by simp; omega
  have er : (awR t k)[fixV t n a] = awayC t k (fixV t n a) := by simp [awR]
  have hv31 : (fixV t n a : Int) < 31 := by omega
  have hvn : fixV t n a < 31 := v1
  have hgc : (fixO s.length 896 (fxC t a (fixV t n a)) k (oneRow t k (fixV t n a))).map (V.mapAll (dropR s.length [113, 272])) = es cRow (costsL t (fixC t (a ++ [(fixV t n a : Int)]))) := by
   rw [fixO_map (by simp) (row_ne (oneRow_length t k (fixV t n a))), fxC_set hak hk v1 _ (by omega)]
  have h31 := oneRow_length t k (fixV t n a)
  have hl31 := awR_length t k
  have hsn : es cInt a ++ [[i64 (fixV t n a : Int)]] = es cInt (a ++ [(fixV t n a : Int)]) := by simp [es]
  have q1 : (a.length + 1) * 8 ≤ 140737488355328 := by omega
  have q2 : a.length + 1 < 140737488355328 := by omega
  have q3 : (k + 1) * 8 ≤ 140737488355328 := by omega
  have q4 : k + 1 < 140737488355328 := by omega
  by_cases hv : fixV t n a < 30
  ·have hL := e_fx_a t ht k hk a hak n hn (fixV t n a) hv v3 v2 s
   have hst : (fixO s.length 592 (fxC t a (fixV t n a)) k (oneRow t k (fixV t n a))).set k [.asl s.length 896 1 31 0 31] = fixP s.length 896 (fxC t a (fixV t n a)) k := by simp [fixO, fixP]
   rw [show fxC t a 0 = costsL t (fixC t a) from rfl] at hL
   simp only [List.length_range, hak] at hL
   generalize fxC t a (fixV t n a) = C at *
   generalize costsL t (fixC t a) = C0 at *
   generalize costsL t (fixC t (a ++ [(fixV t n a : Int)])) = C1 at *
   generalize oneRow t k (fixV t n a) = row at *
   generalize awayC t k (fixV t n a) = x at *
   generalize fixV t n a = v at *
   simp (maxSteps := 1000000) (disch := first | omega | assumption | decide +kernel | (simp; done) | (simp; omega) | fail) [run_drawnK, hk, hk2, hC, hkC, hrow2, hcr, hN, hfl, hiC, hfz, hs, hkr, er, hv31, hvn, hgc, h31, hl31, hsn, hL, hst, hak, appK_own1, q1, q2, q3, q4, fixP_map, wk k (by omega)]
  ·have e30 : fixV t n a = 30 := by omega
   have hL := e_fx_b t ht k hk a hak n hn (fun j hj => v3 j (by omega)) s
   have hst : (es cRow (fxC t a (fixV t n a))).set k [.asl s.length 896 1 31 0 31] = fixP s.length 896 (fxC t a (fixV t n a)) k := rfl
   rw [show fxC t a 0 = costsL t (fixC t a) from rfl] at hL
   simp only [List.length_range, hak] at hL
   generalize fixV t n a = v at *
   subst e30
   generalize fxC t a 30 = C at *
   generalize costsL t (fixC t a) = C0 at *
   generalize costsL t (fixC t (a ++ [((30 : Nat) : Int)])) = C1 at *
   generalize oneRow t k 30 = row at *
   generalize awayC t k 30 = x at *
   simp (maxSteps := 1000000) (disch := first | omega | assumption | decide +kernel | (simp; done) | (simp; omega) | fail) [run_drawnK, hk, hk2, hC, hkC, hrow2, hcr, hN, hfl, hiC, hfz, hs, hkr, er, hv31, hvn, hgc, h31, hl31, hsn, hL, hst, hak, appK_own1, q1, q2, q3, q4, fixP_map, wk k (by omega)]
 ·intro k a hk hi
  try simp only [List.length_range] at hk
  try simp only [List.getElem_range]
  have hf : n < far := by have e2 : far = 1099511627776 := rfl; omega
  obtain ⟨v1, v2, v3⟩ := fixV_spec (fix_next ht (O := a) (by omega) hi.2 hf)
  exact ⟨by simp [hi.1], v2⟩
 ·intro a hi
  simp
end Go.Proofs.Ytlcnoldkekcifaa

/-
  Cuts: the reference's Fix, the function (not built yet).
-/
namespace Go.Proofs.Ytlcnoldkekcifaa
open Go.Ab
theorem costs_row31 (t : List Part) (f) : ∀ r ∈ costsL t f, r.length = 31 := fun r hr => by
 simp only [costsL, List.mem_map] at hr
 obtain ⟨i, _, rfl⟩ := hr
 simp
set_option maxHeartbeats 4000000 in
theorem e_Fix07 (t : List Part) (lab s) : den T 48 [.sl .no 6 (es cPart t)] lab s = some (.tup [.sl .no 1 (es cInt (fixR t).1), i64 (fixR t).2], s) := by
 unfold fixR
 rw [den_fn t48 _ _ _ rfl]
 simp only [b48]
 by_cases h : askE t true = 0
 ·have ht := ask_ok h
  by_cases hf : leastP t (awayC t) < far
  ·have hc : changeR t true = (leastP t (awayC t), 0) := by unfold changeR; rw [if_pos h, if_neg (by omega)]
   have hp : partedE t true = 0 := by unfold partedE; rw [if_pos h, if_pos hf]
   have hb := change_range ht hf
   have hlen := tblOk_len ht
   have hw := e_changes t (tw_ok ht) [] s 272 (fun _ _ => rfl)
   rw [List.nil_append] at hw
   have hz := frz_chg t (costsL t (awayC t)) (by simpa using hlen) (costs_row31 t _) s t.length (by simp)
   have hM : matF s.length 272 (costsL t (awayC t)) [] = ((272, .arr 1 (ptrs s.length 1272 t.length)) :: rowsF 1272 (costsL t (awayC t)) []) := by simp [matF]
   rw [← hM] at hz
   have hfz : Run T (.freeze [1272, 2272, 3272, 4272, 5272, 6272, 7272, 8272]) [(0, .sl .no 6 (es cPart t)), (5, .asl s.length 272 1 t.length 0 t.length)] (matF s.length 272 (costsL t (awayC t)) [] :: s) = some (.normal, [(0, .sl .no 6 (es cPart t)), (5, .asl s.length 272 1 t.length 0 t.length)], ((272, .arr 1 (fzA s.length 1272 (costsL t (awayC t)))) :: fzF 1272 (costsL t (awayC t)) []) :: s) := by
    rw [run_freezeK, hz]
   have hl := fun lab => e_rleast t (tw_ok ht) s.length 272 _ (awayC_costs ht) _ _ (matAt_fz (s := s) (C := costsL t (awayC t)) (F := (272, .arr 1 (fzA s.length 1272 (costsL t (awayC t)))) :: fzF 1272 (costsL t (awayC t)) []) rfl) lab
   rw [(ref_away ht).2 hf] at hl
   have hg : Loc.get (fzF 1272 (costsL t (awayC t)) []) 113 = none := by rw [fzF_get _ _ _ _ (by omega)]; rfl
   have hpt : Loc.put (fzF 1272 (costsL t (awayC t)) []) 113 (.tok 0) = fzF 1272 (costsL t (awayC t)) [(113, .tok 0)] := fzF_put _ _ _ _ _ (by omega)
   have hL := e_Fix07_l t ht (leastP t (awayC t)) hb rfl s ((272, .arr 1 (fzA s.length 1272 (costsL t (awayC t)))) :: fzF 1272 (costsL t (awayC t)) [(113, .tok 0)]) (by
    rw [List.filter_cons, if_pos (by simp), fzF_gc _ _ _ (by omega)]
    have := fzA_gc s.length (costsL t (awayC t)) 1272 (by omega) fun r hr => row_ne (costs_row31 t _ r hr)
    simp [Loc.ren, Entry.map, this])
   rw [show (List.range t.length).foldl (fun O _ => O ++ [(fixV t (leastP t (awayC t)) O : Int)]) [] = fixAll t (leastP t (awayC t)) from rfl] at hL
   simp only [List.length_range] at hL
   have hfl := fixAll_length t (leastP t (awayC t))
   rw [hc]
   generalize fzF 1272 (costsL t (awayC t)) [(113, .tok 0)] = G1 at *
   generalize fzF 1272 (costsL t (awayC t)) [] = G0 at *
   generalize matF s.length 272 (costsL t (awayC t)) [] = M at hw hfz
   generalize fzA s.length 1272 (costsL t (awayC t)) = A at *
   generalize fixAll t (leastP t (awayC t)) = O at *
   generalize leastP t (awayC t) = n at *
   clear hz hM
   simp (maxSteps := 1000000) (disch := first | omega | assumption | decide +kernel | (simp; done) | (simp; omega) | fail) [-run_freezeK, hp, hw, hfz, hl, hg, hpt, hL, hfl]
  ·have hc : changeR t true = (0, 3) := by unfold changeR; rw [if_pos h, if_pos (by omega)]
   have hp : partedE t true = 3 := by unfold partedE; rw [if_pos h, if_neg hf]
   rw [hc]
   simp (maxSteps := 1000000) (disch := first | omega | assumption | decide +kernel | (simp; done) | (simp; omega) | fail) [hp]
 ·have hc : changeR t true = (0, askE t true) := by unfold changeR; rw [if_neg h]
  have hp : partedE t true = askE t true := by unfold partedE; rw [if_neg h]
  rw [hc]
  simp (maxSteps := 1000000) (disch := first | omega | assumption | decide +kernel | (simp; done) | (simp; omega) | fail) [hp, h]
end Go.Proofs.Ytlcnoldkekcifaa

/-
  Cuts: CutsFix (not built yet).
-/
namespace Go.Proofs.Ytlcnoldkekcifaa
open Go.Ab
theorem e_SameT_l (t : List Part) (ht : t.length < 4611686018427387904) (s : Stk)  :
 Run T b35l0 [(0, .sl .no 6 (es cPart t)), (1, .sl .no 6 (es cPart t)), (5, i64 0)] ([] :: s) = some (.exit 0, [(0, .sl .no 6 (es cPart t)), (1, .sl .no 6 (es cPart t)), (5, i64 ((List.range t.length).length : Nat)), (14, .bool false)], [] :: s) := by
 have key := loop_fold (T := T) (live := [0, 1, 5]) (keep := []) (b := d35l0) (List.range t.length) (fun _ _ => True) (fun _ _ => ()) (fun k (a : Unit) => [(0, .sl .no 6 (es cPart t)), (1, .sl .no 6 (es cPart t)), (5, i64 (k : Nat))]) (fun k (a : Unit) => [] :: s) (fun (a : Unit) => (.exit 0, [(0, .sl .no 6 (es cPart t)), (1, .sl .no 6 (es cPart t)), (5, i64 ((List.range t.length).length : Nat)), (14, .bool false)], [] :: s)) (by simp) ?_ ?_ ?_ () (by simp) [(0, .sl .no 6 (es cPart t)), (1, .sl .no 6 (es cPart t)), (5, i64 0)] ([] :: s) (by simp) (by simp)
 ·exact key
 ·intro k a hk hi
  try simp only [List.length_range] at hk
  try simp only [List.getElem_range]
  have hk2 : (k : Int) < t.length := by omega
  simp (maxSteps := 1000000) (disch := first | omega | assumption | decide +kernel | (simp; done) | (simp; omega) | fail) [run_drawnK, hk, hk2, wk k (by omega)]
 ·intro k a hk hi
  try simp only [List.length_range] at hk
  try simp only [List.getElem_range]
  try simp
 ·intro a hi
  simp
theorem e_SameT (t : List Part) (ht : t.length < 4611686018427387904) (lab s) : den T 35 [.sl .no 6 (es cPart t), .sl .no 6 (es cPart t)] lab s = some (.bool true, s) := by
 have h := e_SameT_l t ht s
 simp only [List.length_range] at h
 rw [den_fn t35 _ _ _ rfl]
 simp only [b35]
 simp (maxSteps := 1000000) (disch := first | omega | assumption | decide +kernel | (simp; done) | (simp; omega) | fail) [h]
set_option maxHeartbeats 4000000 in
theorem e_CutsFix (t : List Part) (hl : t.length < 4611686018427387904) (n : Int) (lab s) : den T 11 [.sl .no 6 (es cPart t), i64 n] lab s = some (.bool true, s) := by
 rw [den_fn t11 _ _ _ rfl]
 simp only [b11]
 by_cases h1 : (40 : Int) < t.length
 ·simp (maxSteps := 1000000) (disch := first | omega | assumption | decide +kernel | (simp; done) | (simp; omega) | fail) [h1]
 have hC := fun F lab hF => e_Copy07 t (by omega) F s lab hF
 have a1 := fun lab s => e_Change t lab s
 have a2 := fun lab s => e_Change07 t lab s
 have c1 := fun lab s => e_Fix t lab s
 have c2 := fun lab s => e_Fix07 t lab s
 have g1 := fun lab s => e_Changed t n hl lab s
 have g2 := fun lab s => e_Changed07 t n hl lab s
 have hS := fun lab s => e_SameT t hl lab s
 have z0 : t.take t.length = t := List.take_of_length_le (Nat.le_refl _)
 have hcl : (fixR t).1.length < 4611686018427387904 := by
  unfold fixR; split
  ·rw [fixAll_length]; exact hl
  ·simp
 generalize changeR t true = b at a1 a2
 generalize fixR t = c at c1 c2 hcl
 generalize changedR t n = g at g1 g2
 obtain ⟨b, d⟩ := b
 obtain ⟨c, e⟩ := c
 obtain ⟨g, f⟩ := g
 dsimp only at a1 a2 c1 c2 g1 g2 hcl
 simp (maxSteps := 1000000) (disch := first | omega | assumption | decide +kernel | (simp; done) | (simp; omega) | fail) [h1, hC, a1, a2, c1, c2, g1, g2, hS, z0, hcl]
end Go.Proofs.Ytlcnoldkekcifaa

/-
  What the arguments of the laws of cuts read as.
-/
namespace Go.Proofs.Ytlcnoldkekcifaa
open Go.Ab
set_option maxRecDepth 100000
theorem cells34 : Try.prog.cellsOf 34 = 6 := by kernel_rfl
variable {B : TypeId → Nat → Prop} {n : Nat} {vs : List V}
theorem fit_int (h : Fit Try.prog B (n + 1) 3 vs) : ∃ x, vs = [i64 x] := by
 simp only [Fit, Try.underlying3] at h
 exact h
theorem fit_sp (h : Fit Try.prog B (n + 2) 27 vs) : ∃ x : Sp, vs = cSp x := by
 simp only [Fit, FitF, Try.underlying27, Try.underlying3] at h
 obtain ⟨_, _, rfl, ⟨x, rfl⟩, _, _, rfl, ⟨y, rfl⟩, rfl⟩ := h
 exact ⟨⟨x, y⟩, rfl⟩
theorem fit_part (h : Fit Try.prog B (n + 3) 34 vs) : ∃ x : Part, vs = cPart x := by
 rw [Fit, Try.underlying34] at h
 simp only [FitF] at h
 obtain ⟨_, _, rfl, h0, _, _, rfl, h1, _, _, rfl, h2, _, _, rfl, h3, rfl⟩ := h
 obtain ⟨a, rfl⟩ := fit_int h0
 obtain ⟨x, rfl⟩ := fit_sp h1
 obtain ⟨y, rfl⟩ := fit_sp h2
 obtain ⟨z, rfl⟩ := fit_int h3
 exact ⟨⟨a, x, y, z⟩, rfl⟩
theorem es_all {α : Type} {f : α → List V} (l : List (List V)) (h : ∀ x ∈ l, ∃ y, x = f y) : ∃ l' : List α, l = es f l' := by
 obtain ⟨l', h1, _⟩ := es_of (Q := fun _ => True) l fun x hx => by obtain ⟨y, hy⟩ := h x hx; exact ⟨y, hy, trivial⟩
 exact ⟨l', h1⟩
theorem fit_parts (h : Fit Try.prog B (n + 4) 22 vs) : ∃ l : List Part, vs = [.sl .no 6 (es cPart l)] ∧ B 34 l.length := by
 rw [Fit, Try.underlying22] at h
 simp only at h
 obtain ⟨l, rfl, hb, h⟩ := h
 obtain ⟨l', rfl⟩ := es_all (f := cPart) l fun x hx => fit_part (h x hx)
 rw [cells34]
 exact ⟨l', rfl, by simpa using hb⟩
def Reach (e : TypeId) (k : Nat) : Prop := k ≤ maxLen ∧ k * Try.prog.bytesOf e ≤ reachBytes
theorem bytes34 : Try.prog.bytesOf 34 = 48 := by kernel_rfl
theorem reach_parts {k : Nat} (h : Reach 34 k) : k < 4611686018427387904 := by
 simp only [Reach, bytes34, reachBytes] at h; omega
end Go.Proofs.Ytlcnoldkekcifaa
