/-
  anchors.Safe: the answer.
-/
import Derived.Test.YtekgicoibcgecaaGreatEq1
set_option linter.unusedSimpArgs false
set_option linter.unusedVariables false
namespace Go.Proofs.YtekgicoibcgecaaGreat
open Go.Ab
def stepS (n : Net) (w c : Int) (g : List Int) (a : Int) (k : Nat) : Int := if spareS n w c g k < 0 then orBit a k else a
def quiet (n : Net) (w c : Int) (g : List Int) : Bool := allB (fun k => decide (0 ≤ spareS n w c g k)) (List.range n.anch.length)
theorem stepS_zero (n : Net) (w c : Int) (g : List Int) : ∀ (l : List Nat), (∀ k ∈ l, k < 64) → ∀ a, (l.foldl (stepS n w c g) a = 0 ↔ a = 0 ∧ allB (fun k => decide (0 ≤ spareS n w c g k)) l = true)
 | [], _, a => by simp [allB]
 | k :: r, h, a => by
   rw [List.foldl_cons, stepS_zero n w c g r (fun k hk => h k (by simp [hk]))]
   unfold stepS
   split
   ·rename_i hs
    have h1 := orBit_ne a k (h k (by simp))
    simp [h1, allB, hs]
    intro _ h; omega
   ·rename_i hs
    simp [allB, Int.not_lt.1 hs]
theorem e_step (n0 : Int) (n1 : Int) (n2 : Int) (n3 : Int) (n4 : List Sp) (n5 : List Anc) (n6 : List Wal) (G : List Int) (w c : Int) (ha : ∀ x ∈ n5, ancOk G.length x = true) (hG : ∀ x ∈ G, 0 ≤ x ∧ x ≤ 9) (hwal : ∀ x ∈ n6, walOk x = true) (hlen : n6.length ≤ 6) (hlen5 : n5.length ≤ 6) (hw : 0 ≤ w ∧ w ≤ 20) (hc : 0 ≤ c ∧ c ≤ 20) (lab s) :
 den T 125 [.agg [i64 n0, i64 n1, i64 n2, i64 n3, .sl .no 2 (es cSp n4), .sl .no 2 (es cAnc n5), .sl .no 5 (es cWal n6), i64 w, i64 c, .sl .no 1 (es cInt G)], .int .u64 0] lab s = some (.int .u64 ((List.range n5.length).foldl (stepS (⟨⟨n0, n1⟩, ⟨n2, n3⟩, n4, n5, n6⟩ : Net) w c G) 0), s) := by
 rw [den_fn t125 _ _ _ rfl]
 simp only [b125]
 have key := loop_fold (T := T) (live := [1, 2, 5, 11, 12]) (keep := [32]) (b := d125l0) (List.range n5.length) (fun _ _ => True) (stepS (⟨⟨n0, n1⟩, ⟨n2, n3⟩, n4, n5, n6⟩ : Net) w c G)
  (fun k a => [(1, .int .u64 0), (2, .ptr s.length 32 0), (5, .int .u64 a), (11, i64 n5.length), (12, i64 k)]) (fun _ _ => [(32, .cell [i64 n0, i64 n1, i64 n2, i64 n3, .sl .no 2 (es cSp n4), .sl .no 2 (es cAnc n5), .sl .no 5 (es cWal n6), i64 w, i64 c, .sl .no 1 (es cInt G)])] :: s)
  (fun a => (.exit 0, [(1, .int .u64 0), (2, .ptr s.length 32 0), (5, .int .u64 a), (11, i64 n5.length), (12, i64 n5.length), (13, .bool false)], [(32, .cell [i64 n0, i64 n1, i64 n2, i64 n3, .sl .no 2 (es cSp n4), .sl .no 2 (es cAnc n5), .sl .no 5 (es cWal n6), i64 w, i64 c, .sl .no 1 (es cInt G)])] :: s))
  (by simp) ?_ ?_ ?_ 0 trivial [(1, .int .u64 0), (2, .ptr s.length 32 0), (5, .int .u64 0), (11, i64 n5.length), (12, i64 0)] ([(32, .cell [i64 n0, i64 n1, i64 n2, i64 n3, .sl .no 2 (es cSp n4), .sl .no 2 (es cAnc n5), .sl .no 5 (es cWal n6), i64 w, i64 c, .sl .no 1 (es cInt G)])] :: s) (by simp) (by simp)
 ·change Run T b125l0 _ _ = _ at key
  simp (disch := first | omega | assumption | decide +kernel | (simp; done) | (simp; omega) | fail) [key]
 ·intro k a hk _
  simp only [List.length_range] at hk
  simp only [List.getElem_range]
  have h1 := fun lab s => e_spare n0 n1 n2 n3 n4 n5 n6 G w c k hk ha hG hwal hlen hlen5 hw hc lab s
  have h2 := fun lab s => e_with a k lab s
  by_cases c0 : spareS (⟨⟨n0, n1⟩, ⟨n2, n3⟩, n4, n5, n6⟩ : Net) w c G k < 0
  ·have c1 : stepS (⟨⟨n0, n1⟩, ⟨n2, n3⟩, n4, n5, n6⟩ : Net) w c G a k = orBit a k := by simp [stepS, c0]
   simp (disch := first | omega | assumption | decide +kernel | (simp; done) | (simp; omega) | fail) [hk, h1, h2, c0, c1, wk k (by omega)]
  ·have c1 : stepS (⟨⟨n0, n1⟩, ⟨n2, n3⟩, n4, n5, n6⟩ : Net) w c G a k = a := by simp [stepS, c0]
   simp (disch := first | omega | assumption | decide +kernel | (simp; done) | (simp; omega) | fail) [hk, h1, h2, c0, c1, wk k (by omega)]
 ·intros; trivial
 ·intro a _
  simp
def safeS (n : Net) : Int := if netOk n = true then (if quiet n n.wind.hi n.cur.hi (n.grips.map (·.lo)) = true then 1 else if quiet n n.wind.lo n.cur.lo (n.grips.map (·.hi)) = true then 3 else 2) else 0
@[simp] theorem e_Safe (n0 : Int) (n1 : Int) (n2 : Int) (n3 : Int) (n4 : List Sp) (n5 : List Anc) (n6 : List Wal) (h4 : n4.length < 4611686018427387904) (h5 : n5.length < 4611686018427387904) (h6 : n6.length < 4611686018427387904) (lab s) :
 den T 109 [.agg [i64 n0, i64 n1, i64 n2, i64 n3, .sl .no 2 (es cSp n4), .sl .no 2 (es cAnc n5), .sl .no 5 (es cWal n6)]] lab s = some (.tup [i64 (safeS (⟨⟨n0, n1⟩, ⟨n2, n3⟩, n4, n5, n6⟩ : Net)), i64 (if netOk (⟨⟨n0, n1⟩, ⟨n2, n3⟩, n4, n5, n6⟩ : Net) = true then 0 else 20)], s) := by
 rw [den_fn t109 _ _ _ rfl]
 simp only [b109]
 cases h : netOk (⟨⟨n0, n1⟩, ⟨n2, n3⟩, n4, n5, n6⟩ : Net)
 ·simp (disch := first | omega | assumption | decide +kernel | (simp; done) | (simp; omega) | fail) [h, safeS]
 obtain ⟨a1, a2, a3, a4, a5, a6, a7, a8⟩ := netOk_iff.1 h
 have b1 := spanOk_iff.1 a1
 have b2 := spanOk_iff.1 a2
 simp only at a1 a2 a3 a4 a5 a6 a7 a8 b1 b2
 rw [allB_iff] at a6 a7 a8
 have g1 := fun lab s => e_step n0 n1 n2 n3 n4 n5 n6 (n4.map (·.lo)) n1 n3 (by simpa using a7) (by
  intro x hx
  obtain ⟨y, hy, rfl⟩ := List.mem_map.1 hx
  have := spanOk_iff.1 (a6 y hy); omega) a8 (by omega) a4 (by omega) (by omega) lab s
 have g2 := fun lab s => e_step n0 n1 n2 n3 n4 n5 n6 (n4.map (·.hi)) n0 n2 (by simpa using a7) (by
  intro x hx
  obtain ⟨y, hy, rfl⟩ := List.mem_map.1 hx
  have := spanOk_iff.1 (a6 y hy); omega) a8 (by omega) a4 (by omega) (by omega) lab s
 have z1 := stepS_zero (⟨⟨n0, n1⟩, ⟨n2, n3⟩, n4, n5, n6⟩ : Net) n1 n3 (n4.map (·.lo)) (List.range n5.length) (fun k hk => by have := List.mem_range.1 hk; omega) 0
 have z2 := stepS_zero (⟨⟨n0, n1⟩, ⟨n2, n3⟩, n4, n5, n6⟩ : Net) n0 n2 (n4.map (·.hi)) (List.range n5.length) (fun k hk => by have := List.mem_range.1 hk; omega) 0
 simp only [true_and] at z1 z2
 simp (disch := first | omega | assumption | decide +kernel | (simp; done) | (simp; omega) | fail) [h, a3, g1, g2, safeS]
 by_cases x1 : quiet (⟨⟨n0, n1⟩, ⟨n2, n3⟩, n4, n5, n6⟩ : Net) n1 n3 (n4.map (·.lo)) = true
 ·simp [x1, z1.2 x1]
 ·have y1 := mt z1.1 x1
  by_cases x2 : quiet (⟨⟨n0, n1⟩, ⟨n2, n3⟩, n4, n5, n6⟩ : Net) n0 n2 (n4.map (·.hi)) = true
  ·simp [x1, x2, y1, z2.2 x2]
  ·have y2 := mt z2.1 x2
   simp [x1, x2, y1, y2]
end Go.Proofs.YtekgicoibcgecaaGreat

/-
  lifts.open, need, holds.
-/
namespace Go.Proofs.YtekgicoibcgecaaGreat
open Go.Ab
def partS (n : Sea) (i : Nat) : Sp := match n.places[i]? with
 | some p => ⟨max p.lo (12 - (highSum n.places - p.hi)), min p.hi (12 - (lowSum n.places - p.lo))⟩
 | none => ⟨0, 0⟩
def partK (n : Sea) (k i : Nat) : Sp := if i < k then partS n i else ⟨0, 0⟩
def seaCellK (n : Sea) (k : Nat) : List V := [i64 n.weight.lo, i64 n.weight.hi, .sl .no 2 (es cSp n.places), .sl .no 2 (es cBoat n.boats), i64 (partK n k 0).lo, i64 (partK n k 0).hi, i64 (partK n k 1).lo, i64 (partK n k 1).hi, i64 (partK n k 2).lo, i64 (partK n k 2).hi, i64 (partK n k 3).lo, i64 (partK n k 3).hi]
def seaCell (n : Sea) : List V := [i64 n.weight.lo, i64 n.weight.hi, .sl .no 2 (es cSp n.places), .sl .no 2 (es cBoat n.boats), i64 (partS n 0).lo, i64 (partS n 0).hi, i64 (partS n 1).lo, i64 (partS n 1).hi, i64 (partS n 2).lo, i64 (partS n 2).hi, i64 (partS n 3).lo, i64 (partS n 3).hi]
theorem seaCell_all (n : Sea) (h : n.places.length ≤ 4) : seaCellK n n.places.length = seaCell n := by
 have key : ∀ i, partK n n.places.length i = partS n i := by
  intro i
  unfold partK
  split
  ·rfl
  ·simp [partS, List.getElem?_eq_none (show n.places.length ≤ i by omega)]
 simp only [seaCellK, seaCell, key]
theorem sums_bound {l : List Sp} (h : ∀ x ∈ l, spanOk x 12 = true) : 0 ≤ lowSum l ∧ lowSum l ≤ 12 * l.length ∧ 0 ≤ highSum l ∧ highSum l ≤ 12 * l.length := by
 induction l with
 | nil => simp [lowSum, highSum]
 | cons x r ih =>
   have h1 := ih fun y hy => h y (by simp [hy])
   have h2 := spanOk_iff.1 (h x (by simp))
   simp only [lowSum, highSum, List.map_cons, List.sum_cons, List.length_cons] at h1 ⊢
   omega
theorem e_open05_l0 (n0 : Int) (n1 : Int) (n2 : List Sp) (n3 : List Boat) (s : Stk) (hl : n2.length ≤ 4) (hp : ∀ x ∈ n2, spanOk x 12 = true) :
 Run T b127l0 [(2, .ptr s.length 32 0), (7, .ptr s.length 368 0), (8, i64 0), (9, i64 0), (25, .sl .no 2 (es cSp n2)), (26, i64 n2.length), (27, i64 0)] ([(32, .cell [i64 n0, i64 n1, .sl .no 2 (es cSp n2), .sl .no 2 (es cBoat n3)]), (368, .cell [i64 n0, i64 n1, .sl .no 2 (es cSp n2), .sl .no 2 (es cBoat n3), i64 0, i64 0, i64 0, i64 0, i64 0, i64 0, i64 0, i64 0])] :: s) =
  some (.exit 0, [(2, .ptr s.length 32 0), (7, .ptr s.length 368 0), (8, i64 (lowSum n2)), (9, i64 (highSum n2)), (25, .sl .no 2 (es cSp n2)), (26, i64 n2.length), (27, i64 n2.length), (28, .bool false)], [(32, .cell [i64 n0, i64 n1, .sl .no 2 (es cSp n2), .sl .no 2 (es cBoat n3)]), (368, .cell [i64 n0, i64 n1, .sl .no 2 (es cSp n2), .sl .no 2 (es cBoat n3), i64 0, i64 0, i64 0, i64 0, i64 0, i64 0, i64 0, i64 0])] :: s) := by
 have key := loop_fold (T := T) (live := [2, 7, 8, 9, 25, 26, 27]) (keep := [32, 208, 240, 368]) (b := d127l0) n2 (fun k (a : Int × Int) => 0 ≤ a.1 ∧ a.1 ≤ 12 * k ∧ 0 ≤ a.2 ∧ a.2 ≤ 12 * k) (fun a x => (a.1 + x.lo, a.2 + x.hi))
  (fun k a => [(2, .ptr s.length 32 0), (7, .ptr s.length 368 0), (8, i64 a.1), (9, i64 a.2), (25, .sl .no 2 (es cSp n2)), (26, i64 n2.length), (27, i64 k)]) (fun _ _ => [(32, .cell [i64 n0, i64 n1, .sl .no 2 (es cSp n2), .sl .no 2 (es cBoat n3)]), (368, .cell [i64 n0, i64 n1, .sl .no 2 (es cSp n2), .sl .no 2 (es cBoat n3), i64 0, i64 0, i64 0, i64 0, i64 0, i64 0, i64 0, i64 0])] :: s)
  (fun a => (.exit 0, [(2, .ptr s.length 32 0), (7, .ptr s.length 368 0), (8, i64 a.1), (9, i64 a.2), (25, .sl .no 2 (es cSp n2)), (26, i64 n2.length), (27, i64 n2.length), (28, .bool false)], [(32, .cell [i64 n0, i64 n1, .sl .no 2 (es cSp n2), .sl .no 2 (es cBoat n3)]), (368, .cell [i64 n0, i64 n1, .sl .no 2 (es cSp n2), .sl .no 2 (es cBoat n3), i64 0, i64 0, i64 0, i64 0, i64 0, i64 0, i64 0, i64 0])] :: s))
  (by simp) ?_ ?_ ?_ (0, 0) (by simp) [(2, .ptr s.length 32 0), (7, .ptr s.length 368 0), (8, i64 0), (9, i64 0), (25, .sl .no 2 (es cSp n2)), (26, i64 n2.length), (27, i64 0)] ([(32, .cell [i64 n0, i64 n1, .sl .no 2 (es cSp n2), .sl .no 2 (es cBoat n3)]), (368, .cell [i64 n0, i64 n1, .sl .no 2 (es cSp n2), .sl .no 2 (es cBoat n3), i64 0, i64 0, i64 0, i64 0, i64 0, i64 0, i64 0, i64 0])] :: s) (by simp) (by simp)
 ·have e : ∀ (l : List Sp) (a : Int × Int), l.foldl (fun a x => (a.1 + x.lo, a.2 + x.hi)) a = (a.1 + lowSum l, a.2 + highSum l) := by
   intro l
   induction l with
   | nil => intro a; simp [lowSum, highSum]
   | cons x r ih => intro a; simp [ih, lowSum, highSum, Int.add_assoc]
  rw [e] at key
  simp only [Int.zero_add] at key
  exact key
 ·intro k a hk hi
  have h1 := spanOk_iff.1 (hp n2[k] (List.getElem_mem hk))
  simp (disch := first | omega | assumption | decide +kernel | (simp; done) | (simp; omega) | fail) [hk, wk k (by omega), wi]
 ·intro k a hk hi
  have h1 := spanOk_iff.1 (hp n2[k] (List.getElem_mem hk))
  simp only; omega
 ·intro a hi
  simp
theorem part_bound {n : Sea} (h : seaOk n = true) (i : Nat) : 0 ≤ (partS n i).lo ∧ (partS n i).lo ≤ 12 ∧ 0 ≤ (partS n i).hi ∧ (partS n i).hi ≤ 12 := by
 obtain ⟨⟨⟨⟨⟨⟨h1, h2⟩, h3⟩, h4⟩, h5⟩, h6⟩, h7⟩ : ((((((spanOk n.weight 2000 = true ∧ (n.places.length : Int) ≤ 4) ∧ (n.boats.length : Int) ≤ 6) ∧ allB (spanOk · 12) n.places = true) ∧ allB boatOk n.boats = true) ∧ lowSum n.places ≤ 12) ∧ 12 ≤ highSum n.places) := by simpa only [seaOk, Bool.and_eq_true, decide_eq_true_eq] using h
 unfold partS
 split
 ·rename_i p hp
  have := spanOk_iff.1 (allB_iff.1 h4 p (List.mem_of_getElem? hp))
  simp only; omega
 ·simp
theorem seaOk_iff {n : Sea} : seaOk n = true ↔ spanOk n.weight 2000 = true ∧ n.places.length ≤ 4 ∧ n.boats.length ≤ 6 ∧ (∀ x ∈ n.places, spanOk x 12 = true) ∧ (∀ x ∈ n.boats, boatOk x = true) ∧ lowSum n.places ≤ 12 ∧ 12 ≤ highSum n.places := by
 simp only [seaOk, Bool.and_eq_true, decide_eq_true_eq, allB_iff, and_assoc]
 constructor
 ·rintro ⟨h1, h2, h3, h4⟩; exact ⟨h1, by omega, by omega, h4⟩
 ·rintro ⟨h1, h2, h3, h4⟩; exact ⟨h1, by omega, by omega, h4⟩
theorem e_open05_l1 (n0 : Int) (n1 : Int) (n2 : List Sp) (n3 : List Boat) (s : Stk) (hl : n2.length ≤ 4) (hp : ∀ x ∈ n2, spanOk x 12 = true) :
 Run T b127l1 [(7, .ptr s.length 368 0), (8, i64 (lowSum n2)), (9, i64 (highSum n2)), (41, .sl .no 2 (es cSp n2)), (42, i64 n2.length), (43, i64 0)] ([(32, .cell [i64 n0, i64 n1, .sl .no 2 (es cSp n2), .sl .no 2 (es cBoat n3)]), (368, .cell (seaCellK (⟨⟨n0, n1⟩, n2, n3⟩ : Sea) 0))] :: s) =
  some (.exit 2, [(7, .ptr s.length 368 0), (8, i64 (lowSum n2)), (9, i64 (highSum n2)), (41, .sl .no 2 (es cSp n2)), (42, i64 n2.length), (43, i64 n2.length), (44, .bool false)], [(32, .cell [i64 n0, i64 n1, .sl .no 2 (es cSp n2), .sl .no 2 (es cBoat n3)]), (368, .cell (seaCellK (⟨⟨n0, n1⟩, n2, n3⟩ : Sea) n2.length))] :: s) := by
 have key := loop_fold (T := T) (live := [7, 8, 9, 41, 42, 43]) (keep := [32, 176, 240, 368]) (b := d127l1) n2 (fun _ (_ : Unit) => True) (fun a _ => a)
  (fun k _ => [(7, .ptr s.length 368 0), (8, i64 (lowSum n2)), (9, i64 (highSum n2)), (41, .sl .no 2 (es cSp n2)), (42, i64 n2.length), (43, i64 k)]) (fun k _ => [(32, .cell [i64 n0, i64 n1, .sl .no 2 (es cSp n2), .sl .no 2 (es cBoat n3)]), (368, .cell (seaCellK (⟨⟨n0, n1⟩, n2, n3⟩ : Sea) k))] :: s)
  (fun _ => (.exit 2, [(7, .ptr s.length 368 0), (8, i64 (lowSum n2)), (9, i64 (highSum n2)), (41, .sl .no 2 (es cSp n2)), (42, i64 n2.length), (43, i64 n2.length), (44, .bool false)], [(32, .cell [i64 n0, i64 n1, .sl .no 2 (es cSp n2), .sl .no 2 (es cBoat n3)]), (368, .cell (seaCellK (⟨⟨n0, n1⟩, n2, n3⟩ : Sea) n2.length))] :: s))
  (by simp) ?_ (by simp) ?_ () trivial [(7, .ptr s.length 368 0), (8, i64 (lowSum n2)), (9, i64 (highSum n2)), (41, .sl .no 2 (es cSp n2)), (42, i64 n2.length), (43, i64 0)] ([(32, .cell [i64 n0, i64 n1, .sl .no 2 (es cSp n2), .sl .no 2 (es cBoat n3)]), (368, .cell (seaCellK (⟨⟨n0, n1⟩, n2, n3⟩ : Sea) 0))] :: s) (by simp) (by simp [seaCellK])
 ·exact key
 ·intro k a hk _
  have h1 := spanOk_iff.1 (hp n2[k] (List.getElem_mem hk))
  have h2 := sums_bound hp
  have hpk : partS (⟨⟨n0, n1⟩, n2, n3⟩ : Sea) k = ⟨max n2[k].lo (12 - (highSum n2 - n2[k].hi)), min n2[k].hi (12 - (lowSum n2 - n2[k].lo))⟩ := by simp [partS, hk]
  obtain rfl | rfl | rfl | rfl : k = 0 ∨ k = 1 ∨ k = 2 ∨ k = 3 := by omega
  all_goals (simp (disch := first | omega | assumption | decide +kernel | (simp; done) | (simp; omega) | fail) [hk, wi, seaCellK, partK, hpk] <;> omega)
 ·intro a hi
  simp [seaCellK]
theorem e_open05 (n0 : Int) (n1 : Int) (n2 : List Sp) (n3 : List Boat) (hok : seaOk (⟨⟨n0, n1⟩, n2, n3⟩ : Sea) = true) (lab) (loc : Ab.Loc) (s : Stk) (k0 : loc.get lab = none) :
 den T 127 [.agg [i64 n0, i64 n1, .sl .no 2 (es cSp n2), .sl .no 2 (es cBoat n3)], .bool true] lab (loc :: s) = some (.tup [.ptr s.length lab 0, i64 0], loc.put lab (.cell (seaCell (⟨⟨n0, n1⟩, n2, n3⟩ : Sea))) :: s) := by
 obtain ⟨h1, h2, h3, h4, h5, h6, h7⟩ := seaOk_iff.1 hok
 simp only at h1 h2 h3 h4 h5 h6 h7
 have g0 := e_open05_l0 n0 n1 n2 n3 (loc :: s) h2 h4
 have g1 := e_open05_l1 n0 n1 n2 n3 (loc :: s) h2 h4
 rw [seaCell_all (⟨⟨n0, n1⟩, n2, n3⟩ : Sea) h2] at g1
 simp only [seaCellK, partK, Nat.not_lt_zero, if_false, List.length_cons] at g0 g1
 rw [den_fn t127 _ _ _ rfl]
 simp only [b127]
 simp (disch := first | omega | assumption | decide +kernel | (simp; done) | (simp; omega) | fail) [hok, g0, g1, k0, seaCell]
theorem e_open05_bad (n0 : Int) (n1 : Int) (n2 : List Sp) (n3 : List Boat) (hok : seaOk (⟨⟨n0, n1⟩, n2, n3⟩ : Sea) = false) (lab) (loc : Ab.Loc) (s : Stk) :
 den T 127 [.agg [i64 n0, i64 n1, .sl .no 2 (es cSp n2), .sl .no 2 (es cBoat n3)], .bool true] lab (loc :: s) = some (.tup [.nilp, i64 50], loc :: s) := by
 rw [den_fn t127 _ _ _ rfl]
 simp only [b127]
 simp (disch := first | omega | assumption | decide +kernel | (simp; done) | (simp; omega) | fail) [hok]
def needS (n : Sea) (i : Nat) : Int := (n.weight.hi * (partS n i).hi + 11) / 12
theorem e_need (n : Sea) (hok : seaOk n = true) (k : Nat) (hk : k < 4) (d l : Nat) (S : Stk) (hd : d < S.length) (h : sget S d l = some (.cell (seaCell n))) (lab) :
 den T 165 [.ptr d l 0, i64 k] lab S = some (i64 (needS n k), S) := by
 obtain ⟨h1, h2, h3, h4, h5, h6, h7⟩ := seaOk_iff.1 hok
 have hw := spanOk_iff.1 h1
 have hp := part_bound hok k
 have hd' : ¬ d = S.length := by omega
 have hm := mulb (a := n.weight.hi) (A := 2000) (w := (partS n k).hi) (W := 12) (by omega) (by omega) (by omega) (by omega)
 have hq : IntKind.i64.wrap ((n.weight.hi * (partS n k).hi + 11).tdiv 12) = needS n k := IntWalk.i64_quo _ _ ⟨by omega, by omega, by omega⟩
 have e1 : n.weight.hi * (partS n k).hi + 12 - 1 = n.weight.hi * (partS n k).hi + 11 := by omega
 rw [den_fn t165 _ _ _ rfl]
 simp only [b165]
 obtain rfl | rfl | rfl | rfl : k = 0 ∨ k = 1 ∨ k = 2 ∨ k = 3 := by omega
 all_goals simp (disch := first | omega | assumption | decide +kernel | (simp; done) | (simp; omega) | fail) [h, hd', seaCell, wi, e1, hq]
end Go.Proofs.YtekgicoibcgecaaGreat

/-
  lifts: crews.
-/
namespace Go.Proofs.YtekgicoibcgecaaGreat
open Go.Ab
theorem e_Index_l (l : List Int) (n : Int) (S : Stk) (hl : l.length < 4611686018427387904) :
 ∃ g : Nat, Run T b135l0 [(0, .sl .no 1 (es cInt l)), (1, i64 n), (7, i64 l.length), (8, i64 0)] ([] :: S) =
  if allB (fun x => !decide (x = n)) l = true then some (.exit 0, [(0, .sl .no 1 (es cInt l)), (1, i64 n), (7, i64 l.length), (8, i64 l.length), (9, .bool false)], [] :: S) else some (.ret, [(4, i64 (g : Nat))], [] :: S) := by
 refine loop_all_g l (fun x => !decide (x = n)) (fun k => [(0, .sl .no 1 (es cInt l)), (1, i64 n), (7, i64 l.length), (8, i64 k)]) (fun _ => [] :: S) (fun g : Nat => (.ret, [(4, i64 (g : Nat))], [] :: S)) _ (by simp) (by simp) ?_ (by simp) _ _ (by simp) (by simp)
 intro k hk
 refine ⟨k, ?_⟩
 by_cases h : l[k] = n
 ·have h' : n = l[k] := h.symm
  simp (disch := first | omega | assumption | decide +kernel | (simp; done) | (simp; omega) | fail) [hk, h, wk k (by omega)]
 ·have h' : ¬ n = l[k] := fun e => h e.symm
  simp (disch := first | omega | assumption | decide +kernel | (simp; done) | (simp; omega) | fail) [hk, h, h', wk k (by omega)]
@[simp] theorem e_Contains (l : List Int) (n : Int) (S : Stk) (hl : l.length < 4611686018427387904) (lab) :
 den T 115 [.sl .no 1 (es cInt l), i64 n] lab S = some (.bool (anyB (fun x => decide (x = n)) l), S) := by
 have ha : anyB (fun x => decide (x = n)) l = !allB (fun x => !decide (x = n)) l := by simp only [anyB, allB, List.not_all_eq_any_not, Bool.not_not]
 have hi : ∃ r : Int, (∀ lab S', S' = [] :: S → den T 135 [.sl .no 1 (es cInt l), i64 n] lab S' = some (i64 r, S')) ∧ (0 ≤ r ↔ anyB (fun x => decide (x = n)) l = true) := by
  obtain ⟨g, hg⟩ := e_Index_l l n ([] :: S) hl
  rw [ha]
  refine ⟨if allB (fun x => !decide (x = n)) l = true then -1 else g, ?_, ?_⟩
  rotate_left
  ·cases allB (fun x => !decide (x = n)) l <;> simp
  intro lab S' hS
  subst hS
  rw [den_fn t135 _ _ _ rfl]
  simp only [b135]
  cases h : allB (fun x => !decide (x = n)) l <;> simp (disch := first | omega | assumption | decide +kernel | (simp; done) | (simp; omega) | fail) [hg, h]
 obtain ⟨r, hr, hi⟩ := hi
 have hr' := fun lab => hr lab _ rfl
 rw [den_fn t115 _ _ _ rfl]
 simp only [b115]
 by_cases h : 0 ≤ r
 ·have := hi.1 h
  simp (disch := first | omega | assumption | decide +kernel | (simp; done) | (simp; omega) | fail) [hr', h, this]
 ·have : anyB (fun x => decide (x = n)) l = false := by cases hx : anyB (fun x => decide (x = n)) l; rfl; exact absurd (hi.2 hx) h
  simp (disch := first | omega | assumption | decide +kernel | (simp; done) | (simp; omega) | fail) [hr', h, this]
def crewsFrom (nb : Nat) : Nat → List Int → List (List Int)
 | 0, c => [c]
 | r + 1, c => (List.range nb).flatMap fun (b : Nat) => if anyB (fun x => decide (x = (b : Int))) c = true then [] else crewsFrom nb r (c ++ [(b : Int)])
structure Yield05 (n : Sea) (σ : Type) (d l ds ls D : Nat) (St : σ → Stk) (Y : σ → List Int → σ × Bool) : Prop where
 len : ∀ a, (St a).length = D
 lt : ds < D
 ltd : d < D
 sea : ∀ a, sget (St a) ds ls = some (.cell (seaCell n))
 yield : ∀ (fr : Stk) a c lab, (∀ x : Int, x ∈ c → 0 ≤ x ∧ x < (n.boats.length : Int)) → c.length = n.places.length → denV T (.yld d l) [.sl .no 1 (es cInt c)] lab (fr ++ St a) = some (.bool (Y a c).2, fr ++ St (Y a c).1)
def crewsFrame (ds ls d l D : Nat) : Ab.Loc := [(32, .cell [.ptr ds ls 0]), (48, .cell [.yld d l]), (64, .cell [.fn 164 [] [.ptr D 32 0, .ptr D 48 0, .ptr D 64 0]])]
theorem sget_append (d l : Nat) : ∀ (fr S : Stk), d < S.length → sget (fr ++ S) d l = sget S d l
 | [], _, _ => rfl
 | x :: fr, S, h => by
   rw [List.cons_append, sget_cons, if_neg (by simp; omega)]
   exact sget_append d l fr S h
set_option maxHeartbeats 4000000 in
theorem e_from05 (n : Sea) (hb : n.boats.length ≤ 6) (hm : n.places.length ≤ 4) {σ : Type} {d l ds ls D : Nat} {St : σ → Stk} {Y : σ → List Int → σ × Bool} (y : Yield05 n σ d l ds ls D St Y) :
 ∀ (r : Nat) (c : List Int), c.length + r = n.places.length → (∀ x : Int, x ∈ c → 0 ≤ x ∧ x < (n.boats.length : Int)) → ∀ (fr : Stk) (a : σ) (lab : Nat),
  den T 164 [.sl .no 1 (es cInt c), .ptr D 32 0, .ptr D 48 0, .ptr D 64 0] lab (fr ++ crewsFrame ds ls d l D :: St a) =
   some (.bool (foldB Y (crewsFrom n.boats.length r c) a).2, fr ++ crewsFrame ds ls d l D :: St (foldB Y (crewsFrom n.boats.length r c) a).1) := by
 have facts : ∀ (fr : Stk) (a : σ), sget (fr ++ crewsFrame ds ls d l D :: St a) D 32 = some (.cell [.ptr ds ls 0]) ∧ sget (fr ++ crewsFrame ds ls d l D :: St a) D 48 = some (.cell [.yld d l]) ∧
  sget (fr ++ crewsFrame ds ls d l D :: St a) D 64 = some (.cell [.fn 164 [] [.ptr D 32 0, .ptr D 48 0, .ptr D 64 0]]) ∧ sget (fr ++ crewsFrame ds ls d l D :: St a) ds ls = some (.cell (seaCell n)) ∧
  (¬ D = (fr ++ crewsFrame ds ls d l D :: St a).length) ∧ (¬ ds = (fr ++ crewsFrame ds ls d l D :: St a).length) ∧ (¬ d = (fr ++ crewsFrame ds ls d l D :: St a).length) := by
  intro fr a
  have hl := y.len a
  have hlt := y.lt
  have hltd := y.ltd
  have g : ∀ l', sget (fr ++ crewsFrame ds ls d l D :: St a) D l' = (crewsFrame ds ls d l D).get l' := fun l' => by
   rw [sget_append _ _ _ _ (by simp only [List.length_cons]; omega), ← hl, sget_top]
  refine ⟨by rw [g]; rfl, by rw [g]; rfl, by rw [g]; rfl, ?_, ?_, ?_, ?_⟩
  ·rw [show fr ++ crewsFrame ds ls d l D :: St a = (fr ++ [crewsFrame ds ls d l D]) ++ St a by simp, sget_append _ _ _ _ (by omega), y.sea]
  all_goals simp only [List.length_append, List.length_cons]; omega
 intro r
 induction r with
 | zero =>
   intro c hr hc fr a lab
   obtain ⟨h32, h48, h64, hsea, hD, hds, hd⟩ := facts fr a
   have hy := y.yield ([] :: (fr ++ [crewsFrame ds ls d l D])) a c
   simp only [List.cons_append, List.append_assoc, List.nil_append] at hy
   have hy2 := fun lab => hy lab hc (by omega)
   have e : foldB Y (crewsFrom n.boats.length 0 c) a = Y a c := by
    simp only [crewsFrom, foldB]
    split
    ·rename_i h; exact Prod.ext rfl h.symm
    ·rfl
   rw [e]
   generalize fr ++ crewsFrame ds ls d l D :: St a = X at *
   generalize fr ++ crewsFrame ds ls d l D :: St (Y a c).1 = X' at *
   have hcl : (c.length : Int) = n.places.length := by omega
   rw [den_fn t164 _ _ _ rfl]
   simp only [b164]
   simp (disch := first | omega | assumption | decide +kernel | (simp; done) | (simp; omega) | fail) [h32, h48, hsea, hD, hds, hd, hy2, seaCell, hcl]
 | succ r ih =>
   intro c hr hc fr a lab
   obtain ⟨X, hX⟩ : ∃ X : σ → Stk, ∀ a, fr ++ crewsFrame ds ls d l D :: St a = X a := ⟨_, fun _ => rfl⟩
   have fx : ∀ a, sget (X a) D 32 = some (.cell [.ptr ds ls 0]) ∧ sget (X a) D 48 = some (.cell [.yld d l]) ∧ sget (X a) D 64 = some (.cell [.fn 164 [] [.ptr D 32 0, .ptr D 48 0, .ptr D 64 0]]) ∧ sget (X a) ds ls = some (.cell (seaCell n)) ∧ (¬ D = (X a).length) ∧ (¬ ds = (X a).length) ∧ (¬ d = (X a).length) := fun a => by
    have := facts fr a; rw [hX] at this; exact this
   rw [hX, hX]
   have hne : ¬ (c.length : Int) = n.places.length := by omega
   have key := fun a0 => loop_list_e (T := T) (live := [0, 3, 24, 25]) (keep := [288]) (b := d164l0) (List.range n.boats.length) (fun _ (_ : σ) => True)
    (fun k _ => [(0, .sl .no 1 (es cInt c)), (3, .ptr D 64 0), (24, i64 n.boats.length), (25, i64 k)]) (fun _ a => [] :: X a)
    (fun a (b : Nat) => foldB Y (if anyB (fun x => decide (x = (b : Int))) c = true then [] else crewsFrom n.boats.length r (c ++ [(b : Int)])) a)
    (fun (g : Ab.Loc) a => (.ret, [(5, .bool false)], g :: X a)) (fun a => (.exit 0, [(0, .sl .no 1 (es cInt c)), (3, .ptr D 64 0), (24, i64 n.boats.length), (25, i64 n.boats.length), (26, .bool false)], [] :: X a))
    (by simp) (by simp) ?_ ?_ a0 trivial [(0, .sl .no 1 (es cInt c)), (3, .ptr D 64 0), (24, i64 n.boats.length), (25, i64 0)] ([] :: X a0) (by simp [(fx a0).2.2.2.2.1]) (by simp)
   ·obtain ⟨g, hg⟩ := key a
    change Run T b164l0 _ _ = _ at hg
    have e : foldB Y (crewsFrom n.boats.length (r + 1) c) a = foldB (fun a (b : Nat) => foldB Y (if anyB (fun x => decide (x = (b : Int))) c = true then [] else crewsFrom n.boats.length r (c ++ [(b : Int)])) a) (List.range n.boats.length) a := by
     rw [crewsFrom, foldB_flatMap]
    rw [e]
    generalize foldB (fun a (b : Nat) => foldB Y (if anyB (fun x => decide (x = (b : Int))) c = true then [] else crewsFrom n.boats.length r (c ++ [(b : Int)])) a) (List.range n.boats.length) a = q at hg
    obtain ⟨a', bb⟩ := q
    obtain ⟨h32, h48, h64, hsea, hD, hds, hd⟩ := fx a
    rw [den_fn t164 _ _ _ rfl]
    simp only [b164]
    cases bb
    ·simp (disch := first | omega | assumption | decide +kernel | (simp; done) | (simp; omega) | fail) [h32, h48, h64, hsea, hD, hds, hd, seaCell, hne, hg]
    ·simp (disch := first | omega | assumption | decide +kernel | (simp; done) | (simp; omega) | fail) [h32, h48, h64, hsea, hD, hds, hd, seaCell, hne, hg]
   ·intro k a hk _
    simp only [List.length_range] at hk
    simp only [List.getElem_range]
    obtain ⟨h32, h48, h64, hsea, hD, hds, hd⟩ := fx a
    have hcl : c.length < 10 := by omega
    cases hin : anyB (fun x => decide (x = (k : Int))) c
    rotate_left
    ·refine ⟨fun _ => ⟨?_, trivial⟩, fun h => by simp [foldB] at h⟩
     simp (maxSteps := 1000000) (disch := first | omega | assumption | decide +kernel | (simp; done) | (simp; omega) | fail) [run_drawnK, hin, hD, hk, foldB, wk k (by omega)]
    ·have h1 := fun lab => ih (c ++ [(k : Int)]) (by simp; omega) (fun x hx => by
      rcases List.mem_append.1 hx with h | h
      ·exact hc x h
      ·simp at h; omega) ([(672, .tok (c.length + 1))] :: fr) a lab
     simp only [List.cons_append] at h1
     rw [hX, hX] at h1
     simp only [hin, Bool.false_eq_true, if_false]
     generalize foldB Y (crewsFrom n.boats.length r (c ++ [(k : Int)])) a = q at h1
     obtain ⟨a', bb⟩ := q
     refine ⟨fun hb => ⟨?_, trivial⟩, fun hb => ⟨[(672, .tok (c.length + 1))], ?_⟩⟩
     ·simp only at hb
      subst hb
      simp (maxSteps := 1000000) (disch := first | omega | assumption | decide +kernel | (simp; done) | (simp; omega) | fail) [run_drawnK, hin, hD, hds, h64, hk, appD_full1, denV_fn, h1, (fx a').2.2.2.2.1, wk k (by omega)]
     ·simp only at hb
      subst hb
      simp (maxSteps := 1000000) (disch := first | omega | assumption | decide +kernel | (simp; done) | (simp; omega) | fail) [run_drawnK, hin, hD, hds, h64, hk, appD_full1, denV_fn, h1, (fx a').2.2.2.2.1]
   ·intro a _
    obtain ⟨h32, h48, h64, hsea, hD, hds, hd⟩ := fx a
    simp
end Go.Proofs.YtekgicoibcgecaaGreat

/-
  lifts.Cheap.
-/
namespace Go.Proofs.YtekgicoibcgecaaGreat
open Go.Ab
def boatAt (n : Sea) (b : Int) : Boat := n.boats.getD b.toNat default
def holdsAt (n : Sea) (c : List Int) (i : Nat) : Bool := decide (needS n i ≤ (boatAt n (c.getD i 0)).carry)
def holdsS (n : Sea) (c : List Int) : Bool := allB (holdsAt n c) (List.range c.length)
theorem e_holds05 (n : Sea) (hok : seaOk n = true) (c : List Int) (hc : ∀ x : Int, x ∈ c → 0 ≤ x ∧ x < (n.boats.length : Int)) (hcl : c.length ≤ 4) (d l : Nat) (S : Stk) (hd : d < S.length) (h : sget S d l = some (.cell (seaCell n))) (lab) :
 den T 152 [.ptr d l 0, .sl .no 1 (es cInt c)] lab S = some (.bool (holdsS n c), S) := by
 have hd' : ¬ d = S.length := by omega
 have key : Run T b152l0 [(0, .ptr d l 0), (7, .sl .no 1 (es cInt c)), (8, i64 c.length), (9, i64 0)] ([] :: S) =
  if allB (holdsAt n c) (List.range c.length) = true then some (.exit 0, [(0, .ptr d l 0), (7, .sl .no 1 (es cInt c)), (8, i64 c.length), (9, i64 c.length), (10, .bool false)], [] :: S) else some (.ret, [(4, .bool false)], [] :: S) := by
  refine loop_all (List.range c.length) (holdsAt n c) (fun k => [(0, .ptr d l 0), (7, .sl .no 1 (es cInt c)), (8, i64 c.length), (9, i64 k)]) (fun _ => [] :: S) _ _ (by simp) (by simp) ?_ (by simp) _ _ (by simp [hd']) (by simp)
  intro k hk
  simp only [List.length_range] at hk
  simp only [List.getElem_range]
  obtain ⟨h1, h2⟩ := hc c[k] (List.getElem_mem hk)
  have h3 : c[k].toNat < n.boats.length := by omega
  have hn := fun lab => e_need n hok k (by omega) d l ([] :: S) (by simp; omega) (by rw [sget_cons, if_neg hd', h]) lab
  have hat : holdsAt n c k = decide (needS n k ≤ n.boats[c[k].toNat].carry) := by simp [holdsAt, boatAt, hk, h3]
  rw [hat]
  by_cases h4 : n.boats[c[k].toNat].carry < needS n k
  ·have h5 : ¬ needS n k ≤ n.boats[c[k].toNat].carry := by omega
   simp (disch := first | omega | assumption | decide +kernel | (simp; done) | (simp; omega) | fail) [hk, h, hd', h1, h3, hn, h4, h5, seaCell]
  ·have h5 : needS n k ≤ n.boats[c[k].toNat].carry := by omega
   simp (disch := first | omega | assumption | decide +kernel | (simp; done) | (simp; omega) | fail) [hk, h, hd', h1, h3, hn, h4, h5, seaCell, wk k (by omega)]
 rw [den_fn t152 _ _ _ rfl]
 simp only [b152]
 cases hx : allB (holdsAt n c) (List.range c.length)
 ·simp (disch := first | omega | assumption | decide +kernel | (simp; done) | (simp; omega) | fail) [key, hx, holdsS, hd']
 ·simp (disch := first | omega | assumption | decide +kernel | (simp; done) | (simp; omega) | fail) [key, hx, holdsS, hd']
theorem e_crews05 (n : Sea) (hb : n.boats.length ≤ 6) (hm : n.places.length ≤ 4) {σ : Type} {d l ds ls D : Nat} {St : σ → Stk} {Y : σ → List Int → σ × Bool} (y : Yield05 n σ d l ds ls D St Y) (a : σ) (lab) :
 den T 151 [.ptr ds ls 0, .yld d l] lab (St a) = some (.tup [], St (foldB Y (crewsFrom n.boats.length n.places.length []) a).1) := by
 have h := fun lab => e_from05 n hb hm y n.places.length [] (by simp) (by simp) [] a lab
 have hl := y.len a
 have hds : ¬ ds = (St a).length := by have := y.lt; omega
 have hd : ¬ d = (St a).length := by have := y.ltd; omega
 simp only [es_nil, List.nil_append, ← hl, crewsFrame] at h
 rw [den_fn t151 _ _ _ rfl]
 simp only [b151]
 simp (disch := first | omega | assumption | decide +kernel | (simp; done) | (simp; omega) | fail) [denV_fn, h, hds, hd]
def costS (n : Sea) (c : List Int) : Int := c.foldl (fun a b => a + (boatAt n b).pence) 0
def cheapY (n : Sea) (a : Option (List Int) × Int) (c : List Int) : Option (List Int) × Int := if holdsS n c = true then (if a.2 < 0 ∨ costS n c < a.2 then (some c, costS n c) else a) else a
def crewV : Option (List Int) → V
 | none => .sl .full 1 []
 | some c => .sl .no 1 (es cInt c)
theorem cost_l (n : Sea) (hok : seaOk n = true) (c : List Int) (hc : ∀ x : Int, x ∈ c → 0 ≤ x ∧ x < (n.boats.length : Int)) (hcl : c.length ≤ 4) (d ds ls : Nat) (X : Stk) (hd : ¬ d = X.length) (hds : ¬ ds = X.length) (h16 : sget X d 16 = some (.cell [.ptr ds ls 0])) (hsea : sget X ds ls = some (.cell (seaCell n))) :
 Run T b128l0 [(1, .ptr d 16 0), (2, .ptr d 32 0), (3, .ptr d 48 0), (4, .sl .no 1 (es cInt c)), (5, i64 0), (15, .sl .no 1 (es cInt c)), (16, i64 c.length), (17, i64 0)] ([] :: X) =
  some (.exit 2, [(1, .ptr d 16 0), (2, .ptr d 32 0), (3, .ptr d 48 0), (4, .sl .no 1 (es cInt c)), (5, i64 (costS n c)), (15, .sl .no 1 (es cInt c)), (16, i64 c.length), (17, i64 c.length), (18, .bool false)], [] :: X) := by
 refine loop_fold c (fun k (a : Int) => 0 ≤ a ∧ a ≤ 99 * k) (fun (a : Int) b => a + (boatAt n b).pence) (fun k a => [(1, .ptr d 16 0), (2, .ptr d 32 0), (3, .ptr d 48 0), (4, .sl .no 1 (es cInt c)), (5, i64 a), (15, .sl .no 1 (es cInt c)), (16, i64 c.length), (17, i64 k)]) (fun _ _ => [] :: X)
  (fun a => (.exit 2, [(1, .ptr d 16 0), (2, .ptr d 32 0), (3, .ptr d 48 0), (4, .sl .no 1 (es cInt c)), (5, i64 a), (15, .sl .no 1 (es cInt c)), (16, i64 c.length), (17, i64 c.length), (18, .bool false)], [] :: X)) (by simp) ?_ ?_ ?_ 0 (by simp) _ _ (by simp [hd]) (by simp)
 ·intro k a hk hi
  obtain ⟨h1, h2⟩ := hc c[k] (List.getElem_mem hk)
  have h3 : c[k].toNat < n.boats.length := by omega
  have hb : boatAt n c[k] = n.boats[c[k].toNat] := by simp [boatAt, h3]
  have hp : 0 ≤ n.boats[c[k].toNat].pence ∧ n.boats[c[k].toNat].pence ≤ 99 := by
   have := (seaOk_iff.1 hok).2.2.2.2.1 _ (List.getElem_mem h3)
   simp only [boatOk, Bool.and_eq_true, within_iff] at this; exact this.2
  rw [hb]
  simp (disch := first | omega | assumption | decide +kernel | (simp; done) | (simp; omega) | fail) [hk, hd, hds, h16, hsea, h1, h3, seaCell, wi, wk k (by omega)]
 ·intro k a hk hi
  obtain ⟨h1, h2⟩ := hc c[k] (List.getElem_mem hk)
  have h3 : c[k].toNat < n.boats.length := by omega
  have hb : boatAt n c[k] = n.boats[c[k].toNat] := by simp [boatAt, h3]
  have hp : 0 ≤ n.boats[c[k].toNat].pence ∧ n.boats[c[k].toNat].pence ≤ 99 := by
   have := (seaOk_iff.1 hok).2.2.2.2.1 _ (List.getElem_mem h3)
   simp only [boatOk, Bool.and_eq_true, within_iff] at this; exact this.2
  rw [hb]; omega
 ·intro a hi
  simp [hd]
def cheapEnv (d ds ls : Nat) : Env := [(1, .ptr d 16 0), (2, .ptr d 32 0), (3, .ptr d 48 0), (9, .fn 151 [.ptr ds ls 0] [])]
def cheapF (d ds ls : Nat) (x : LoopState) (a : Option (List Int) × Int) : Ab.Loc := [(16, .cell [.ptr ds ls 0]), (32, .cell [crewV a.1]), (48, .cell [i64 a.2]), (32775, .loop [10] b128l1 b128l2 (cheapEnv d ds ls) x none)]
theorem cheap_body (n : Sea) (hok : seaOk n = true) (c : List Int) (hc : ∀ x : Int, x ∈ c → 0 ≤ x ∧ x < (n.boats.length : Int)) (hcl : c.length ≤ 4) (d ds ls : Nat) (X : Option (List Int) × Int → Stk) (hd : ∀ a, ¬ d = (X a).length) (hds : ∀ a, ds < (X a).length) (h16 : ∀ a, sget (X a) d 16 = some (.cell [.ptr ds ls 0])) (hsea : ∀ a, sget (X a) ds ls = some (.cell (seaCell n)))
 (h32 : ∀ a, sget (X a) d 32 = some (.cell [crewV a.1])) (h48 : ∀ a, sget (X a) d 48 = some (.cell [i64 a.2])) (p32 : ∀ a c, sput (X a) d 32 (.cell [.sl .no 1 (es cInt c)]) = X (some c, a.2)) (p48 : ∀ a m, sput (X a) d 48 (.cell [i64 m]) = X (a.1, m)) (a) :
 ∃ e, Run T b128l2 [(1, .ptr d 16 0), (2, .ptr d 32 0), (3, .ptr d 48 0), (4, .sl .no 1 (es cInt c))] ([] :: X a) = some (.normal, e, [] :: X (cheapY n a c)) := by
 have hds' : ∀ a, ¬ ds = (X a).length := fun a => by have := hds a; omega
 have hh := fun a lab => e_holds05 n hok c hc hcl ds ls ([] :: X a) (by have := hds a; simp; omega) (by rw [sget_cons, if_neg (hds' a), hsea a]) lab
 have hcost := cost_l n hok c hc hcl d ds ls (X a) (hd a) (hds' a) (h16 a) (hsea a)
 have hdl : ∀ a, d < (X a).length → True := fun _ _ => trivial
 simp only [b128l2]
 cases x0 : holdsS n c
 ·refine ⟨[(1, .ptr d 16 0), (2, .ptr d 32 0), (3, .ptr d 48 0), (4, .sl .no 1 (es cInt c)), (14, .bool true)], ?_⟩
  have e1 : cheapY n a c = a := by simp [cheapY, x0]
  rw [e1]
  simp (disch := first | omega | assumption | decide +kernel | (simp; done) | (simp; omega) | fail) [hd, hds', h16, hh, x0]
 ·by_cases x1 : a.2 < 0
  ·refine ⟨[(2, .ptr d 32 0), (3, .ptr d 48 0)], ?_⟩
   have e1 : cheapY n a c = (some c, costS n c) := by simp [cheapY, x0, x1]
   rw [e1]
   simp (disch := first | omega | assumption | decide +kernel | (simp; done) | (simp; omega) | fail) [hd, hds', h16, hh, x0, x1, hcost, h48, h32, p32, p48]
  ·by_cases x2 : costS n c < a.2
   ·refine ⟨[(2, .ptr d 32 0), (3, .ptr d 48 0)], ?_⟩
    have e1 : cheapY n a c = (some c, costS n c) := by simp [cheapY, x0, x2]
    rw [e1]
    simp (disch := first | omega | assumption | decide +kernel | (simp; done) | (simp; omega) | fail) [hd, hds', h16, hh, x0, x1, x2, hcost, h48, h32, p32, p48]
   ·refine ⟨[(2, .ptr d 32 0), (3, .ptr d 48 0), (4, .sl .no 1 (es cInt c)), (5, i64 (costS n c)), (39, .bool false)], ?_⟩
    have e1 : cheapY n a c = a := by simp [cheapY, x0, x1, x2]
    rw [e1]
    simp (disch := first | omega | assumption | decide +kernel | (simp; done) | (simp; omega) | fail) [hd, hds', h16, hh, x0, x1, x2, hcost, h48]
theorem cheap_yield (n : Sea) (hok : seaOk n = true) (ds ls : Nat) (S0 : Stk) (hds : ds < S0.length) (hsea : sget S0 ds ls = some (.cell (seaCell n))) :
 Yield05 n (Option (List Int) × Int) S0.length 32775 ds ls (S0.length + 1) (fun a => cheapF S0.length ds ls .ready a :: S0) (fun a c => (cheapY n a c, true)) where
 len := fun a => by simp
 lt := by omega
 ltd := by omega
 sea := fun a => by rw [sget_cons, if_neg (by omega), hsea]
 yield := fun fr a c lab hc hcl => by
  have hm := (seaOk_iff.1 hok).2.1
  have top : ∀ (x : LoopState) a l', sget (fr ++ cheapF S0.length ds ls x a :: S0) S0.length l' = (cheapF S0.length ds ls x a).get l' := fun x a l' => by
   rw [sget_append _ _ _ _ (by simp), sget_top]
  have put : ∀ (x : LoopState) a l' en, sput (fr ++ cheapF S0.length ds ls x a :: S0) S0.length l' en = fr ++ (cheapF S0.length ds ls x a).put l' en :: S0 := fun x a l' en => by
   rw [sput_append _ _ _ _ _ (by simp), sput_top]
  have hlen : ∀ (x : LoopState) a, S0.length < (fr ++ cheapF S0.length ds ls x a :: S0).length := fun x a => by simp; omega
  obtain ⟨e, hB⟩ := cheap_body n hok c hc (by omega) S0.length ds ls (fun a => fr ++ cheapF S0.length ds ls .busy a :: S0) (fun a => by have := hlen .busy a; omega) (fun a => by have := hlen .busy a; omega) (fun a => by rw [top]; rfl)
   (fun a => by
     have h1 : ds < (cheapF S0.length ds ls .busy a :: S0).length := by simp; omega
     rw [sget_append ds ls fr _ h1, sget_cons, if_neg (by omega), hsea]) (fun a => by rw [top]; rfl) (fun a => by rw [top]; rfl) (fun a c => by rw [put]; rfl) (fun a m => by rw [put]; rfl) a
  refine (yld_run (ps := [10]) (A := b128l1) (B := b128l2) (env := cheapEnv S0.length ds ls) (ex := .normal) (st := .busy) (p := none) (s3 := fr ++ cheapF S0.length ds ls .busy (cheapY n a c) :: S0) (by rw [top]; rfl) rfl (e1 := [(1, .ptr S0.length 16 0), (2, .ptr S0.length 32 0), (3, .ptr S0.length 48 0), (4, .sl .no 1 (es cInt c))]) (fr1 := []) ?_ (hlen _ _) (e2 := e) (fr2 := []) ?_ (by rw [top]; rfl)).trans ?_
  ·simp [b128l1, cheapEnv, bindEnv]
  ·rw [put]; exact hB
  ·rw [put]; rfl
theorem foldB_true {α σ : Type} (f : σ → α → σ) : ∀ (l : List α) (a : σ), foldB (fun a x => (f a x, true)) l a = (l.foldl f a, true)
 | [], _ => rfl
 | x :: l, a => by simp only [foldB, if_true, foldB_true f l, List.foldl_cons]
def cheapS (n : Sea) : Option (List Int) × Int := (crewsFrom n.boats.length n.places.length []).foldl (cheapY n) (none, -1)
set_option maxHeartbeats 1000000 in
theorem e_cheapest (n : Sea) (hok : seaOk n = true) (ds ls : Nat) (S0 : Stk) (hds : ds < S0.length) (hsea : sget S0 ds ls = some (.cell (seaCell n))) (lab) :
 den T 128 [.ptr ds ls 0] lab S0 = some (.tup [.sl .no 1 (es cInt ((cheapS n).1.getD [])), i64 (cheapS n).2], S0) := by
 have h := e_crews05 n (seaOk_iff.1 hok).2.2.1 (seaOk_iff.1 hok).2.1 (cheap_yield n hok ds ls S0 hds hsea) (none, -1)
 rw [foldB_true] at h
 change ∀ lab, den T _ _ lab _ = some (_, cheapF S0.length ds ls .ready (cheapS n) :: S0) at h
 simp only [cheapF, crewV, cheapEnv] at h
 have hds' : ¬ ds = S0.length := by omega
 rw [den_fn t128 _ _ _ rfl]
 simp only [b128]
 generalize cheapS n = q at h
 obtain ⟨v, m⟩ := q
 cases v
 ·simp (maxSteps := 1000000) (disch := first | omega | assumption | decide +kernel | (simp; done) | (simp; omega) | fail) [run_drawnK, h, hds', crewV]
 ·simp (maxSteps := 1000000) (disch := first | omega | assumption | decide +kernel | (simp; done) | (simp; omega) | fail) [run_drawnK, h, hds', crewV]
end Go.Proofs.YtekgicoibcgecaaGreat

/-
  lifts.Cheap; skies.open.
-/
namespace Go.Proofs.YtekgicoibcgecaaGreat
open Go.Ab
def cheapR (n : Sea) : Int × Int := if seaOk n = true then (if (cheapS n).2 < 0 then (0, 3) else ((cheapS n).2, 0)) else (0, 50)
@[simp] theorem e_Cheap (n0 : Int) (n1 : Int) (n2 : List Sp) (n3 : List Boat) (lab s) : den T 110 [.agg [i64 n0, i64 n1, .sl .no 2 (es cSp n2), .sl .no 2 (es cBoat n3)]] lab s = some (.tup [i64 (cheapR (⟨⟨n0, n1⟩, n2, n3⟩ : Sea)).1, i64 (cheapR (⟨⟨n0, n1⟩, n2, n3⟩ : Sea)).2], s) := by
 rw [den_fn t110 _ _ _ rfl]
 simp only [b110]
 cases h : seaOk (⟨⟨n0, n1⟩, n2, n3⟩ : Sea)
 ·have h1 := fun lab loc s => e_open05_bad n0 n1 n2 n3 h lab loc s
  simp (disch := first | omega | assumption | decide +kernel | (simp; done) | (simp; omega) | fail) [h, h1, cheapR]
 ·have h1 := fun lab loc s k0 => e_open05 n0 n1 n2 n3 h lab loc s k0
  have h2 := fun lab => e_cheapest (⟨⟨n0, n1⟩, n2, n3⟩ : Sea) h s.length 160 ([(16, .cell [i64 n0, i64 n1, .sl .no 2 (es cSp n2), .sl .no 2 (es cBoat n3)]), (160, .cell (seaCell (⟨⟨n0, n1⟩, n2, n3⟩ : Sea)))] :: s) (by simp) ((sget_top _ _ _).trans rfl) lab
  by_cases h3 : (cheapS (⟨⟨n0, n1⟩, n2, n3⟩ : Sea)).2 < 0
  ·simp (disch := first | omega | assumption | decide +kernel | (simp; done) | (simp; omega) | fail) [h, h1, h2, h3, cheapR]
  ·simp (disch := first | omega | assumption | decide +kernel | (simp; done) | (simp; omega) | fail) [h, h1, h2, h3, cheapR]
def calmS (n : Season) (i : Nat) : Int := match n.skies[i]? with
 | some x => safeS { n.net with wind := x.wind, cur := x.cur }
 | none => 0
def holdS (n : Season) (i : Nat) : Int := match n.days[i]? with
 | some w => if (cheapR { n.sea with weight := w }).2 = 0 then 1 else 0
 | none => 0
def calmK (n : Season) (k i : Nat) : Int := if i < k then calmS n i else 0
def holdK (n : Season) (k i : Nat) : Int := if i < k then holdS n i else 0
theorem calmK_all (n : Season) : ∀ i, calmK n n.skies.length i = calmS n i := by
 intro i; unfold calmK; split
 ·rfl
 ·simp [calmS, List.getElem?_eq_none (show n.skies.length ≤ i by omega)]
theorem holdK_all (n : Season) : ∀ i, holdK n n.days.length i = holdS n i := by
 intro i; unfold holdK; split
 ·rfl
 ·simp [holdS, List.getElem?_eq_none (show n.days.length ≤ i by omega)]
set_option maxHeartbeats 4000000 in
theorem e_open13_l0 (n0 : Int) (n1 : Int) (n2 : Int) (n3 : Int) (n4 : List Sp) (n5 : List Anc) (n6 : List Wal) (n7 : Int) (n8 : Int) (n9 : List Sp) (n10 : List Boat) (n11 : List Sky) (n12 : List (List Int)) (n13 : List Int) (n14 : List Sp) (s : Stk) (h4 : n4.length < 4611686018427387904) (h5 : n5.length < 4611686018427387904) (h6 : n6.length < 4611686018427387904) (hl : n11.length ≤ 4) :
 Run T b62l0 [(2, .ptr s.length 32 0), (7, .ptr s.length 400 0), (27, .sl .no 4 (es cSky n11)), (28, i64 n11.length), (29, i64 0)] ([(32, .cell [i64 n0, i64 n1, i64 n2, i64 n3, .sl .no 2 (es cSp n4), .sl .no 2 (es cAnc n5), .sl .no 5 (es cWal n6), i64 n7, i64 n8, .sl .no 2 (es cSp n9), .sl .no 2 (es cBoat n10), .sl .no 4 (es cSky n11), .sl .no 1 (es cInts n12), .sl .no 1 (es cInt n13), .sl .no 2 (es cSp n14)]), (400, .cell [i64 n0, i64 n1, i64 n2, i64 n3, .sl .no 2 (es cSp n4), .sl .no 2 (es cAnc n5), .sl .no 5 (es cWal n6), i64 n7, i64 n8, .sl .no 2 (es cSp n9), .sl .no 2 (es cBoat n10), .sl .no 4 (es cSky n11), .sl .no 1 (es cInts n12), .sl .no 1 (es cInt n13), .sl .no 2 (es cSp n14), i64 0, i64 0, i64 0, i64 0, i64 0, i64 0, i64 0, i64 0, i64 0])] :: s) =
  some (.exit 0, [(2, .ptr s.length 32 0), (7, .ptr s.length 400 0), (27, .sl .no 4 (es cSky n11)), (28, i64 n11.length), (29, i64 n11.length), (30, .bool false)],
   [(32, .cell [i64 n0, i64 n1, i64 n2, i64 n3, .sl .no 2 (es cSp n4), .sl .no 2 (es cAnc n5), .sl .no 5 (es cWal n6), i64 n7, i64 n8, .sl .no 2 (es cSp n9), .sl .no 2 (es cBoat n10), .sl .no 4 (es cSky n11), .sl .no 1 (es cInts n12), .sl .no 1 (es cInt n13), .sl .no 2 (es cSp n14)]), (400, .cell [i64 n0, i64 n1, i64 n2, i64 n3, .sl .no 2 (es cSp n4), .sl .no 2 (es cAnc n5), .sl .no 5 (es cWal n6), i64 n7, i64 n8, .sl .no 2 (es cSp n9), .sl .no 2 (es cBoat n10), .sl .no 4 (es cSky n11), .sl .no 1 (es cInts n12), .sl .no 1 (es cInt n13), .sl .no 2 (es cSp n14), i64 (calmS (⟨⟨⟨n0, n1⟩, ⟨n2, n3⟩, n4, n5, n6⟩, ⟨⟨n7, n8⟩, n9, n10⟩, n11, n12, n13, n14⟩ : Season) 0), i64 (calmS (⟨⟨⟨n0, n1⟩, ⟨n2, n3⟩, n4, n5, n6⟩, ⟨⟨n7, n8⟩, n9, n10⟩, n11, n12, n13, n14⟩ : Season) 1), i64 (calmS (⟨⟨⟨n0, n1⟩, ⟨n2, n3⟩, n4, n5, n6⟩, ⟨⟨n7, n8⟩, n9, n10⟩, n11, n12, n13, n14⟩ : Season) 2), i64 (calmS (⟨⟨⟨n0, n1⟩, ⟨n2, n3⟩, n4, n5, n6⟩, ⟨⟨n7, n8⟩, n9, n10⟩, n11, n12, n13, n14⟩ : Season) 3), i64 0, i64 0, i64 0, i64 0, i64 0])] :: s) := by
 have key := loop_fold (T := T) (live := [2, 7, 27, 28, 29]) (keep := [32, 192, 208, 272, 400, 1072]) (b := d62l0) n11 (fun _ (_ : Unit) => True) (fun a _ => a)
  (fun k _ => [(2, .ptr s.length 32 0), (7, .ptr s.length 400 0), (27, .sl .no 4 (es cSky n11)), (28, i64 n11.length), (29, i64 k)]) (fun k _ => [(32, .cell [i64 n0, i64 n1, i64 n2, i64 n3, .sl .no 2 (es cSp n4), .sl .no 2 (es cAnc n5), .sl .no 5 (es cWal n6), i64 n7, i64 n8, .sl .no 2 (es cSp n9), .sl .no 2 (es cBoat n10), .sl .no 4 (es cSky n11), .sl .no 1 (es cInts n12), .sl .no 1 (es cInt n13), .sl .no 2 (es cSp n14)]), (400, .cell [i64 n0, i64 n1, i64 n2, i64 n3, .sl .no 2 (es cSp n4), .sl .no 2 (es cAnc n5), .sl .no 5 (es cWal n6), i64 n7, i64 n8, .sl .no 2 (es cSp n9), .sl .no 2 (es cBoat n10), .sl .no 4 (es cSky n11), .sl .no 1 (es cInts n12), .sl .no 1 (es cInt n13), .sl .no 2 (es cSp n14), i64 (calmK (⟨⟨⟨n0, n1⟩, ⟨n2, n3⟩, n4, n5, n6⟩, ⟨⟨n7, n8⟩, n9, n10⟩, n11, n12, n13, n14⟩ : Season) k 0), i64 (calmK (⟨⟨⟨n0, n1⟩, ⟨n2, n3⟩, n4, n5, n6⟩, ⟨⟨n7, n8⟩, n9, n10⟩, n11, n12, n13, n14⟩ : Season) k 1), i64 (calmK (⟨⟨⟨n0, n1⟩, ⟨n2, n3⟩, n4, n5, n6⟩, ⟨⟨n7, n8⟩, n9, n10⟩, n11, n12, n13, n14⟩ : Season) k 2), i64 (calmK (⟨⟨⟨n0, n1⟩, ⟨n2, n3⟩, n4, n5, n6⟩, ⟨⟨n7, n8⟩, n9, n10⟩, n11, n12, n13, n14⟩ : Season) k 3), i64 0, i64 0, i64 0, i64 0, i64 0])] :: s)
  (fun _ => (.exit 0, [(2, .ptr s.length 32 0), (7, .ptr s.length 400 0), (27, .sl .no 4 (es cSky n11)), (28, i64 n11.length), (29, i64 n11.length), (30, .bool false)],
    [(32, .cell [i64 n0, i64 n1, i64 n2, i64 n3, .sl .no 2 (es cSp n4), .sl .no 2 (es cAnc n5), .sl .no 5 (es cWal n6), i64 n7, i64 n8, .sl .no 2 (es cSp n9), .sl .no 2 (es cBoat n10), .sl .no 4 (es cSky n11), .sl .no 1 (es cInts n12), .sl .no 1 (es cInt n13), .sl .no 2 (es cSp n14)]), (400, .cell [i64 n0, i64 n1, i64 n2, i64 n3, .sl .no 2 (es cSp n4), .sl .no 2 (es cAnc n5), .sl .no 5 (es cWal n6), i64 n7, i64 n8, .sl .no 2 (es cSp n9), .sl .no 2 (es cBoat n10), .sl .no 4 (es cSky n11), .sl .no 1 (es cInts n12), .sl .no 1 (es cInt n13), .sl .no 2 (es cSp n14), i64 (calmK (⟨⟨⟨n0, n1⟩, ⟨n2, n3⟩, n4, n5, n6⟩, ⟨⟨n7, n8⟩, n9, n10⟩, n11, n12, n13, n14⟩ : Season) n11.length 0), i64 (calmK (⟨⟨⟨n0, n1⟩, ⟨n2, n3⟩, n4, n5, n6⟩, ⟨⟨n7, n8⟩, n9, n10⟩, n11, n12, n13, n14⟩ : Season) n11.length 1), i64 (calmK (⟨⟨⟨n0, n1⟩, ⟨n2, n3⟩, n4, n5, n6⟩, ⟨⟨n7, n8⟩, n9, n10⟩, n11, n12, n13, n14⟩ : Season) n11.length 2), i64 (calmK (⟨⟨⟨n0, n1⟩, ⟨n2, n3⟩, n4, n5, n6⟩, ⟨⟨n7, n8⟩, n9, n10⟩, n11, n12, n13, n14⟩ : Season) n11.length 3), i64 0, i64 0, i64 0, i64 0, i64 0])] :: s))
  (by simp) ?_ (by simp) ?_ () trivial [(2, .ptr s.length 32 0), (7, .ptr s.length 400 0), (27, .sl .no 4 (es cSky n11)), (28, i64 n11.length), (29, i64 0)] ([(32, .cell [i64 n0, i64 n1, i64 n2, i64 n3, .sl .no 2 (es cSp n4), .sl .no 2 (es cAnc n5), .sl .no 5 (es cWal n6), i64 n7, i64 n8, .sl .no 2 (es cSp n9), .sl .no 2 (es cBoat n10), .sl .no 4 (es cSky n11), .sl .no 1 (es cInts n12), .sl .no 1 (es cInt n13), .sl .no 2 (es cSp n14)]), (400, .cell [i64 n0, i64 n1, i64 n2, i64 n3, .sl .no 2 (es cSp n4), .sl .no 2 (es cAnc n5), .sl .no 5 (es cWal n6), i64 n7, i64 n8, .sl .no 2 (es cSp n9), .sl .no 2 (es cBoat n10), .sl .no 4 (es cSky n11), .sl .no 1 (es cInts n12), .sl .no 1 (es cInt n13), .sl .no 2 (es cSp n14), i64 0, i64 0, i64 0, i64 0, i64 0, i64 0, i64 0, i64 0, i64 0])] :: s) (by simp) (by simp [calmK])
 ·have e := calmK_all (⟨⟨⟨n0, n1⟩, ⟨n2, n3⟩, n4, n5, n6⟩, ⟨⟨n7, n8⟩, n9, n10⟩, n11, n12, n13, n14⟩ : Season)
  simp only at e
  simp only [e] at key
  exact key
 ·intro k a hk _
  have hck : calmS (⟨⟨⟨n0, n1⟩, ⟨n2, n3⟩, n4, n5, n6⟩, ⟨⟨n7, n8⟩, n9, n10⟩, n11, n12, n13, n14⟩ : Season) k = safeS ⟨n11[k].wind, n11[k].cur, n4, n5, n6⟩ := by simp [calmS, hk]
  have hki : (k : Int) < n11.length := by omega
  obtain rfl | rfl | rfl | rfl : k = 0 ∨ k = 1 ∨ k = 2 ∨ k = 3 := by omega
  all_goals (simp (maxSteps := 1000000) (disch := first | omega | assumption | decide +kernel | (simp; done) | (simp; omega) | fail) [run_drawnK, hk, hki, calmK, hck, wi] <;> omega)
 ·intro a _
  simp
set_option maxHeartbeats 4000000 in
theorem e_open13_l1 (n0 : Int) (n1 : Int) (n2 : Int) (n3 : Int) (n4 : List Sp) (n5 : List Anc) (n6 : List Wal) (n7 : Int) (n8 : Int) (n9 : List Sp) (n10 : List Boat) (n11 : List Sky) (n12 : List (List Int)) (n13 : List Int) (n14 : List Sp) (c0 c1 c2 c3 : Int) (s : Stk) (hl : n14.length ≤ 5) :
 Run T b62l1 [(2, .ptr s.length 32 0), (7, .ptr s.length 400 0), (54, .sl .no 2 (es cSp n14)), (55, i64 n14.length), (56, i64 0)] ([(32, .cell [i64 n0, i64 n1, i64 n2, i64 n3, .sl .no 2 (es cSp n4), .sl .no 2 (es cAnc n5), .sl .no 5 (es cWal n6), i64 n7, i64 n8, .sl .no 2 (es cSp n9), .sl .no 2 (es cBoat n10), .sl .no 4 (es cSky n11), .sl .no 1 (es cInts n12), .sl .no 1 (es cInt n13), .sl .no 2 (es cSp n14)]), (400, .cell [i64 n0, i64 n1, i64 n2, i64 n3, .sl .no 2 (es cSp n4), .sl .no 2 (es cAnc n5), .sl .no 5 (es cWal n6), i64 n7, i64 n8, .sl .no 2 (es cSp n9), .sl .no 2 (es cBoat n10), .sl .no 4 (es cSky n11), .sl .no 1 (es cInts n12), .sl .no 1 (es cInt n13), .sl .no 2 (es cSp n14), i64 c0, i64 c1, i64 c2, i64 c3, i64 0, i64 0, i64 0, i64 0, i64 0])] :: s) =
  some (.exit 2, [(2, .ptr s.length 32 0), (7, .ptr s.length 400 0), (54, .sl .no 2 (es cSp n14)), (55, i64 n14.length), (56, i64 n14.length), (57, .bool false)],
   [(32, .cell [i64 n0, i64 n1, i64 n2, i64 n3, .sl .no 2 (es cSp n4), .sl .no 2 (es cAnc n5), .sl .no 5 (es cWal n6), i64 n7, i64 n8, .sl .no 2 (es cSp n9), .sl .no 2 (es cBoat n10), .sl .no 4 (es cSky n11), .sl .no 1 (es cInts n12), .sl .no 1 (es cInt n13), .sl .no 2 (es cSp n14)]), (400, .cell [i64 n0, i64 n1, i64 n2, i64 n3, .sl .no 2 (es cSp n4), .sl .no 2 (es cAnc n5), .sl .no 5 (es cWal n6), i64 n7, i64 n8, .sl .no 2 (es cSp n9), .sl .no 2 (es cBoat n10), .sl .no 4 (es cSky n11), .sl .no 1 (es cInts n12), .sl .no 1 (es cInt n13), .sl .no 2 (es cSp n14), i64 c0, i64 c1, i64 c2, i64 c3, i64 (holdS (⟨⟨⟨n0, n1⟩, ⟨n2, n3⟩, n4, n5, n6⟩, ⟨⟨n7, n8⟩, n9, n10⟩, n11, n12, n13, n14⟩ : Season) 0), i64 (holdS (⟨⟨⟨n0, n1⟩, ⟨n2, n3⟩, n4, n5, n6⟩, ⟨⟨n7, n8⟩, n9, n10⟩, n11, n12, n13, n14⟩ : Season) 1), i64 (holdS (⟨⟨⟨n0, n1⟩, ⟨n2, n3⟩, n4, n5, n6⟩, ⟨⟨n7, n8⟩, n9, n10⟩, n11, n12, n13, n14⟩ : Season) 2), i64 (holdS (⟨⟨⟨n0, n1⟩, ⟨n2, n3⟩, n4, n5, n6⟩, ⟨⟨n7, n8⟩, n9, n10⟩, n11, n12, n13, n14⟩ : Season) 3), i64 (holdS (⟨⟨⟨n0, n1⟩, ⟨n2, n3⟩, n4, n5, n6⟩, ⟨⟨n7, n8⟩, n9, n10⟩, n11, n12, n13, n14⟩ : Season) 4)])] :: s) := by
 have key := loop_fold (T := T) (live := [2, 7, 54, 55, 56]) (keep := [32, 144, 160, 272, 400, 736]) (b := d62l1) n14 (fun _ (_ : Unit) => True) (fun a _ => a)
  (fun k _ => [(2, .ptr s.length 32 0), (7, .ptr s.length 400 0), (54, .sl .no 2 (es cSp n14)), (55, i64 n14.length), (56, i64 k)]) (fun k _ => [(32, .cell [i64 n0, i64 n1, i64 n2, i64 n3, .sl .no 2 (es cSp n4), .sl .no 2 (es cAnc n5), .sl .no 5 (es cWal n6), i64 n7, i64 n8, .sl .no 2 (es cSp n9), .sl .no 2 (es cBoat n10), .sl .no 4 (es cSky n11), .sl .no 1 (es cInts n12), .sl .no 1 (es cInt n13), .sl .no 2 (es cSp n14)]), (400, .cell [i64 n0, i64 n1, i64 n2, i64 n3, .sl .no 2 (es cSp n4), .sl .no 2 (es cAnc n5), .sl .no 5 (es cWal n6), i64 n7, i64 n8, .sl .no 2 (es cSp n9), .sl .no 2 (es cBoat n10), .sl .no 4 (es cSky n11), .sl .no 1 (es cInts n12), .sl .no 1 (es cInt n13), .sl .no 2 (es cSp n14), i64 c0, i64 c1, i64 c2, i64 c3, i64 (holdK (⟨⟨⟨n0, n1⟩, ⟨n2, n3⟩, n4, n5, n6⟩, ⟨⟨n7, n8⟩, n9, n10⟩, n11, n12, n13, n14⟩ : Season) k 0), i64 (holdK (⟨⟨⟨n0, n1⟩, ⟨n2, n3⟩, n4, n5, n6⟩, ⟨⟨n7, n8⟩, n9, n10⟩, n11, n12, n13, n14⟩ : Season) k 1), i64 (holdK (⟨⟨⟨n0, n1⟩, ⟨n2, n3⟩, n4, n5, n6⟩, ⟨⟨n7, n8⟩, n9, n10⟩, n11, n12, n13, n14⟩ : Season) k 2), i64 (holdK (⟨⟨⟨n0, n1⟩, ⟨n2, n3⟩, n4, n5, n6⟩, ⟨⟨n7, n8⟩, n9, n10⟩, n11, n12, n13, n14⟩ : Season) k 3), i64 (holdK (⟨⟨⟨n0, n1⟩, ⟨n2, n3⟩, n4, n5, n6⟩, ⟨⟨n7, n8⟩, n9, n10⟩, n11, n12, n13, n14⟩ : Season) k 4)])] :: s)
  (fun _ => (.exit 2, [(2, .ptr s.length 32 0), (7, .ptr s.length 400 0), (54, .sl .no 2 (es cSp n14)), (55, i64 n14.length), (56, i64 n14.length), (57, .bool false)],
    [(32, .cell [i64 n0, i64 n1, i64 n2, i64 n3, .sl .no 2 (es cSp n4), .sl .no 2 (es cAnc n5), .sl .no 5 (es cWal n6), i64 n7, i64 n8, .sl .no 2 (es cSp n9), .sl .no 2 (es cBoat n10), .sl .no 4 (es cSky n11), .sl .no 1 (es cInts n12), .sl .no 1 (es cInt n13), .sl .no 2 (es cSp n14)]), (400, .cell [i64 n0, i64 n1, i64 n2, i64 n3, .sl .no 2 (es cSp n4), .sl .no 2 (es cAnc n5), .sl .no 5 (es cWal n6), i64 n7, i64 n8, .sl .no 2 (es cSp n9), .sl .no 2 (es cBoat n10), .sl .no 4 (es cSky n11), .sl .no 1 (es cInts n12), .sl .no 1 (es cInt n13), .sl .no 2 (es cSp n14), i64 c0, i64 c1, i64 c2, i64 c3, i64 (holdK (⟨⟨⟨n0, n1⟩, ⟨n2, n3⟩, n4, n5, n6⟩, ⟨⟨n7, n8⟩, n9, n10⟩, n11, n12, n13, n14⟩ : Season) n14.length 0), i64 (holdK (⟨⟨⟨n0, n1⟩, ⟨n2, n3⟩, n4, n5, n6⟩, ⟨⟨n7, n8⟩, n9, n10⟩, n11, n12, n13, n14⟩ : Season) n14.length 1), i64 (holdK (⟨⟨⟨n0, n1⟩, ⟨n2, n3⟩, n4, n5, n6⟩, ⟨⟨n7, n8⟩, n9, n10⟩, n11, n12, n13, n14⟩ : Season) n14.length 2), i64 (holdK (⟨⟨⟨n0, n1⟩, ⟨n2, n3⟩, n4, n5, n6⟩, ⟨⟨n7, n8⟩, n9, n10⟩, n11, n12, n13, n14⟩ : Season) n14.length 3), i64 (holdK (⟨⟨⟨n0, n1⟩, ⟨n2, n3⟩, n4, n5, n6⟩, ⟨⟨n7, n8⟩, n9, n10⟩, n11, n12, n13, n14⟩ : Season) n14.length 4)])] :: s))
  (by simp) ?_ (by simp) ?_ () trivial [(2, .ptr s.length 32 0), (7, .ptr s.length 400 0), (54, .sl .no 2 (es cSp n14)), (55, i64 n14.length), (56, i64 0)] ([(32, .cell [i64 n0, i64 n1, i64 n2, i64 n3, .sl .no 2 (es cSp n4), .sl .no 2 (es cAnc n5), .sl .no 5 (es cWal n6), i64 n7, i64 n8, .sl .no 2 (es cSp n9), .sl .no 2 (es cBoat n10), .sl .no 4 (es cSky n11), .sl .no 1 (es cInts n12), .sl .no 1 (es cInt n13), .sl .no 2 (es cSp n14)]), (400, .cell [i64 n0, i64 n1, i64 n2, i64 n3, .sl .no 2 (es cSp n4), .sl .no 2 (es cAnc n5), .sl .no 5 (es cWal n6), i64 n7, i64 n8, .sl .no 2 (es cSp n9), .sl .no 2 (es cBoat n10), .sl .no 4 (es cSky n11), .sl .no 1 (es cInts n12), .sl .no 1 (es cInt n13), .sl .no 2 (es cSp n14), i64 c0, i64 c1, i64 c2, i64 c3, i64 0, i64 0, i64 0, i64 0, i64 0])] :: s) (by simp) (by simp [holdK])
 ·have e := holdK_all (⟨⟨⟨n0, n1⟩, ⟨n2, n3⟩, n4, n5, n6⟩, ⟨⟨n7, n8⟩, n9, n10⟩, n11, n12, n13, n14⟩ : Season)
  simp only at e
  simp only [e] at key
  exact key
 ·intro k a hk _
  have hki : (k : Int) < n14.length := by omega
  by_cases hc : (cheapR ⟨⟨n14[k].lo, n14[k].hi⟩, n9, n10⟩).2 = 0
  ·have hck : holdS (⟨⟨⟨n0, n1⟩, ⟨n2, n3⟩, n4, n5, n6⟩, ⟨⟨n7, n8⟩, n9, n10⟩, n11, n12, n13, n14⟩ : Season) k = 1 := by simp [holdS, hk, hc]
   have hc' : (cheapR ⟨n14[k], n9, n10⟩).2 = 0 := hc
   obtain rfl | rfl | rfl | rfl | rfl : k = 0 ∨ k = 1 ∨ k = 2 ∨ k = 3 ∨ k = 4 := by omega
   all_goals (simp (maxSteps := 1000000) (disch := first | omega | assumption | decide +kernel | (simp; done) | (simp; omega) | fail) [run_drawnK, hk, hki, holdK, hck, hc', wi] <;> omega)
  ·have hck : holdS (⟨⟨⟨n0, n1⟩, ⟨n2, n3⟩, n4, n5, n6⟩, ⟨⟨n7, n8⟩, n9, n10⟩, n11, n12, n13, n14⟩ : Season) k = 0 := by simp [holdS, hk, hc]
   have hc' : ¬ (cheapR ⟨n14[k], n9, n10⟩).2 = 0 := hc
   obtain rfl | rfl | rfl | rfl | rfl : k = 0 ∨ k = 1 ∨ k = 2 ∨ k = 3 ∨ k = 4 := by omega
   all_goals (simp (maxSteps := 1000000) (disch := first | omega | assumption | decide +kernel | (simp; done) | (simp; omega) | fail) [run_drawnK, hk, hki, holdK, hck, hc', wi] <;> omega)
 ·intro a _
  simp
end Go.Proofs.YtekgicoibcgecaaGreat

/-
  The season at work: may, worth, least, lift, brings.
-/
namespace Go.Proofs.YtekgicoibcgecaaGreat
open Go.Ab
def seasonCell (n : Season) : List V := [i64 n.net.wind.lo, i64 n.net.wind.hi, i64 n.net.cur.lo, i64 n.net.cur.hi, .sl .no 2 (es cSp n.net.grips), .sl .no 2 (es cAnc n.net.anch), .sl .no 5 (es cWal n.net.walls), i64 n.sea.weight.lo, i64 n.sea.weight.hi, .sl .no 2 (es cSp n.sea.places), .sl .no 2 (es cBoat n.sea.boats), .sl .no 4 (es cSky n.skies), .sl .no 1 (es cInts n.follows), .sl .no 1 (es cInt n.first), .sl .no 2 (es cSp n.days),
 i64 (calmS n 0), i64 (calmS n 1), i64 (calmS n 2), i64 (calmS n 3), i64 (holdS n 0), i64 (holdS n 1), i64 (holdS n 2), i64 (holdS n 3), i64 (holdS n 4)]
def mayS (n : Season) (day sky : Nat) : Bool := decide (calmS n sky = 1) && decide (holdS n day = 1)
theorem e_may (n : Season) (day sky : Nat) (h1 : day < 5) (h2 : sky < 4) (d l : Nat) (S : Stk) (hd : d < S.length) (h : sget S d l = some (.cell (seasonCell n))) (lab) :
 den T 70 [.ptr d l 0, i64 day, i64 sky] lab S = some (.bool (mayS n day sky), S) := by
 have hd' : ¬ d = S.length := by omega
 have hx : ∃ v, (seasonCell n)[15 + sky]? = some (i64 v) ∧ v = calmS n sky := by
  obtain rfl | rfl | rfl | rfl : sky = 0 ∨ sky = 1 ∨ sky = 2 ∨ sky = 3 := by omega
  all_goals exact ⟨_, rfl, rfl⟩
 have hy : ∃ v, (seasonCell n)[19 + day]? = some (i64 v) ∧ v = holdS n day := by
  obtain rfl | rfl | rfl | rfl | rfl : day = 0 ∨ day = 1 ∨ day = 2 ∨ day = 3 ∨ day = 4 := by omega
  all_goals exact ⟨_, rfl, rfl⟩
 obtain ⟨v, hv, rfl⟩ := hx
 obtain ⟨u, hu, rfl⟩ := hy
 have hs : ((sky : Int)) < 4 := by omega
 have hdy : ((day : Int)) < 5 := by omega
 rw [den_fn t70 _ _ _ rfl]
 simp only [b70]
 by_cases c0 : calmS n sky = 1
 ·by_cases c1 : holdS n day = 1
  ·simp (disch := first | omega | assumption | decide +kernel | (simp; done) | (simp; omega) | fail) [h, hd', hv, hu, hs, hdy, c0, c1, mayS]
  ·simp (disch := first | omega | assumption | decide +kernel | (simp; done) | (simp; omega) | fail) [h, hd', hv, hu, hs, hdy, c0, c1, mayS]
 ·simp (disch := first | omega | assumption | decide +kernel | (simp; done) | (simp; omega) | fail) [h, hd', hv, hu, hs, hdy, c0, mayS]
def leastL (f : Int → Int) (l : List Int) : Int := l.foldl (fun a x => min a (f x)) 2000
theorem e_least (n : Season) (day : Nat) (f : Int → Int) (l : List Int) (hl : l.length < 4611686018427387904) (d lb : Nat) (S : Stk) (hd : d < S.length) (hf : ∀ x, x ∈ l → ∀ lab, den T 86 [.ptr d lb 0, i64 day, i64 x] lab ([] :: S) = some (i64 (f x), [] :: S)) (lab) :
 den T 88 [.ptr d lb 0, i64 day, .sl .no 1 (es cInt l)] lab S = some (i64 (leastL f l), S) := by
 have hd' : ¬ d = S.length := by omega
 have key := loop_fold (T := T) (live := [0, 1, 7, 10, 11, 12]) (keep := []) (b := d88l0) l (fun _ (_ : Int) => True) (fun a x => min a (f x))
  (fun k a => [(0, .ptr d lb 0), (1, i64 day), (7, i64 a), (10, .sl .no 1 (es cInt l)), (11, i64 l.length), (12, i64 k)]) (fun _ _ => [] :: S)
  (fun a => (.exit 0, [(0, .ptr d lb 0), (1, i64 day), (7, i64 a), (10, .sl .no 1 (es cInt l)), (11, i64 l.length), (12, i64 l.length), (13, .bool false)], [] :: S))
  (by simp) ?_ (by simp) ?_ 2000 trivial [(0, .ptr d lb 0), (1, i64 day), (7, i64 2000), (10, .sl .no 1 (es cInt l)), (11, i64 l.length), (12, i64 0)] ([] :: S) (by simp [hd']) (by simp)
 ·change Run T b88l0 _ _ = _ at key
  rw [den_fn t88 _ _ _ rfl]
  simp only [b88]
  simp (disch := first | omega | assumption | decide +kernel | (simp; done) | (simp; omega) | fail) [key, leastL]
 ·intro k a hk _
  have h1 := hf l[k] (List.getElem_mem hk)
  simp (disch := first | omega | assumption | decide +kernel | (simp; done) | (simp; omega) | fail) [hk, hd', h1, wk k (by omega)]
 ·intro a _
  simp [hd']
def dayLo (n : Season) (day : Nat) : Int := (n.days.getD day default).lo
def worthS (n : Season) : Nat → Int → Int
 | 0, _ => 0
 | r + 1, sky =>
   let m := leastL (worthS n r) (n.follows.getD sky.toNat [])
   if mayS n (n.days.length - (r + 1)) sky.toNat = true then max m (dayLo n (n.days.length - (r + 1))) else m
theorem rising_mem {l : List Int} {lo hi : Int} (h : rising l lo hi = true) : ∀ x : Int, x ∈ l → lo ≤ x ∧ x ≤ hi := by
 intro x hx
 obtain ⟨k, hk, rfl⟩ := List.getElem_of_mem hx
 have := allB_iff.1 h k (List.mem_range.2 hk)
 simp only [risingAt, Bool.and_eq_true, List.getD, List.getElem?_eq_getElem hk, Option.getD_some] at this
 exact within_iff.1 this.1
theorem follows_ok {n : Season} (h : seasonOk n = true) {k : Nat} (hk : k < n.skies.length) : ∃ hk2 : k < n.follows.length, n.follows[k] ≠ [] ∧ ∀ x : Int, x ∈ n.follows[k] → 0 ≤ x ∧ x < (n.skies.length : Int) := by
 obtain ⟨_, _, _, _, h5, _, _, h8, _⟩ := seasonOk_iff.1 h
 have h9 := allB_iff.1 h8 k (List.mem_range.2 hk)
 have hk2 : k < n.follows.length := by omega
 refine ⟨hk2, ?_⟩
 simp only [skyAt, List.getElem?_eq_getElem hk, List.getElem?_eq_getElem hk2, areSkies, Bool.and_eq_true, decide_eq_true_eq] at h9
 refine ⟨fun e => ?_, fun x hx => ?_⟩
 ·rw [e] at h9; simp at h9
 ·have := rising_mem h9.2.2 x hx; omega
theorem first_ok {n : Season} (h : seasonOk n = true) : n.first ≠ [] ∧ ∀ x : Int, x ∈ n.first → 0 ≤ x ∧ x < (n.skies.length : Int) := by
 obtain ⟨_, _, _, _, _, h6, _⟩ := seasonOk_iff.1 h
 simp only [areSkies, Bool.and_eq_true, decide_eq_true_eq] at h6
 refine ⟨fun e => ?_, fun x hx => ?_⟩
 ·rw [e] at h6; simp at h6
 ·have := rising_mem h6.2 x hx; omega
theorem e_worth13 (n : Season) (hok : seasonOk n = true) (hlen : ∀ l ∈ n.follows, l.length < 4611686018427387904) (d lb : Nat) : ∀ (r day : Nat) (sky : Int), day + r = n.days.length → 0 ≤ sky → sky < (n.skies.length : Int) → ∀ (S : Stk) (_ : d < S.length) (_ : sget S d lb = some (.cell (seasonCell n))) (lab),
 den T 86 [.ptr d lb 0, i64 day, i64 sky] lab S = some (i64 (worthS n r sky), S) := by
 obtain ⟨_, _, q3, q4, q5, _, q7, _, _⟩ := seasonOk_iff.1 hok
 intro r
 induction r with
 | zero =>
   intro day sky hday h0 h1 S hd h lab
   have hd' : ¬ d = S.length := by omega
   have hdd : (day : Int) = n.days.length := by omega
   rw [den_fn t86 _ _ _ rfl]
   simp only [b86]
   simp (disch := first | omega | assumption | decide +kernel | (simp; done) | (simp; omega) | fail) [h, hd', hdd, seasonCell, worthS]
 | succ r ih =>
   intro day sky hday h0 h1 S hd h lab
   have hd' : ¬ d = S.length := by omega
   have hdd : ¬ (day : Int) = n.days.length := by omega
   have hk : sky.toNat < n.skies.length := by omega
   obtain ⟨hk2, _, hf⟩ := follows_ok hok hk
   have hS1 : ∀ x : Ab.Loc, sget (x :: S) d lb = some (.cell (seasonCell n)) := fun x => by rw [sget_cons, if_neg hd', h]
   have hS2 : ∀ x y : Ab.Loc, sget (x :: y :: S) d lb = some (.cell (seasonCell n)) := fun x y => by rw [sget_cons, if_neg (by simp; omega), hS1]
   have hl := fun lab => e_least n (day + 1) (worthS n r) n.follows[sky.toNat] (hlen _ (List.getElem_mem hk2)) d lb ([] :: S) (by simp; omega) (fun x hx lab => ih (day + 1) x (by omega) (hf x hx).1 (hf x hx).2 _ (by simp; omega) (hS2 _ _) lab) lab
   have hm := fun lab => e_may n day sky.toNat (by omega) (by omega) d lb ([] :: S) (by simp; omega) (hS1 _) lab
   have hsk : ((sky.toNat : Nat) : Int) = sky := by omega
   simp only [hsk] at hm
   have hc : ((day + 1 : Nat) : Int) = (day : Int) + 1 := rfl
   rw [hc] at hl
   have hdk : day < n.days.length := by omega
   have hrem : n.days.length - (r + 1) = day := by omega
   have hlo : dayLo n day = n.days[day].lo := by simp [dayLo, hdk]
   have hfo : n.follows.getD sky.toNat [] = n.follows[sky.toNat] := by simp [List.getD, hk2]
   have hwv : worthS n (r + 1) sky = if mayS n day sky.toNat = true then max (leastL (worthS n r) n.follows[sky.toNat]) n.days[day].lo else leastL (worthS n r) n.follows[sky.toNat] := by
    simp only [worthS, hrem, hlo, hfo]
   rw [hwv]
   rw [den_fn t86 _ _ _ rfl]
   simp only [b86]
   cases c0 : mayS n day sky.toNat
   ·simp (disch := first | omega | assumption | decide +kernel | (simp; done) | (simp; omega) | fail) [h, hd', hdd, seasonCell, hk2, h0, hl, hm, c0, wk day (by omega)]
   ·simp (disch := first | omega | assumption | decide +kernel | (simp; done) | (simp; omega) | fail) [h, hd', hdd, seasonCell, hk2, h0, hdk, hl, hm, c0, wk day (by omega)]
end Go.Proofs.YtekgicoibcgecaaGreat

/-
  skies: the exported functions but Off, Regret.
-/
namespace Go.Proofs.YtekgicoibcgecaaGreat
open Go.Ab
structure Short (n : Season) : Prop where
 grips : n.net.grips.length < 8796093022208
 anch : n.net.anch.length < 8796093022208
 walls : n.net.walls.length < 3518437208884
 skies : n.skies.length < 4611686018427387904
 follows : n.follows.length < 4611686018427387904
 first : n.first.length < 4611686018427387904
 days : n.days.length < 4611686018427387904
 each : ∀ l ∈ n.follows, l.length < 4611686018427387904
set_option maxHeartbeats 4000000 in
theorem e_open13 (n0 : Int) (n1 : Int) (n2 : Int) (n3 : Int) (n4 : List Sp) (n5 : List Anc) (n6 : List Wal) (n7 : Int) (n8 : Int) (n9 : List Sp) (n10 : List Boat) (n11 : List Sky) (n12 : List (List Int)) (n13 : List Int) (n14 : List Sp) (hs : Short (⟨⟨⟨n0, n1⟩, ⟨n2, n3⟩, n4, n5, n6⟩, ⟨⟨n7, n8⟩, n9, n10⟩, n11, n12, n13, n14⟩ : Season)) (hok : seasonOk (⟨⟨⟨n0, n1⟩, ⟨n2, n3⟩, n4, n5, n6⟩, ⟨⟨n7, n8⟩, n9, n10⟩, n11, n12, n13, n14⟩ : Season) = true) (lab) (loc : Ab.Loc) (s : Stk) (k0 : loc.get lab = none) :
 den T 62 [.agg [i64 n0, i64 n1, i64 n2, i64 n3, .sl .no 2 (es cSp n4), .sl .no 2 (es cAnc n5), .sl .no 5 (es cWal n6), i64 n7, i64 n8, .sl .no 2 (es cSp n9), .sl .no 2 (es cBoat n10), .sl .no 4 (es cSky n11), .sl .no 1 (es cInts n12), .sl .no 1 (es cInt n13), .sl .no 2 (es cSp n14)], .bool true] lab (loc :: s) = some (.tup [.ptr s.length lab 0, i64 0], loc.put lab (.cell (seasonCell (⟨⟨⟨n0, n1⟩, ⟨n2, n3⟩, n4, n5, n6⟩, ⟨⟨n7, n8⟩, n9, n10⟩, n11, n12, n13, n14⟩ : Season))) :: s) := by
 obtain ⟨q1, q2, q3, q4, q5, q6, q7, q8, q9⟩ := seasonOk_iff.1 hok
 obtain ⟨s1, s2, s3, s4, s5, s6, s7, s8⟩ := hs
 simp only at q4 q7 s1 s2 s3 s4 s5 s6 s7 s8
 have g0 := e_open13_l0 n0 n1 n2 n3 n4 n5 n6 n7 n8 n9 n10 n11 n12 n13 n14 (loc :: s) (by omega) (by omega) (by omega) q4
 have g1 := e_open13_l1 n0 n1 n2 n3 n4 n5 n6 n7 n8 n9 n10 n11 n12 n13 n14 (calmS (⟨⟨⟨n0, n1⟩, ⟨n2, n3⟩, n4, n5, n6⟩, ⟨⟨n7, n8⟩, n9, n10⟩, n11, n12, n13, n14⟩ : Season) 0) (calmS (⟨⟨⟨n0, n1⟩, ⟨n2, n3⟩, n4, n5, n6⟩, ⟨⟨n7, n8⟩, n9, n10⟩, n11, n12, n13, n14⟩ : Season) 1) (calmS (⟨⟨⟨n0, n1⟩, ⟨n2, n3⟩, n4, n5, n6⟩, ⟨⟨n7, n8⟩, n9, n10⟩, n11, n12, n13, n14⟩ : Season) 2) (calmS (⟨⟨⟨n0, n1⟩, ⟨n2, n3⟩, n4, n5, n6⟩, ⟨⟨n7, n8⟩, n9, n10⟩, n11, n12, n13, n14⟩ : Season) 3) (loc :: s) q7
 simp only [List.length_cons] at g0 g1
 have hc := fun lab s => e_Check13p n0 n1 n2 n3 n4 n5 n6 n7 n8 n9 n10 n11 n12 n13 n14 (by omega) (by omega) (by omega) s4 s6 s7 s8 lab s
 rw [den_fn t62 _ _ _ rfl]
 simp only [b62]
 simp (disch := first | omega | assumption | decide +kernel | (simp; done) | (simp; omega) | fail) [hc, hok, g0, g1, k0, seasonCell]
theorem e_open13_bad (n0 : Int) (n1 : Int) (n2 : Int) (n3 : Int) (n4 : List Sp) (n5 : List Anc) (n6 : List Wal) (n7 : Int) (n8 : Int) (n9 : List Sp) (n10 : List Boat) (n11 : List Sky) (n12 : List (List Int)) (n13 : List Int) (n14 : List Sp) (hs : Short (⟨⟨⟨n0, n1⟩, ⟨n2, n3⟩, n4, n5, n6⟩, ⟨⟨n7, n8⟩, n9, n10⟩, n11, n12, n13, n14⟩ : Season)) (hok : seasonOk (⟨⟨⟨n0, n1⟩, ⟨n2, n3⟩, n4, n5, n6⟩, ⟨⟨n7, n8⟩, n9, n10⟩, n11, n12, n13, n14⟩ : Season) = false) (b : Bool) (lab) (loc : Ab.Loc) (s : Stk) :
 den T 62 [.agg [i64 n0, i64 n1, i64 n2, i64 n3, .sl .no 2 (es cSp n4), .sl .no 2 (es cAnc n5), .sl .no 5 (es cWal n6), i64 n7, i64 n8, .sl .no 2 (es cSp n9), .sl .no 2 (es cBoat n10), .sl .no 4 (es cSky n11), .sl .no 1 (es cInts n12), .sl .no 1 (es cInt n13), .sl .no 2 (es cSp n14)], .bool b] lab (loc :: s) = some (.tup [.nilp, i64 130], loc :: s) := by
 obtain ⟨s1, s2, s3, s4, s5, s6, s7, s8⟩ := hs
 simp only at s1 s2 s3 s4 s5 s6 s7 s8
 have hc := fun lab s => e_Check13p n0 n1 n2 n3 n4 n5 n6 n7 n8 n9 n10 n11 n12 n13 n14 (by omega) (by omega) (by omega) s4 s6 s7 s8 lab s
 rw [den_fn t62 _ _ _ rfl]
 simp only [b62]
 simp (disch := first | omega | assumption | decide +kernel | (simp; done) | (simp; omega) | fail) [hc, hok]
theorem e_open13_arg (n0 : Int) (n1 : Int) (n2 : Int) (n3 : Int) (n4 : List Sp) (n5 : List Anc) (n6 : List Wal) (n7 : Int) (n8 : Int) (n9 : List Sp) (n10 : List Boat) (n11 : List Sky) (n12 : List (List Int)) (n13 : List Int) (n14 : List Sp) (hs : Short (⟨⟨⟨n0, n1⟩, ⟨n2, n3⟩, n4, n5, n6⟩, ⟨⟨n7, n8⟩, n9, n10⟩, n11, n12, n13, n14⟩ : Season)) (hok : seasonOk (⟨⟨⟨n0, n1⟩, ⟨n2, n3⟩, n4, n5, n6⟩, ⟨⟨n7, n8⟩, n9, n10⟩, n11, n12, n13, n14⟩ : Season) = true) (lab) (loc : Ab.Loc) (s : Stk) :
 den T 62 [.agg [i64 n0, i64 n1, i64 n2, i64 n3, .sl .no 2 (es cSp n4), .sl .no 2 (es cAnc n5), .sl .no 5 (es cWal n6), i64 n7, i64 n8, .sl .no 2 (es cSp n9), .sl .no 2 (es cBoat n10), .sl .no 4 (es cSky n11), .sl .no 1 (es cInts n12), .sl .no 1 (es cInt n13), .sl .no 2 (es cSp n14)], .bool false] lab (loc :: s) = some (.tup [.nilp, i64 1], loc :: s) := by
 obtain ⟨s1, s2, s3, s4, s5, s6, s7, s8⟩ := hs
 simp only at s1 s2 s3 s4 s5 s6 s7 s8
 have hc := fun lab s => e_Check13p n0 n1 n2 n3 n4 n5 n6 n7 n8 n9 n10 n11 n12 n13 n14 (by omega) (by omega) (by omega) s4 s6 s7 s8 lab s
 rw [den_fn t62 _ _ _ rfl]
 simp only [b62]
 simp (disch := first | omega | assumption | decide +kernel | (simp; done) | (simp; omega) | fail) [hc, hok]
theorem e_isDay13p (n0 : Int) (n1 : Int) (n2 : Int) (n3 : Int) (n4 : List Sp) (n5 : List Anc) (n6 : List Wal) (n7 : Int) (n8 : Int) (n9 : List Sp) (n10 : List Boat) (n11 : List Sky) (n12 : List (List Int)) (n13 : List Int) (n14 : List Sp) (k : Int) (h : n14.length < 4611686018427387904) (lab s) : den T 67 [.agg [i64 n0, i64 n1, i64 n2, i64 n3, .sl .no 2 (es cSp n4), .sl .no 2 (es cAnc n5), .sl .no 5 (es cWal n6), i64 n7, i64 n8, .sl .no 2 (es cSp n9), .sl .no 2 (es cBoat n10), .sl .no 4 (es cSky n11), .sl .no 1 (es cInts n12), .sl .no 1 (es cInt n13), .sl .no 2 (es cSp n14)], i64 k] lab s = some (.bool (within k 0 (n14.length - 1)), s) := by
 rw [den_fn t67 _ _ _ rfl]
 simp only [b67]
 simp (disch := first | omega | assumption | decide +kernel | (simp; done) | (simp; omega) | fail) [wi]
theorem e_isSky13p (n0 : Int) (n1 : Int) (n2 : Int) (n3 : Int) (n4 : List Sp) (n5 : List Anc) (n6 : List Wal) (n7 : Int) (n8 : Int) (n9 : List Sp) (n10 : List Boat) (n11 : List Sky) (n12 : List (List Int)) (n13 : List Int) (n14 : List Sp) (k : Int) (h : n11.length < 4611686018427387904) (lab s) : den T 63 [.agg [i64 n0, i64 n1, i64 n2, i64 n3, .sl .no 2 (es cSp n4), .sl .no 2 (es cAnc n5), .sl .no 5 (es cWal n6), i64 n7, i64 n8, .sl .no 2 (es cSp n9), .sl .no 2 (es cBoat n10), .sl .no 4 (es cSky n11), .sl .no 1 (es cInts n12), .sl .no 1 (es cInt n13), .sl .no 2 (es cSp n14)], i64 k] lab s = some (.bool (within k 0 (n11.length - 1)), s) := by
 rw [den_fn t63 _ _ _ rfl]
 simp only [b63]
 simp (disch := first | omega | assumption | decide +kernel | (simp; done) | (simp; omega) | fail) [wi]
def isDayS (n : Season) (k : Int) : Bool := within k 0 (n.days.length - 1)
def isSkyS (n : Season) (k : Int) : Bool := within k 0 (n.skies.length - 1)
theorem isDay_nat {n : Season} {k : Int} (h : isDayS n k = true) : ∃ d : Nat, k = d ∧ d < n.days.length := by
 obtain ⟨h1, h2⟩ := within_iff.1 h
 exact ⟨k.toNat, by omega, by omega⟩
theorem isSky_nat {n : Season} {k : Int} (h : isSkyS n k = true) : ∃ d : Nat, k = d ∧ d < n.skies.length := by
 obtain ⟨h1, h2⟩ := within_iff.1 h
 exact ⟨k.toNat, by omega, by omega⟩
@[simp] theorem seasonCell_map (d ls) (n : Season) : V.mapAll (dropR d ls) (seasonCell n) = seasonCell n := by simp [seasonCell]
@[simp] theorem seasonCell_pure (n : Season) : V.pureAll (seasonCell n) = true := by simp [seasonCell]
def worthR (n : Season) (day sky : Int) : Int × Int := if seasonOk n = true then (if (isDayS n day && isSkyS n sky) = true then (worthS n (n.days.length - day.toNat) sky, 0) else (0, 1)) else (0, 130)
set_option maxHeartbeats 1000000 in
theorem e_Worth (n0 : Int) (n1 : Int) (n2 : Int) (n3 : Int) (n4 : List Sp) (n5 : List Anc) (n6 : List Wal) (n7 : Int) (n8 : Int) (n9 : List Sp) (n10 : List Boat) (n11 : List Sky) (n12 : List (List Int)) (n13 : List Int) (n14 : List Sp) (hs : Short (⟨⟨⟨n0, n1⟩, ⟨n2, n3⟩, n4, n5, n6⟩, ⟨⟨n7, n8⟩, n9, n10⟩, n11, n12, n13, n14⟩ : Season)) (day sky : Int) (lab s) : den T 33 [.agg [i64 n0, i64 n1, i64 n2, i64 n3, .sl .no 2 (es cSp n4), .sl .no 2 (es cAnc n5), .sl .no 5 (es cWal n6), i64 n7, i64 n8, .sl .no 2 (es cSp n9), .sl .no 2 (es cBoat n10), .sl .no 4 (es cSky n11), .sl .no 1 (es cInts n12), .sl .no 1 (es cInt n13), .sl .no 2 (es cSp n14)], i64 day, i64 sky] lab s = some (.tup [i64 (worthR (⟨⟨⟨n0, n1⟩, ⟨n2, n3⟩, n4, n5, n6⟩, ⟨⟨n7, n8⟩, n9, n10⟩, n11, n12, n13, n14⟩ : Season) day sky).1, i64 (worthR (⟨⟨⟨n0, n1⟩, ⟨n2, n3⟩, n4, n5, n6⟩, ⟨⟨n7, n8⟩, n9, n10⟩, n11, n12, n13, n14⟩ : Season) day sky).2], s) := by
 have hd := fun lab s => e_isDay13p n0 n1 n2 n3 n4 n5 n6 n7 n8 n9 n10 n11 n12 n13 n14 day hs.days lab s
 have hk := fun lab s => e_isSky13p n0 n1 n2 n3 n4 n5 n6 n7 n8 n9 n10 n11 n12 n13 n14 sky hs.skies lab s
 have hd0 : within day 0 (n14.length - 1) = isDayS (⟨⟨⟨n0, n1⟩, ⟨n2, n3⟩, n4, n5, n6⟩, ⟨⟨n7, n8⟩, n9, n10⟩, n11, n12, n13, n14⟩ : Season) day := rfl
 have hk0 : within sky 0 (n11.length - 1) = isSkyS (⟨⟨⟨n0, n1⟩, ⟨n2, n3⟩, n4, n5, n6⟩, ⟨⟨n7, n8⟩, n9, n10⟩, n11, n12, n13, n14⟩ : Season) sky := rfl
 rw [den_fn t33 _ _ _ rfl]
 simp only [b33]
 cases c0 : seasonOk (⟨⟨⟨n0, n1⟩, ⟨n2, n3⟩, n4, n5, n6⟩, ⟨⟨n7, n8⟩, n9, n10⟩, n11, n12, n13, n14⟩ : Season)
 ·have ho := fun b lab loc s => e_open13_bad n0 n1 n2 n3 n4 n5 n6 n7 n8 n9 n10 n11 n12 n13 n14 hs c0 b lab loc s
  cases c1 : isDayS (⟨⟨⟨n0, n1⟩, ⟨n2, n3⟩, n4, n5, n6⟩, ⟨⟨n7, n8⟩, n9, n10⟩, n11, n12, n13, n14⟩ : Season) day
  ·simp (disch := first | omega | assumption | decide +kernel | (simp; done) | (simp; omega) | fail) [hd, hd0, hk, hk0, c0, c1, ho, worthR]
  ·simp (disch := first | omega | assumption | decide +kernel | (simp; done) | (simp; omega) | fail) [hd, hd0, hk, hk0, c0, c1, ho, worthR]
 ·have ho := fun lab loc s => e_open13_arg n0 n1 n2 n3 n4 n5 n6 n7 n8 n9 n10 n11 n12 n13 n14 hs c0 lab loc s
  cases c1 : isDayS (⟨⟨⟨n0, n1⟩, ⟨n2, n3⟩, n4, n5, n6⟩, ⟨⟨n7, n8⟩, n9, n10⟩, n11, n12, n13, n14⟩ : Season) day
  ·simp (disch := first | omega | assumption | decide +kernel | (simp; done) | (simp; omega) | fail) [hd, hd0, hk, hk0, c0, c1, ho, worthR]
  cases c2 : isSkyS (⟨⟨⟨n0, n1⟩, ⟨n2, n3⟩, n4, n5, n6⟩, ⟨⟨n7, n8⟩, n9, n10⟩, n11, n12, n13, n14⟩ : Season) sky
  ·simp (disch := first | omega | assumption | decide +kernel | (simp; done) | (simp; omega) | fail) [hd, hd0, hk, hk0, c0, c1, c2, ho, worthR]
  obtain ⟨day, rfl, hday⟩ := isDay_nat c1
  obtain ⟨sky, rfl, hsky⟩ := isSky_nat c2
  simp only at hday hsky
  have hp := fun lab loc s k0 => e_open13 n0 n1 n2 n3 n4 n5 n6 n7 n8 n9 n10 n11 n12 n13 n14 hs c0 lab loc s k0
  have hw := fun lab => e_worth13 (⟨⟨⟨n0, n1⟩, ⟨n2, n3⟩, n4, n5, n6⟩, ⟨⟨n7, n8⟩, n9, n10⟩, n11, n12, n13, n14⟩ : Season) c0 hs.each s.length 320 (n14.length - day) day sky (by simp only; omega) (by omega) (by simp only; omega) ([(48, .cell [i64 n0, i64 n1, i64 n2, i64 n3, .sl .no 2 (es cSp n4), .sl .no 2 (es cAnc n5), .sl .no 5 (es cWal n6), i64 n7, i64 n8, .sl .no 2 (es cSp n9), .sl .no 2 (es cBoat n10), .sl .no 4 (es cSky n11), .sl .no 1 (es cInts n12), .sl .no 1 (es cInt n13), .sl .no 2 (es cSp n14)]), (320, .cell (seasonCell (⟨⟨⟨n0, n1⟩, ⟨n2, n3⟩, n4, n5, n6⟩, ⟨⟨n7, n8⟩, n9, n10⟩, n11, n12, n13, n14⟩ : Season)))] :: s) (by simp) ((sget_top _ _ _).trans rfl) lab
  have hr : worthR (⟨⟨⟨n0, n1⟩, ⟨n2, n3⟩, n4, n5, n6⟩, ⟨⟨n7, n8⟩, n9, n10⟩, n11, n12, n13, n14⟩ : Season) day sky = (worthS (⟨⟨⟨n0, n1⟩, ⟨n2, n3⟩, n4, n5, n6⟩, ⟨⟨n7, n8⟩, n9, n10⟩, n11, n12, n13, n14⟩ : Season) (n14.length - day) sky, 0) := by simp [worthR, c0, c1, c2]
  rw [hr]
  simp (maxSteps := 1000000) (disch := first | omega | assumption | decide +kernel | (simp; done) | (simp; omega) | fail) [orSlow_none, hd, hd0, hk, hk0, c0, c1, c2, hp, hw]
end Go.Proofs.YtekgicoibcgecaaGreat

/-
  skies: Calm, Holds, May, Lift, Best, brings.
-/
namespace Go.Proofs.YtekgicoibcgecaaGreat
open Go.Ab
def liftS (n : Season) (day : Nat) (sky : Int) : Bool := mayS n day sky.toNat && decide (worthS n (n.days.length - day) sky ≤ dayLo n day)
theorem e_lift13 (n : Season) (hok : seasonOk n = true) (hlen : ∀ l ∈ n.follows, l.length < 4611686018427387904) (day : Nat) (hday : day < n.days.length) (sky : Int) (h0 : 0 ≤ sky) (h1 : sky < (n.skies.length : Int)) (d l : Nat) (S : Stk) (hd : d < S.length) (h : sget S d l = some (.cell (seasonCell n))) (lab) :
 den T 89 [.ptr d l 0, i64 day, i64 sky] lab S = some (.bool (liftS n day sky), S) := by
 obtain ⟨_, _, q3, q4, q5, _, q7, _, _⟩ := seasonOk_iff.1 hok
 have hd' : ¬ d = S.length := by omega
 have hS1 : ∀ x : Ab.Loc, sget (x :: S) d l = some (.cell (seasonCell n)) := fun x => by rw [sget_cons, if_neg hd', h]
 have hm := fun lab => e_may n day sky.toNat (by omega) (by omega) d l ([] :: S) (by simp; omega) (hS1 _) lab
 have hsk : ((sky.toNat : Nat) : Int) = sky := by omega
 simp only [hsk] at hm
 have hw := fun lab => e_worth13 n hok hlen d l (n.days.length - day) day sky (by omega) h0 h1 ([] :: S) (by simp; omega) (hS1 _) lab
 have hlo : dayLo n day = n.days[day].lo := by simp [dayLo, hday]
 rw [den_fn t89 _ _ _ rfl]
 simp only [b89]
 cases c0 : mayS n day sky.toNat
 ·simp (disch := first | omega | assumption | decide +kernel | (simp; done) | (simp; omega) | fail) [h, hd', hm, hw, c0, liftS]
 ·simp (disch := first | omega | assumption | decide +kernel | (simp; done) | (simp; omega) | fail) [h, hd', hm, hw, c0, liftS, seasonCell, hlo, hday, ge_iff_le]
def mayR (n : Season) (day sky : Int) : Bool × Int := if seasonOk n = true then (if (isDayS n day && isSkyS n sky) = true then (mayS n day.toNat sky.toNat, 0) else (false, 1)) else (false, 130)
set_option maxHeartbeats 1000000 in
theorem e_May (n0 : Int) (n1 : Int) (n2 : Int) (n3 : Int) (n4 : List Sp) (n5 : List Anc) (n6 : List Wal) (n7 : Int) (n8 : Int) (n9 : List Sp) (n10 : List Boat) (n11 : List Sky) (n12 : List (List Int)) (n13 : List Int) (n14 : List Sp) (hs : Short (⟨⟨⟨n0, n1⟩, ⟨n2, n3⟩, n4, n5, n6⟩, ⟨⟨n7, n8⟩, n9, n10⟩, n11, n12, n13, n14⟩ : Season)) (day sky : Int) (lab s) : den T 17 [.agg [i64 n0, i64 n1, i64 n2, i64 n3, .sl .no 2 (es cSp n4), .sl .no 2 (es cAnc n5), .sl .no 5 (es cWal n6), i64 n7, i64 n8, .sl .no 2 (es cSp n9), .sl .no 2 (es cBoat n10), .sl .no 4 (es cSky n11), .sl .no 1 (es cInts n12), .sl .no 1 (es cInt n13), .sl .no 2 (es cSp n14)], i64 day, i64 sky] lab s = some (.tup [.bool (mayR (⟨⟨⟨n0, n1⟩, ⟨n2, n3⟩, n4, n5, n6⟩, ⟨⟨n7, n8⟩, n9, n10⟩, n11, n12, n13, n14⟩ : Season) day sky).1, i64 (mayR (⟨⟨⟨n0, n1⟩, ⟨n2, n3⟩, n4, n5, n6⟩, ⟨⟨n7, n8⟩, n9, n10⟩, n11, n12, n13, n14⟩ : Season) day sky).2], s) := by
 have hd := fun lab s => e_isDay13p n0 n1 n2 n3 n4 n5 n6 n7 n8 n9 n10 n11 n12 n13 n14 day hs.days lab s
 have hk := fun lab s => e_isSky13p n0 n1 n2 n3 n4 n5 n6 n7 n8 n9 n10 n11 n12 n13 n14 sky hs.skies lab s
 have hd0 : within day 0 (n14.length - 1) = isDayS (⟨⟨⟨n0, n1⟩, ⟨n2, n3⟩, n4, n5, n6⟩, ⟨⟨n7, n8⟩, n9, n10⟩, n11, n12, n13, n14⟩ : Season) day := rfl
 have hk0 : within sky 0 (n11.length - 1) = isSkyS (⟨⟨⟨n0, n1⟩, ⟨n2, n3⟩, n4, n5, n6⟩, ⟨⟨n7, n8⟩, n9, n10⟩, n11, n12, n13, n14⟩ : Season) sky := rfl
 rw [den_fn t17 _ _ _ rfl]
 simp only [b17]
 cases c0 : seasonOk (⟨⟨⟨n0, n1⟩, ⟨n2, n3⟩, n4, n5, n6⟩, ⟨⟨n7, n8⟩, n9, n10⟩, n11, n12, n13, n14⟩ : Season)
 ·have ho := fun b lab loc s => e_open13_bad n0 n1 n2 n3 n4 n5 n6 n7 n8 n9 n10 n11 n12 n13 n14 hs c0 b lab loc s
  cases c1 : isDayS (⟨⟨⟨n0, n1⟩, ⟨n2, n3⟩, n4, n5, n6⟩, ⟨⟨n7, n8⟩, n9, n10⟩, n11, n12, n13, n14⟩ : Season) day
  ·simp (disch := first | omega | assumption | decide +kernel | (simp; done) | (simp; omega) | fail) [hd, hd0, hk, hk0, c0, c1, ho, mayR]
  ·simp (disch := first | omega | assumption | decide +kernel | (simp; done) | (simp; omega) | fail) [hd, hd0, hk, hk0, c0, c1, ho, mayR]
 ·have ho := fun lab loc s => e_open13_arg n0 n1 n2 n3 n4 n5 n6 n7 n8 n9 n10 n11 n12 n13 n14 hs c0 lab loc s
  cases c1 : isDayS (⟨⟨⟨n0, n1⟩, ⟨n2, n3⟩, n4, n5, n6⟩, ⟨⟨n7, n8⟩, n9, n10⟩, n11, n12, n13, n14⟩ : Season) day
  ·simp (disch := first | omega | assumption | decide +kernel | (simp; done) | (simp; omega) | fail) [hd, hd0, hk, hk0, c0, c1, ho, mayR]
  cases c2 : isSkyS (⟨⟨⟨n0, n1⟩, ⟨n2, n3⟩, n4, n5, n6⟩, ⟨⟨n7, n8⟩, n9, n10⟩, n11, n12, n13, n14⟩ : Season) sky
  ·simp (disch := first | omega | assumption | decide +kernel | (simp; done) | (simp; omega) | fail) [hd, hd0, hk, hk0, c0, c1, c2, ho, mayR]
  obtain ⟨day, rfl, hday⟩ := isDay_nat c1
  obtain ⟨sky, rfl, hsky⟩ := isSky_nat c2
  obtain ⟨_, _, q3, q4, q5, _, q7, _, _⟩ := seasonOk_iff.1 c0
  simp only at hday hsky q4 q7
  have hp := fun lab loc s k0 => e_open13 n0 n1 n2 n3 n4 n5 n6 n7 n8 n9 n10 n11 n12 n13 n14 hs c0 lab loc s k0
  have hw := fun lab => e_may (⟨⟨⟨n0, n1⟩, ⟨n2, n3⟩, n4, n5, n6⟩, ⟨⟨n7, n8⟩, n9, n10⟩, n11, n12, n13, n14⟩ : Season) day sky (by omega) (by omega) s.length 320 ([(48, .cell [i64 n0, i64 n1, i64 n2, i64 n3, .sl .no 2 (es cSp n4), .sl .no 2 (es cAnc n5), .sl .no 5 (es cWal n6), i64 n7, i64 n8, .sl .no 2 (es cSp n9), .sl .no 2 (es cBoat n10), .sl .no 4 (es cSky n11), .sl .no 1 (es cInts n12), .sl .no 1 (es cInt n13), .sl .no 2 (es cSp n14)]), (320, .cell (seasonCell (⟨⟨⟨n0, n1⟩, ⟨n2, n3⟩, n4, n5, n6⟩, ⟨⟨n7, n8⟩, n9, n10⟩, n11, n12, n13, n14⟩ : Season)))] :: s) (by simp) ((sget_top _ _ _).trans rfl) lab
  have hr : mayR (⟨⟨⟨n0, n1⟩, ⟨n2, n3⟩, n4, n5, n6⟩, ⟨⟨n7, n8⟩, n9, n10⟩, n11, n12, n13, n14⟩ : Season) day sky = (mayS (⟨⟨⟨n0, n1⟩, ⟨n2, n3⟩, n4, n5, n6⟩, ⟨⟨n7, n8⟩, n9, n10⟩, n11, n12, n13, n14⟩ : Season) day sky, 0) := by simp [mayR, c0, c1, c2]
  rw [hr]
  simp (maxSteps := 1000000) (disch := first | omega | assumption | decide +kernel | (simp; done) | (simp; omega) | fail) [orSlow_none, hd, hd0, hk, hk0, c0, c1, c2, hp, hw]
def calmR (n : Season) (sky : Int) : Int × Int := if seasonOk n = true then (if isSkyS n sky = true then (calmS n sky.toNat, 0) else (0, 1)) else (0, 130)
set_option maxHeartbeats 1000000 in
theorem e_Calm (n0 : Int) (n1 : Int) (n2 : Int) (n3 : Int) (n4 : List Sp) (n5 : List Anc) (n6 : List Wal) (n7 : Int) (n8 : Int) (n9 : List Sp) (n10 : List Boat) (n11 : List Sky) (n12 : List (List Int)) (n13 : List Int) (n14 : List Sp) (hs : Short (⟨⟨⟨n0, n1⟩, ⟨n2, n3⟩, n4, n5, n6⟩, ⟨⟨n7, n8⟩, n9, n10⟩, n11, n12, n13, n14⟩ : Season)) (sky : Int) (lab s) : den T 13 [.agg [i64 n0, i64 n1, i64 n2, i64 n3, .sl .no 2 (es cSp n4), .sl .no 2 (es cAnc n5), .sl .no 5 (es cWal n6), i64 n7, i64 n8, .sl .no 2 (es cSp n9), .sl .no 2 (es cBoat n10), .sl .no 4 (es cSky n11), .sl .no 1 (es cInts n12), .sl .no 1 (es cInt n13), .sl .no 2 (es cSp n14)], i64 sky] lab s = some (.tup [i64 (calmR (⟨⟨⟨n0, n1⟩, ⟨n2, n3⟩, n4, n5, n6⟩, ⟨⟨n7, n8⟩, n9, n10⟩, n11, n12, n13, n14⟩ : Season) sky).1, i64 (calmR (⟨⟨⟨n0, n1⟩, ⟨n2, n3⟩, n4, n5, n6⟩, ⟨⟨n7, n8⟩, n9, n10⟩, n11, n12, n13, n14⟩ : Season) sky).2], s) := by
 have hk := fun lab s => e_isSky13p n0 n1 n2 n3 n4 n5 n6 n7 n8 n9 n10 n11 n12 n13 n14 sky hs.skies lab s
 have hk0 : within sky 0 (n11.length - 1) = isSkyS (⟨⟨⟨n0, n1⟩, ⟨n2, n3⟩, n4, n5, n6⟩, ⟨⟨n7, n8⟩, n9, n10⟩, n11, n12, n13, n14⟩ : Season) sky := rfl
 rw [den_fn t13 _ _ _ rfl]
 simp only [b13]
 cases c0 : seasonOk (⟨⟨⟨n0, n1⟩, ⟨n2, n3⟩, n4, n5, n6⟩, ⟨⟨n7, n8⟩, n9, n10⟩, n11, n12, n13, n14⟩ : Season)
 ·have ho := fun b lab loc s => e_open13_bad n0 n1 n2 n3 n4 n5 n6 n7 n8 n9 n10 n11 n12 n13 n14 hs c0 b lab loc s
  simp (disch := first | omega | assumption | decide +kernel | (simp; done) | (simp; omega) | fail) [hk, hk0, c0, ho, calmR]
 ·cases c2 : isSkyS (⟨⟨⟨n0, n1⟩, ⟨n2, n3⟩, n4, n5, n6⟩, ⟨⟨n7, n8⟩, n9, n10⟩, n11, n12, n13, n14⟩ : Season) sky
  ·have ho := fun lab loc s => e_open13_arg n0 n1 n2 n3 n4 n5 n6 n7 n8 n9 n10 n11 n12 n13 n14 hs c0 lab loc s
   simp (disch := first | omega | assumption | decide +kernel | (simp; done) | (simp; omega) | fail) [hk, hk0, c0, c2, ho, calmR]
  obtain ⟨sky, rfl, hsky⟩ := isSky_nat c2
  obtain ⟨_, _, q3, q4, q5, _, q7, _, _⟩ := seasonOk_iff.1 c0
  simp only at hsky q4
  have hx : ∃ v, (seasonCell (⟨⟨⟨n0, n1⟩, ⟨n2, n3⟩, n4, n5, n6⟩, ⟨⟨n7, n8⟩, n9, n10⟩, n11, n12, n13, n14⟩ : Season))[15 + sky]? = some (i64 v) ∧ v = calmS (⟨⟨⟨n0, n1⟩, ⟨n2, n3⟩, n4, n5, n6⟩, ⟨⟨n7, n8⟩, n9, n10⟩, n11, n12, n13, n14⟩ : Season) sky := by
   obtain rfl | rfl | rfl | rfl : sky = 0 ∨ sky = 1 ∨ sky = 2 ∨ sky = 3 := by omega
   all_goals exact ⟨_, rfl, rfl⟩
  obtain ⟨v, hv, rfl⟩ := hx
  have h4 : sky < 4 := by omega
  have h4i : (sky : Int) < 4 := by omega
  have hv2 : ∀ h, (seasonCell (⟨⟨⟨n0, n1⟩, ⟨n2, n3⟩, n4, n5, n6⟩, ⟨⟨n7, n8⟩, n9, n10⟩, n11, n12, n13, n14⟩ : Season))[15 + sky]'h = i64 (calmS (⟨⟨⟨n0, n1⟩, ⟨n2, n3⟩, n4, n5, n6⟩, ⟨⟨n7, n8⟩, n9, n10⟩, n11, n12, n13, n14⟩ : Season) sky) := fun h => by rw [List.getElem?_eq_getElem h] at hv; exact Option.some.inj hv
  have hsl : (seasonCell (⟨⟨⟨n0, n1⟩, ⟨n2, n3⟩, n4, n5, n6⟩, ⟨⟨n7, n8⟩, n9, n10⟩, n11, n12, n13, n14⟩ : Season)).length = 24 := rfl
  have hp := fun lab loc s k0 => e_open13 n0 n1 n2 n3 n4 n5 n6 n7 n8 n9 n10 n11 n12 n13 n14 hs c0 lab loc s k0
  have hr : calmR (⟨⟨⟨n0, n1⟩, ⟨n2, n3⟩, n4, n5, n6⟩, ⟨⟨n7, n8⟩, n9, n10⟩, n11, n12, n13, n14⟩ : Season) sky = (calmS (⟨⟨⟨n0, n1⟩, ⟨n2, n3⟩, n4, n5, n6⟩, ⟨⟨n7, n8⟩, n9, n10⟩, n11, n12, n13, n14⟩ : Season) sky, 0) := by simp [calmR, c0, c2]
  rw [hr]
  simp (maxSteps := 1000000) (disch := first | omega | assumption | decide +kernel | (simp; done) | (simp; omega) | fail) [orSlow_none, hk, hk0, c0, c2, hp, hv, hv2, h4, h4i, hsl]
def holdsR (n : Season) (day : Int) : Bool × Int := if seasonOk n = true then (if isDayS n day = true then (decide (holdS n day.toNat = 1), 0) else (false, 1)) else (false, 130)
set_option maxHeartbeats 1000000 in
theorem e_Holds (n0 : Int) (n1 : Int) (n2 : Int) (n3 : Int) (n4 : List Sp) (n5 : List Anc) (n6 : List Wal) (n7 : Int) (n8 : Int) (n9 : List Sp) (n10 : List Boat) (n11 : List Sky) (n12 : List (List Int)) (n13 : List Int) (n14 : List Sp) (hs : Short (⟨⟨⟨n0, n1⟩, ⟨n2, n3⟩, n4, n5, n6⟩, ⟨⟨n7, n8⟩, n9, n10⟩, n11, n12, n13, n14⟩ : Season)) (day : Int) (lab s) : den T 15 [.agg [i64 n0, i64 n1, i64 n2, i64 n3, .sl .no 2 (es cSp n4), .sl .no 2 (es cAnc n5), .sl .no 5 (es cWal n6), i64 n7, i64 n8, .sl .no 2 (es cSp n9), .sl .no 2 (es cBoat n10), .sl .no 4 (es cSky n11), .sl .no 1 (es cInts n12), .sl .no 1 (es cInt n13), .sl .no 2 (es cSp n14)], i64 day] lab s = some (.tup [.bool (holdsR (⟨⟨⟨n0, n1⟩, ⟨n2, n3⟩, n4, n5, n6⟩, ⟨⟨n7, n8⟩, n9, n10⟩, n11, n12, n13, n14⟩ : Season) day).1, i64 (holdsR (⟨⟨⟨n0, n1⟩, ⟨n2, n3⟩, n4, n5, n6⟩, ⟨⟨n7, n8⟩, n9, n10⟩, n11, n12, n13, n14⟩ : Season) day).2], s) := by
 have hk := fun lab s => e_isDay13p n0 n1 n2 n3 n4 n5 n6 n7 n8 n9 n10 n11 n12 n13 n14 day hs.days lab s
 have hk0 : within day 0 (n14.length - 1) = isDayS (⟨⟨⟨n0, n1⟩, ⟨n2, n3⟩, n4, n5, n6⟩, ⟨⟨n7, n8⟩, n9, n10⟩, n11, n12, n13, n14⟩ : Season) day := rfl
 rw [den_fn t15 _ _ _ rfl]
 simp only [b15]
 cases c0 : seasonOk (⟨⟨⟨n0, n1⟩, ⟨n2, n3⟩, n4, n5, n6⟩, ⟨⟨n7, n8⟩, n9, n10⟩, n11, n12, n13, n14⟩ : Season)
 ·have ho := fun b lab loc s => e_open13_bad n0 n1 n2 n3 n4 n5 n6 n7 n8 n9 n10 n11 n12 n13 n14 hs c0 b lab loc s
  simp (disch := first | omega | assumption | decide +kernel | (simp; done) | (simp; omega) | fail) [hk, hk0, c0, ho, holdsR]
 ·cases c2 : isDayS (⟨⟨⟨n0, n1⟩, ⟨n2, n3⟩, n4, n5, n6⟩, ⟨⟨n7, n8⟩, n9, n10⟩, n11, n12, n13, n14⟩ : Season) day
  ·have ho := fun lab loc s => e_open13_arg n0 n1 n2 n3 n4 n5 n6 n7 n8 n9 n10 n11 n12 n13 n14 hs c0 lab loc s
   simp (disch := first | omega | assumption | decide +kernel | (simp; done) | (simp; omega) | fail) [hk, hk0, c0, c2, ho, holdsR]
  obtain ⟨day, rfl, hday⟩ := isDay_nat c2
  obtain ⟨_, _, q3, q4, q5, _, q7, _, _⟩ := seasonOk_iff.1 c0
  simp only at hday q7
  have hx : ∃ v, (seasonCell (⟨⟨⟨n0, n1⟩, ⟨n2, n3⟩, n4, n5, n6⟩, ⟨⟨n7, n8⟩, n9, n10⟩, n11, n12, n13, n14⟩ : Season))[19 + day]? = some (i64 v) ∧ v = holdS (⟨⟨⟨n0, n1⟩, ⟨n2, n3⟩, n4, n5, n6⟩, ⟨⟨n7, n8⟩, n9, n10⟩, n11, n12, n13, n14⟩ : Season) day := by
   obtain rfl | rfl | rfl | rfl | rfl : day = 0 ∨ day = 1 ∨ day = 2 ∨ day = 3 ∨ day = 4 := by omega
   all_goals exact ⟨_, rfl, rfl⟩
  obtain ⟨v, hv, rfl⟩ := hx
  have h4 : day < 5 := by omega
  have h4i : (day : Int) < 5 := by omega
  have hv2 : ∀ h, (seasonCell (⟨⟨⟨n0, n1⟩, ⟨n2, n3⟩, n4, n5, n6⟩, ⟨⟨n7, n8⟩, n9, n10⟩, n11, n12, n13, n14⟩ : Season))[19 + day]'h = i64 (holdS (⟨⟨⟨n0, n1⟩, ⟨n2, n3⟩, n4, n5, n6⟩, ⟨⟨n7, n8⟩, n9, n10⟩, n11, n12, n13, n14⟩ : Season) day) := fun h => by rw [List.getElem?_eq_getElem h] at hv; exact Option.some.inj hv
  have hsl : (seasonCell (⟨⟨⟨n0, n1⟩, ⟨n2, n3⟩, n4, n5, n6⟩, ⟨⟨n7, n8⟩, n9, n10⟩, n11, n12, n13, n14⟩ : Season)).length = 24 := rfl
  have hp := fun lab loc s k0 => e_open13 n0 n1 n2 n3 n4 n5 n6 n7 n8 n9 n10 n11 n12 n13 n14 hs c0 lab loc s k0
  have hr : holdsR (⟨⟨⟨n0, n1⟩, ⟨n2, n3⟩, n4, n5, n6⟩, ⟨⟨n7, n8⟩, n9, n10⟩, n11, n12, n13, n14⟩ : Season) day = (decide (holdS (⟨⟨⟨n0, n1⟩, ⟨n2, n3⟩, n4, n5, n6⟩, ⟨⟨n7, n8⟩, n9, n10⟩, n11, n12, n13, n14⟩ : Season) day = 1), 0) := by simp [holdsR, c0, c2]
  rw [hr]
  by_cases c3 : holdS (⟨⟨⟨n0, n1⟩, ⟨n2, n3⟩, n4, n5, n6⟩, ⟨⟨n7, n8⟩, n9, n10⟩, n11, n12, n13, n14⟩ : Season) day = 1
  ·simp (maxSteps := 1000000) (disch := first | omega | assumption | decide +kernel | (simp; done) | (simp; omega) | fail) [orSlow_none, hk, hk0, c0, c2, c3, hp, hv, hv2, h4, h4i, hsl]
  ·simp (maxSteps := 1000000) (disch := first | omega | assumption | decide +kernel | (simp; done) | (simp; omega) | fail) [orSlow_none, hk, hk0, c0, c2, c3, hp, hv, hv2, h4, h4i, hsl]
def bestS (n : Season) : Int := leastL (worthS n n.days.length) n.first
def bestR (n : Season) : Int × Int := if seasonOk n = true then (bestS n, 0) else (0, 130)
set_option maxHeartbeats 1000000 in
theorem e_Best (n0 : Int) (n1 : Int) (n2 : Int) (n3 : Int) (n4 : List Sp) (n5 : List Anc) (n6 : List Wal) (n7 : Int) (n8 : Int) (n9 : List Sp) (n10 : List Boat) (n11 : List Sky) (n12 : List (List Int)) (n13 : List Int) (n14 : List Sp) (hs : Short (⟨⟨⟨n0, n1⟩, ⟨n2, n3⟩, n4, n5, n6⟩, ⟨⟨n7, n8⟩, n9, n10⟩, n11, n12, n13, n14⟩ : Season)) (lab s) : den T 35 [.agg [i64 n0, i64 n1, i64 n2, i64 n3, .sl .no 2 (es cSp n4), .sl .no 2 (es cAnc n5), .sl .no 5 (es cWal n6), i64 n7, i64 n8, .sl .no 2 (es cSp n9), .sl .no 2 (es cBoat n10), .sl .no 4 (es cSky n11), .sl .no 1 (es cInts n12), .sl .no 1 (es cInt n13), .sl .no 2 (es cSp n14)]] lab s = some (.tup [i64 (bestR (⟨⟨⟨n0, n1⟩, ⟨n2, n3⟩, n4, n5, n6⟩, ⟨⟨n7, n8⟩, n9, n10⟩, n11, n12, n13, n14⟩ : Season)).1, i64 (bestR (⟨⟨⟨n0, n1⟩, ⟨n2, n3⟩, n4, n5, n6⟩, ⟨⟨n7, n8⟩, n9, n10⟩, n11, n12, n13, n14⟩ : Season)).2], s) := by
 rw [den_fn t35 _ _ _ rfl]
 simp only [b35]
 cases c0 : seasonOk (⟨⟨⟨n0, n1⟩, ⟨n2, n3⟩, n4, n5, n6⟩, ⟨⟨n7, n8⟩, n9, n10⟩, n11, n12, n13, n14⟩ : Season)
 ·have ho := fun b lab loc s => e_open13_bad n0 n1 n2 n3 n4 n5 n6 n7 n8 n9 n10 n11 n12 n13 n14 hs c0 b lab loc s
  simp (disch := first | omega | assumption | decide +kernel | (simp; done) | (simp; omega) | fail) [c0, ho, bestR]
 ·have hp := fun lab loc s k0 => e_open13 n0 n1 n2 n3 n4 n5 n6 n7 n8 n9 n10 n11 n12 n13 n14 hs c0 lab loc s k0
  have hf := (first_ok c0).2
  have hw := fun lab => e_least (⟨⟨⟨n0, n1⟩, ⟨n2, n3⟩, n4, n5, n6⟩, ⟨⟨n7, n8⟩, n9, n10⟩, n11, n12, n13, n14⟩ : Season) 0 (worthS (⟨⟨⟨n0, n1⟩, ⟨n2, n3⟩, n4, n5, n6⟩, ⟨⟨n7, n8⟩, n9, n10⟩, n11, n12, n13, n14⟩ : Season) n14.length) n13 hs.first s.length 128 ([(16, .cell [i64 n0, i64 n1, i64 n2, i64 n3, .sl .no 2 (es cSp n4), .sl .no 2 (es cAnc n5), .sl .no 5 (es cWal n6), i64 n7, i64 n8, .sl .no 2 (es cSp n9), .sl .no 2 (es cBoat n10), .sl .no 4 (es cSky n11), .sl .no 1 (es cInts n12), .sl .no 1 (es cInt n13), .sl .no 2 (es cSp n14)]), (128, .cell (seasonCell (⟨⟨⟨n0, n1⟩, ⟨n2, n3⟩, n4, n5, n6⟩, ⟨⟨n7, n8⟩, n9, n10⟩, n11, n12, n13, n14⟩ : Season)))] :: s) (by simp)
   (fun x hx lab => e_worth13 (⟨⟨⟨n0, n1⟩, ⟨n2, n3⟩, n4, n5, n6⟩, ⟨⟨n7, n8⟩, n9, n10⟩, n11, n12, n13, n14⟩ : Season) c0 hs.each s.length 128 n14.length 0 x (by simp only; omega) (hf x hx).1 (hf x hx).2 ([] :: [(16, .cell [i64 n0, i64 n1, i64 n2, i64 n3, .sl .no 2 (es cSp n4), .sl .no 2 (es cAnc n5), .sl .no 5 (es cWal n6), i64 n7, i64 n8, .sl .no 2 (es cSp n9), .sl .no 2 (es cBoat n10), .sl .no 4 (es cSky n11), .sl .no 1 (es cInts n12), .sl .no 1 (es cInt n13), .sl .no 2 (es cSp n14)]), (128, .cell (seasonCell (⟨⟨⟨n0, n1⟩, ⟨n2, n3⟩, n4, n5, n6⟩, ⟨⟨n7, n8⟩, n9, n10⟩, n11, n12, n13, n14⟩ : Season)))] :: s) (by simp; omega) (by rw [sget_cons, if_neg (by simp)]; exact (sget_top _ _ _).trans rfl) lab) lab
  have hr : bestR (⟨⟨⟨n0, n1⟩, ⟨n2, n3⟩, n4, n5, n6⟩, ⟨⟨n7, n8⟩, n9, n10⟩, n11, n12, n13, n14⟩ : Season) = (leastL (worthS (⟨⟨⟨n0, n1⟩, ⟨n2, n3⟩, n4, n5, n6⟩, ⟨⟨n7, n8⟩, n9, n10⟩, n11, n12, n13, n14⟩ : Season) n14.length) n13, 0) := by simp [bestR, bestS, c0]
  rw [hr]
  have hse : (seasonCell (⟨⟨⟨n0, n1⟩, ⟨n2, n3⟩, n4, n5, n6⟩, ⟨⟨n7, n8⟩, n9, n10⟩, n11, n12, n13, n14⟩ : Season))[13]? = some (.sl .no 1 (es cInt n13)) := rfl
  have hsl : (seasonCell (⟨⟨⟨n0, n1⟩, ⟨n2, n3⟩, n4, n5, n6⟩, ⟨⟨n7, n8⟩, n9, n10⟩, n11, n12, n13, n14⟩ : Season)).length = 24 := rfl
  simp only [show ((0 : Nat) : Int) = 0 from rfl] at hw
  simp (maxSteps := 1000000) (disch := first | omega | assumption | decide +kernel | (simp; done) | (simp; omega) | fail) [orSlow_none, c0, hp, hw, hse, hsl]
end Go.Proofs.YtekgicoibcgecaaGreat

/-
  skies: courses.
-/
namespace Go.Proofs.YtekgicoibcgecaaGreat
open Go.Ab
def coursesFrom (n : Season) : Nat → List Int → List Int → List (List Int)
 | 0, c, _ => [c]
 | r + 1, c, nx => nx.flatMap fun (x : Int) => coursesFrom n r (c ++ [x]) (n.follows.getD x.toNat [])
structure Yield13 (n : Season) (σ : Type) (P : σ → Prop) (d l ds ls D : Nat) (St : σ → Stk) (Y : σ → List Int → σ × Bool) : Prop where
 len : ∀ a, (St a).length = D
 lt : ds < D
 ltd : d < D
 sea : ∀ a, sget (St a) ds ls = some (.cell (seasonCell n))
 yield : ∀ (fr : Stk) a c lab, P a → (∀ x : Int, x ∈ c → 0 ≤ x ∧ x < (n.skies.length : Int)) → c.length = n.days.length → denV T (.yld d l) [.sl .no 1 (es cInt c)] lab (fr ++ St a) = some (.bool (Y a c).2, fr ++ St (Y a c).1)
 keep : ∀ a c, P a → (Y a c).2 = true → P (Y a c).1
def coursesFrame (ds ls d l D : Nat) : Ab.Loc := [(32, .cell [.ptr ds ls 0]), (48, .cell [.yld d l]), (64, .cell [.fn 116 [] [.ptr D 32 0, .ptr D 48 0, .ptr D 64 0]])]
theorem foldB_inv {α σ : Type} {P : σ → Prop} {Y : σ → α → σ × Bool} (h : ∀ a c, P a → (Y a c).2 = true → P (Y a c).1) : ∀ (l : List α) (a : σ), P a → (foldB Y l a).2 = true → P (foldB Y l a).1
 | [], _, ha, _ => ha
 | x :: l, a, ha, hb => by
   simp only [foldB] at hb ⊢
   split at hb
   ·rename_i h1; rw [if_pos h1]; exact foldB_inv h l _ (h _ _ ha h1) hb
   ·rename_i h1; exact absurd hb h1
set_option maxHeartbeats 4000000 in
theorem e_from13 (n : Season) (hok : seasonOk n = true) (hlen : ∀ l ∈ n.follows, l.length < 4611686018427387904) {σ : Type} {P : σ → Prop} {d l ds ls D : Nat} {St : σ → Stk} {Y : σ → List Int → σ × Bool} (y : Yield13 n σ P d l ds ls D St Y) :
 ∀ (r : Nat) (c nx : List Int), c.length + r = n.days.length → nx.length < 4611686018427387904 → (∀ x : Int, x ∈ c → 0 ≤ x ∧ x < (n.skies.length : Int)) → (∀ x : Int, x ∈ nx → 0 ≤ x ∧ x < (n.skies.length : Int)) → ∀ (fr : Stk) (a : σ) (_ : P a) (lab : Nat),
  den T 116 [.sl .no 1 (es cInt c), .sl .no 1 (es cInt nx), .ptr D 32 0, .ptr D 48 0, .ptr D 64 0] lab (fr ++ coursesFrame ds ls d l D :: St a) =
   some (.bool (foldB Y (coursesFrom n r c nx) a).2, fr ++ coursesFrame ds ls d l D :: St (foldB Y (coursesFrom n r c nx) a).1) := by
 obtain ⟨_, _, q3, q4, q5, _, q7, _, _⟩ := seasonOk_iff.1 hok
 have facts : ∀ (fr : Stk) (a : σ), sget (fr ++ coursesFrame ds ls d l D :: St a) D 32 = some (.cell [.ptr ds ls 0]) ∧ sget (fr ++ coursesFrame ds ls d l D :: St a) D 48 = some (.cell [.yld d l]) ∧
  sget (fr ++ coursesFrame ds ls d l D :: St a) D 64 = some (.cell [.fn 116 [] [.ptr D 32 0, .ptr D 48 0, .ptr D 64 0]]) ∧ sget (fr ++ coursesFrame ds ls d l D :: St a) ds ls = some (.cell (seasonCell n)) ∧
  (¬ D = (fr ++ coursesFrame ds ls d l D :: St a).length) ∧ (¬ ds = (fr ++ coursesFrame ds ls d l D :: St a).length) ∧ (¬ d = (fr ++ coursesFrame ds ls d l D :: St a).length) := by
  intro fr a
  have hl := y.len a
  have hlt := y.lt
  have hltd := y.ltd
  have g : ∀ l', sget (fr ++ coursesFrame ds ls d l D :: St a) D l' = (coursesFrame ds ls d l D).get l' := fun l' => by
   rw [sget_append _ _ _ _ (by simp only [List.length_cons]; omega), ← hl, sget_top]
  refine ⟨by rw [g]; rfl, by rw [g]; rfl, by rw [g]; rfl, ?_, ?_, ?_, ?_⟩
  ·rw [show fr ++ coursesFrame ds ls d l D :: St a = (fr ++ [coursesFrame ds ls d l D]) ++ St a by simp, sget_append _ _ _ _ (by omega), y.sea]
  all_goals simp only [List.length_append, List.length_cons]; omega
 intro r
 induction r with
 | zero =>
   intro c nx hr hnx hc hx fr a ha lab
   obtain ⟨h32, h48, h64, hsea, hD, hds, hd⟩ := facts fr a
   have hy := y.yield ([] :: (fr ++ [coursesFrame ds ls d l D])) a c
   simp only [List.cons_append, List.append_assoc, List.nil_append] at hy
   have hy2 := fun lab => hy lab ha hc (by omega)
   have e : foldB Y (coursesFrom n 0 c nx) a = Y a c := by
    simp only [coursesFrom, foldB]
    split
    ·rename_i h; exact Prod.ext rfl h.symm
    ·rfl
   rw [e]
   generalize fr ++ coursesFrame ds ls d l D :: St a = X at *
   generalize fr ++ coursesFrame ds ls d l D :: St (Y a c).1 = X' at *
   have hcl : (c.length : Int) = n.days.length := by omega
   rw [den_fn t116 _ _ _ rfl]
   simp only [b116]
   simp (disch := first | omega | assumption | decide +kernel | (simp; done) | (simp; omega) | fail) [h32, h48, hsea, hD, hds, hd, hy2, seasonCell, hcl]
 | succ r ih =>
   intro c nx hr hnx hc hx fr a ha lab
   obtain ⟨X, hX⟩ : ∃ X : σ → Stk, ∀ a, fr ++ coursesFrame ds ls d l D :: St a = X a := ⟨_, fun _ => rfl⟩
   have fx : ∀ a, sget (X a) D 32 = some (.cell [.ptr ds ls 0]) ∧ sget (X a) D 48 = some (.cell [.yld d l]) ∧ sget (X a) D 64 = some (.cell [.fn 116 [] [.ptr D 32 0, .ptr D 48 0, .ptr D 64 0]]) ∧ sget (X a) ds ls = some (.cell (seasonCell n)) ∧ (¬ D = (X a).length) ∧ (¬ ds = (X a).length) ∧ (¬ d = (X a).length) := fun a => by
    have := facts fr a; rw [hX] at this; exact this
   rw [hX, hX]
   have hne : ¬ (c.length : Int) = n.days.length := by omega
   have key := fun a0 (ha0 : P a0) => loop_list_e (T := T) (live := [0, 2, 4, 22, 23, 24]) (keep := [336]) (b := d116l0) nx (fun _ (a : σ) => P a)
    (fun k _ => [(0, .sl .no 1 (es cInt c)), (2, .ptr D 32 0), (4, .ptr D 64 0), (22, .sl .no 1 (es cInt nx)), (23, i64 nx.length), (24, i64 k)]) (fun _ a => [] :: X a)
    (fun a (x : Int) => foldB Y (coursesFrom n r (c ++ [x]) (n.follows.getD x.toNat [])) a)
    (fun (g : Ab.Loc) a => (.ret, [(7, .bool false)], g :: X a)) (fun a => (.exit 0, [(0, .sl .no 1 (es cInt c)), (2, .ptr D 32 0), (4, .ptr D 64 0), (22, .sl .no 1 (es cInt nx)), (23, i64 nx.length), (24, i64 nx.length), (25, .bool false)], [] :: X a))
    (by simp) (by simp) ?_ ?_ a0 ha0 [(0, .sl .no 1 (es cInt c)), (2, .ptr D 32 0), (4, .ptr D 64 0), (22, .sl .no 1 (es cInt nx)), (23, i64 nx.length), (24, i64 0)] ([] :: X a0) (by simp [(fx a0).2.2.2.2.1]) (by simp)
   ·obtain ⟨g, hg⟩ := key a ha
    change Run T b116l0 _ _ = _ at hg
    have e : foldB Y (coursesFrom n (r + 1) c nx) a = foldB (fun a (x : Int) => foldB Y (coursesFrom n r (c ++ [x]) (n.follows.getD x.toNat [])) a) nx a := by
     rw [coursesFrom, foldB_flatMap]
    rw [e]
    generalize foldB (fun a (x : Int) => foldB Y (coursesFrom n r (c ++ [x]) (n.follows.getD x.toNat [])) a) nx a = q at hg
    obtain ⟨a', bb⟩ := q
    obtain ⟨h32, h48, h64, hsea, hD, hds, hd⟩ := fx a
    rw [den_fn t116 _ _ _ rfl]
    simp only [b116]
    cases bb
    ·simp (disch := first | omega | assumption | decide +kernel | (simp; done) | (simp; omega) | fail) [h32, h48, h64, hsea, hD, hds, hd, seasonCell, hne, hg]
    ·simp (disch := first | omega | assumption | decide +kernel | (simp; done) | (simp; omega) | fail) [h32, h48, h64, hsea, hD, hds, hd, seasonCell, hne, hg]
   ·intro k a hk ha
    obtain ⟨h32, h48, h64, hsea, hD, hds, hd⟩ := fx a
    have hcl : c.length < 10 := by omega
    obtain ⟨hx0, hx1⟩ := hx nx[k] (List.getElem_mem hk)
    obtain ⟨hk2, _, hf⟩ := follows_ok hok (k := nx[k].toNat) (by omega)
    have hfo : n.follows.getD nx[k].toNat [] = n.follows[nx[k].toNat] := by simp [List.getD, hk2]
    rw [hfo]
    have h1 := fun lab => ih (c ++ [nx[k]]) n.follows[nx[k].toNat] (by simp; omega) (hlen _ (List.getElem_mem hk2)) (fun x hx => by
     rcases List.mem_append.1 hx with h | h
     ·exact hc x h
     ·simp only [List.mem_singleton] at h; subst h; exact ⟨hx0, hx1⟩) hf ([(592, .tok (c.length + 1))] :: fr) a ha lab
    have hkp := foldB_inv y.keep (coursesFrom n r (c ++ [nx[k]]) n.follows[nx[k].toNat]) a ha
    simp only [List.cons_append] at h1
    rw [hX, hX] at h1
    generalize foldB Y (coursesFrom n r (c ++ [nx[k]]) n.follows[nx[k].toNat]) a = q at h1 hkp
    obtain ⟨a', bb⟩ := q
    refine ⟨fun hb => ⟨?_, hkp hb⟩, fun hb => ⟨[(592, .tok (c.length + 1))], ?_⟩⟩
    ·simp only at hb
     subst hb
     simp (maxSteps := 1000000) (disch := first | omega | assumption | decide +kernel | (simp; done) | (simp; omega) | fail) [run_drawnK, h32, hsea, seasonCell, hx0, hk2, hD, hds, h64, hk, appD_full1, denV_fn, h1, (fx a').2.2.2.2.1, wk k (by omega)]
    ·simp only at hb
     subst hb
     simp (maxSteps := 1000000) (disch := first | omega | assumption | decide +kernel | (simp; done) | (simp; omega) | fail) [run_drawnK, h32, hsea, seasonCell, hx0, hk2, hD, hds, h64, hk, appD_full1, denV_fn, h1, (fx a').2.2.2.2.1]
   ·intro a _
    obtain ⟨h32, h48, h64, hsea, hD, hds, hd⟩ := fx a
    simp
theorem e_courses13 (n : Season) (hok : seasonOk n = true) (hlen : ∀ l ∈ n.follows, l.length < 4611686018427387904) (hfl : n.first.length < 4611686018427387904) {σ : Type} {P : σ → Prop} {d l ds ls D : Nat} {St : σ → Stk} {Y : σ → List Int → σ × Bool} (y : Yield13 n σ P d l ds ls D St Y) (a : σ) (ha : P a) (lab) :
 den T 77 [.ptr ds ls 0, .yld d l] lab (St a) = some (.tup [], St (foldB Y (coursesFrom n n.days.length [] n.first) a).1) := by
 have h := fun lab => e_from13 n hok hlen y n.days.length [] n.first (by simp) hfl (by simp) (first_ok hok).2 [] a ha lab
 have hl := y.len a
 have hds : ¬ ds = (St a).length := by have := y.lt; omega
 have hd : ¬ d = (St a).length := by have := y.ltd; omega
 have hsea := y.sea a
 simp only [es_nil, List.nil_append, ← hl, coursesFrame] at h
 rw [den_fn t77 _ _ _ rfl]
 simp only [b77]
 simp (disch := first | omega | assumption | decide +kernel | (simp; done) | (simp; omega) | fail) [denV_fn, h, hds, hd, hsea, seasonCell]
end Go.Proofs.YtekgicoibcgecaaGreat
