/-
  Chapter 13: Skies of both.
-/
import Derived.Test.YtekgicoibcgecaaGreatEq3
set_option linter.unusedSimpArgs false
set_option linter.unusedVariables false
namespace Go.Proofs.YtekgicoibcgecaaGreat
open Go.Ab
theorem strict_eq : ∀ (a b : List Int), a.Pairwise (· < ·) → b.Pairwise (· < ·) → (∀ y, y ∈ a ↔ y ∈ b) → a = b
 | [], [], _, _, _ => rfl
 | [], y :: b, _, _, h => by have := (h y).2 (by simp); simp at this
 | x :: a, [], _, _, h => by have := (h x).1 (by simp); simp at this
 | x :: a, y :: b, ha, hb, h => by
   obtain ⟨ha1, ha2⟩ := List.pairwise_cons.1 ha
   obtain ⟨hb1, hb2⟩ := List.pairwise_cons.1 hb
   have e : x = y := by
    rcases List.mem_cons.1 ((h x).1 (by simp)) with h1 | h1
    ·exact h1
    ·rcases List.mem_cons.1 ((h y).2 (by simp)) with h2 | h2
     ·exact h2.symm
     ·have := hb1 x h1; have := ha1 y h2; omega
   subst e
   congr 1
   refine strict_eq a b ha2 hb2 fun z => ⟨fun hz => ?_, fun hz => ?_⟩
   ·rcases List.mem_cons.1 ((h z).1 (by simp [hz])) with h1 | h1
    ·have := ha1 z hz; omega
    ·exact h1
   ·rcases List.mem_cons.1 ((h z).2 (by simp [hz])) with h1 | h1
    ·have := hb1 z hz; omega
    ·exact h1
def nextP (n : Season) (l : List Int) (k : Nat) : Bool := anyB (fun (x : Int) => inB (n.follows.getD x.toNat []) (k : Int)) l
def nextSet (n : Season) (l : List Int) : List Int := ((List.range n.skies.length).filter (nextP n l)).map fun (k : Nat) => (k : Int)
def skiesL (n : Season) (d : Nat) : List Int := (List.range d).foldl (fun l _ => nextSet n l) n.first
def SkyL (n : Season) (l : List Int) : Prop := l ≠ [] ∧ l.length ≤ 4 ∧ ∀ x : Int, x ∈ l → 0 ≤ x ∧ x < (n.skies.length : Int)
theorem nextSet_strict (n : Season) (l : List Int) : (nextSet n l).Pairwise (· < ·) := by
 refine List.pairwise_map.2 ?_
 refine List.Pairwise.imp (R := fun a b : Nat => a < b) (fun h => by omega) ?_
 exact List.Pairwise.filter _ List.pairwise_lt_range
theorem mem_nextSet {n : Season} (hok : seasonOk n = true) {l : List Int} (hl : SkyL n l) (y : Int) : y ∈ nextSet n l ↔ y ∈ l.flatMap fun (x : Int) => n.follows.getD x.toNat [] := by
 simp only [nextSet, List.mem_map, List.mem_filter, List.mem_range, List.mem_flatMap, nextP, anyB_iff, inB_iff]
 constructor
 ·rintro ⟨k, ⟨hk, x, h1, h2⟩, rfl⟩
  exact ⟨x, h1, h2⟩
 ·rintro ⟨x, h1, h2⟩
  obtain ⟨x0, x1⟩ := hl.2.2 x h1
  obtain ⟨hk2, _, hf⟩ := follows_ok hok (k := x.toNat) (by omega)
  have hfo : n.follows.getD x.toNat [] = n.follows[x.toNat] := by simp [List.getD, hk2]
  rw [hfo] at h2
  obtain ⟨y0, y1⟩ := hf y h2
  refine ⟨y.toNat, ⟨by omega, x, h1, ?_⟩, by omega⟩
  rw [hfo, show ((y.toNat : Nat) : Int) = y by omega]
  exact h2
theorem nextSet_ok {n : Season} (hok : seasonOk n = true) {l : List Int} (hl : SkyL n l) : SkyL n (nextSet n l) := by
 refine ⟨fun h => ?_, ?_, fun x hx => ?_⟩
 ·obtain ⟨x, r, rfl⟩ : ∃ x r, l = x :: r := by cases l with
   | nil => exact absurd rfl hl.1
   | cons x r => exact ⟨x, r, rfl⟩
  obtain ⟨x0, x1⟩ := hl.2.2 x (by simp)
  obtain ⟨hk2, hne, _⟩ := follows_ok hok (k := x.toNat) (by omega)
  have hfo : n.follows.getD x.toNat [] = n.follows[x.toNat] := by simp [List.getD, hk2]
  obtain ⟨y, r', hy⟩ : ∃ y r', n.follows[x.toNat] = y :: r' := by cases h2 : n.follows[x.toNat] with
   | nil => exact absurd h2 hne
   | cons y r' => exact ⟨y, r', rfl⟩
  have := (mem_nextSet hok hl y).2 (List.mem_flatMap.2 ⟨x, by simp, by rw [hfo, hy]; simp⟩)
  rw [h] at this; simp at this
 ·have h4 := (seasonOk_iff.1 hok).2.2.2.1
  rw [nextSet, List.length_map]
  exact Nat.le_trans (List.length_filter_le _ _) (by simpa using h4)
 ·simp only [nextSet, List.mem_map, List.mem_filter, List.mem_range] at hx
  obtain ⟨k, ⟨h1, _⟩, rfl⟩ := hx
  omega
theorem first_sky {n : Season} (hok : seasonOk n = true) : SkyL n n.first := ⟨(first_ok hok).1, first_len hok, (first_ok hok).2⟩
theorem skiesL_ok {n : Season} (hok : seasonOk n = true) : ∀ d, SkyL n (skiesL n d)
 | 0 => first_sky hok
 | d + 1 => by
   have := skiesL_ok hok d
   rw [skiesL, List.range_succ, List.foldl_append]
   exact nextSet_ok hok this
theorem intsOf_es (l : List Int) : intsOf (es cInt l) = some l := intsOf_map l
theorem es_cell (l : List Int) : l.map cellInt = es cInt l := rfl
theorem e_Sort (F : List Int) (h0 : F ≠ []) (hl : F.length < 4611686018427387904) (d l : Nat) (s : Stk) (h : sget s d l = some (.arr 1 (es cInt F))) (lab) :
 den T 83 [.asl d l 1 F.length 0 F.length] lab s = some (.tup [], sput s d l (.arr 1 (es cInt (sortedI F)))) := by
 rw [den_prim t83]
 have h1 : es cInt F ≠ [] := by simpa using h0
 simp [sortP, h, h1, hl, intsOf_es, es_cell]
theorem sortedI_sorted (F : List Int) : (sortedI F).Pairwise (· ≤ ·) := by
 have := List.pairwise_mergeSort (le := fun (x y : Int) => decide (x ≤ y)) (fun a b c h1 h2 => by simp at *; omega) (fun a b => by simp; omega) F
 exact this.imp (fun h => by simpa using h)
@[simp] theorem seasonCell_frz (d k z e) (n : Season) : V.mapAll (frzR d k z e) (seasonCell n) = seasonCell n := by simp [seasonCell]
theorem e_Skies_l1 (n0 : Int) (n1 : Int) (n2 : Int) (n3 : Int) (n4 : List Sp) (n5 : List Anc) (n6 : List Wal) (n7 : Int) (n8 : Int) (n9 : List Sp) (n10 : List Boat) (n11 : List Sky) (n12 : List (List Int)) (n13 : List Int) (n14 : List Sp) (hok : seasonOk (⟨⟨⟨n0, n1⟩, ⟨n2, n3⟩, n4, n5, n6⟩, ⟨⟨n7, n8⟩, n9, n10⟩, n11, n12, n13, n14⟩ : Season) = true) (day i : Int) (sky : List Int) (hsky : SkyL (⟨⟨⟨n0, n1⟩, ⟨n2, n3⟩, n4, n5, n6⟩, ⟨⟨n7, n8⟩, n9, n10⟩, n11, n12, n13, n14⟩ : Season) sky) (s : Stk) :
 Run T b31l1 [(9, .asl s.length 145 1 0 0 0), (2, .ptr s.length 32 0), (9, .sl .full 1 []), (26, i64 day), (27, i64 i), (29, .sl .no 1 (es cInt sky)), (30, i64 sky.length), (31, i64 0)] ([(32, .cell [i64 n0, i64 n1, i64 n2, i64 n3, .sl .no 2 (es cSp n4), .sl .no 2 (es cAnc n5), .sl .no 5 (es cWal n6), i64 n7, i64 n8, .sl .no 2 (es cSp n9), .sl .no 2 (es cBoat n10), .sl .no 4 (es cSky n11), .sl .no 1 (es cInts n12), .sl .no 1 (es cInt n13), .sl .no 2 (es cSp n14)]), (272, .cell (seasonCell (⟨⟨⟨n0, n1⟩, ⟨n2, n3⟩, n4, n5, n6⟩, ⟨⟨n7, n8⟩, n9, n10⟩, n11, n12, n13, n14⟩ : Season))), (145, .arr 1 [])] :: s) = some (.exit 2, [(2, .ptr s.length 32 0), (9, .asl s.length 145 1 (((sky).foldl (fun (A : List Int) (x : Int) => A ++ n12.getD x.toNat []) [])).length 0 (((sky).foldl (fun (A : List Int) (x : Int) => A ++ n12.getD x.toNat []) [])).length), (26, i64 day), (27, i64 i), (29, .sl .no 1 (es cInt sky)), (30, i64 sky.length), (31, i64 sky.length), (32, .bool false)], [(32, .cell [i64 n0, i64 n1, i64 n2, i64 n3, .sl .no 2 (es cSp n4), .sl .no 2 (es cAnc n5), .sl .no 5 (es cWal n6), i64 n7, i64 n8, .sl .no 2 (es cSp n9), .sl .no 2 (es cBoat n10), .sl .no 4 (es cSky n11), .sl .no 1 (es cInts n12), .sl .no 1 (es cInt n13), .sl .no 2 (es cSp n14)]), (272, .cell (seasonCell (⟨⟨⟨n0, n1⟩, ⟨n2, n3⟩, n4, n5, n6⟩, ⟨⟨n7, n8⟩, n9, n10⟩, n11, n12, n13, n14⟩ : Season))), (145, .arr 1 (es cInt (((sky).foldl (fun (A : List Int) (x : Int) => A ++ n12.getD x.toNat []) []))))] :: s) := by
 have key := loop_fold (T := T) (live := [2, 9, 26, 27, 29, 30, 31]) (keep := [32, 145, 256, 272, 400, 704, 736]) (b := d31l1) (sky) (fun k (A : List Int) => A.length ≤ 4 * k) (fun (A : List Int) (x : Int) => A ++ n12.getD x.toNat []) (fun k (a : List Int) => [(2, .ptr s.length 32 0), (9, .asl s.length 145 1 (a).length 0 (a).length), (26, i64 day), (27, i64 i), (29, .sl .no 1 (es cInt sky)), (30, i64 sky.length), (31, i64 k)]) (fun k (a : List Int) => [(32, .cell [i64 n0, i64 n1, i64 n2, i64 n3, .sl .no 2 (es cSp n4), .sl .no 2 (es cAnc n5), .sl .no 5 (es cWal n6), i64 n7, i64 n8, .sl .no 2 (es cSp n9), .sl .no 2 (es cBoat n10), .sl .no 4 (es cSky n11), .sl .no 1 (es cInts n12), .sl .no 1 (es cInt n13), .sl .no 2 (es cSp n14)]), (272, .cell (seasonCell (⟨⟨⟨n0, n1⟩, ⟨n2, n3⟩, n4, n5, n6⟩, ⟨⟨n7, n8⟩, n9, n10⟩, n11, n12, n13, n14⟩ : Season))), (145, .arr 1 (es cInt (a)))] :: s) (fun (a : List Int) => (.exit 2, [(2, .ptr s.length 32 0), (9, .asl s.length 145 1 (a).length 0 (a).length), (26, i64 day), (27, i64 i), (29, .sl .no 1 (es cInt sky)), (30, i64 sky.length), (31, i64 sky.length), (32, .bool false)], [(32, .cell [i64 n0, i64 n1, i64 n2, i64 n3, .sl .no 2 (es cSp n4), .sl .no 2 (es cAnc n5), .sl .no 5 (es cWal n6), i64 n7, i64 n8, .sl .no 2 (es cSp n9), .sl .no 2 (es cBoat n10), .sl .no 4 (es cSky n11), .sl .no 1 (es cInts n12), .sl .no 1 (es cInt n13), .sl .no 2 (es cSp n14)]), (272, .cell (seasonCell (⟨⟨⟨n0, n1⟩, ⟨n2, n3⟩, n4, n5, n6⟩, ⟨⟨n7, n8⟩, n9, n10⟩, n11, n12, n13, n14⟩ : Season))), (145, .arr 1 (es cInt (a)))] :: s)) (by simp) ?_ ?_ ?_ [] (by simp) [(9, .asl s.length 145 1 0 0 0), (2, .ptr s.length 32 0), (9, .sl .full 1 []), (26, i64 day), (27, i64 i), (29, .sl .no 1 (es cInt sky)), (30, i64 sky.length), (31, i64 0)] ([(32, .cell [i64 n0, i64 n1, i64 n2, i64 n3, .sl .no 2 (es cSp n4), .sl .no 2 (es cAnc n5), .sl .no 5 (es cWal n6), i64 n7, i64 n8, .sl .no 2 (es cSp n9), .sl .no 2 (es cBoat n10), .sl .no 4 (es cSky n11), .sl .no 1 (es cInts n12), .sl .no 1 (es cInt n13), .sl .no 2 (es cSp n14)]), (272, .cell (seasonCell (⟨⟨⟨n0, n1⟩, ⟨n2, n3⟩, n4, n5, n6⟩, ⟨⟨n7, n8⟩, n9, n10⟩, n11, n12, n13, n14⟩ : Season))), (145, .arr 1 [])] :: s) (by simp) (by simp)
 ·exact key
 ·intro k a hk hi
  obtain ⟨hs1, hs2, hs3⟩ := hsky
  obtain ⟨x0, x1⟩ := hs3 sky[k] (List.getElem_mem hk)
  simp only at x1
  obtain ⟨hk2, hne, hf⟩ := follows_ok hok (k := sky[k].toNat) (by simp only; omega)
  have hfl := follows_len hok (k := sky[k].toNat) (by simp only; omega) hk2
  simp only at hk2 hne hf hfl
  have hfo : n12.getD sky[k].toNat [] = n12[sky[k].toNat] := by simp [List.getD, hk2]
  rw [hfo]
  have hb1 : (a.length + n12[sky[k].toNat].length) * 8 ≤ 140737488355328 := by omega
  have hb2 : a.length + n12[sky[k].toNat].length < 140737488355328 := by omega
  simp (maxSteps := 1000000) (disch := first | omega | assumption | decide +kernel | (simp; done) | (simp; omega) | fail) [run_drawnK, hk, x0, hk2, appA_many, hb1, hb2, hne, wk k (by omega)]
 ·intro k a hk hi
  obtain ⟨hs1, hs2, hs3⟩ := hsky
  obtain ⟨x0, x1⟩ := hs3 sky[k] (List.getElem_mem hk)
  simp only at x1
  obtain ⟨hk2, hne, hf⟩ := follows_ok hok (k := sky[k].toNat) (by simp only; omega)
  have hfl := follows_len hok (k := sky[k].toNat) (by simp only; omega) hk2
  simp only at hk2 hfl
  have hfo : n12.getD sky[k].toNat [] = n12[sky[k].toNat] := by simp [List.getD, hk2]
  rw [hfo, List.length_append]
  omega
 ·intro a hi
  simp
theorem fold_flat (f : Int → List Int) : ∀ (l a : List Int), l.foldl (fun A x => A ++ f x) a = a ++ l.flatMap f
 | [], a => by simp
 | x :: l, a => by rw [List.foldl_cons, fold_flat f l]; simp
theorem es_takeI (l : List Int) (k : Nat) : (es cInt l).take k = es cInt (l.take k) := by simp [es]
set_option maxHeartbeats 1000000 in
theorem e_Skies_l0 (n0 : Int) (n1 : Int) (n2 : Int) (n3 : Int) (n4 : List Sp) (n5 : List Anc) (n6 : List Wal) (n7 : Int) (n8 : Int) (n9 : List Sp) (n10 : List Boat) (n11 : List Sky) (n12 : List (List Int)) (n13 : List Int) (n14 : List Sp) (hok : seasonOk (⟨⟨⟨n0, n1⟩, ⟨n2, n3⟩, n4, n5, n6⟩, ⟨⟨n7, n8⟩, n9, n10⟩, n11, n12, n13, n14⟩ : Season) = true) (day : Nat) (hd : day ≤ 1000) (s : Stk) :
 Run T b31l0 [(2, .ptr s.length 32 0), (8, .sl .no 1 (es cInt n13)), (26, i64 day), (27, i64 0)] ([(32, .cell [i64 n0, i64 n1, i64 n2, i64 n3, .sl .no 2 (es cSp n4), .sl .no 2 (es cAnc n5), .sl .no 5 (es cWal n6), i64 n7, i64 n8, .sl .no 2 (es cSp n9), .sl .no 2 (es cBoat n10), .sl .no 4 (es cSky n11), .sl .no 1 (es cInts n12), .sl .no 1 (es cInt n13), .sl .no 2 (es cSp n14)]), (272, .cell (seasonCell (⟨⟨⟨n0, n1⟩, ⟨n2, n3⟩, n4, n5, n6⟩, ⟨⟨n7, n8⟩, n9, n10⟩, n11, n12, n13, n14⟩ : Season)))] :: s) = some (.exit 0, [(2, .ptr s.length 32 0), (8, .sl .no 1 (es cInt (((List.range day).foldl (fun (l : List Int) (_ : Nat) => nextSet (⟨⟨⟨n0, n1⟩, ⟨n2, n3⟩, n4, n5, n6⟩, ⟨⟨n7, n8⟩, n9, n10⟩, n11, n12, n13, n14⟩ : Season) l) n13)))), (26, i64 day), (27, i64 day), (28, .bool false)], [(32, .cell [i64 n0, i64 n1, i64 n2, i64 n3, .sl .no 2 (es cSp n4), .sl .no 2 (es cAnc n5), .sl .no 5 (es cWal n6), i64 n7, i64 n8, .sl .no 2 (es cSp n9), .sl .no 2 (es cBoat n10), .sl .no 4 (es cSky n11), .sl .no 1 (es cInts n12), .sl .no 1 (es cInt n13), .sl .no 2 (es cSp n14)]), (272, .cell (seasonCell (⟨⟨⟨n0, n1⟩, ⟨n2, n3⟩, n4, n5, n6⟩, ⟨⟨n7, n8⟩, n9, n10⟩, n11, n12, n13, n14⟩ : Season)))] :: s) := by
 have key := loop_fold (T := T) (live := [2, 8, 26, 27]) (keep := [32, 256, 272, 400]) (b := d31l0) (List.range day) (fun k (l : List Int) => SkyL (⟨⟨⟨n0, n1⟩, ⟨n2, n3⟩, n4, n5, n6⟩, ⟨⟨n7, n8⟩, n9, n10⟩, n11, n12, n13, n14⟩ : Season) l) (fun (l : List Int) (_ : Nat) => nextSet (⟨⟨⟨n0, n1⟩, ⟨n2, n3⟩, n4, n5, n6⟩, ⟨⟨n7, n8⟩, n9, n10⟩, n11, n12, n13, n14⟩ : Season) l) (fun k (a : List Int) => [(2, .ptr s.length 32 0), (8, .sl .no 1 (es cInt (a))), (26, i64 day), (27, i64 k)]) (fun k (a : List Int) => [(32, .cell [i64 n0, i64 n1, i64 n2, i64 n3, .sl .no 2 (es cSp n4), .sl .no 2 (es cAnc n5), .sl .no 5 (es cWal n6), i64 n7, i64 n8, .sl .no 2 (es cSp n9), .sl .no 2 (es cBoat n10), .sl .no 4 (es cSky n11), .sl .no 1 (es cInts n12), .sl .no 1 (es cInt n13), .sl .no 2 (es cSp n14)]), (272, .cell (seasonCell (⟨⟨⟨n0, n1⟩, ⟨n2, n3⟩, n4, n5, n6⟩, ⟨⟨n7, n8⟩, n9, n10⟩, n11, n12, n13, n14⟩ : Season)))] :: s) (fun (a : List Int) => (.exit 0, [(2, .ptr s.length 32 0), (8, .sl .no 1 (es cInt (a))), (26, i64 day), (27, i64 day), (28, .bool false)], [(32, .cell [i64 n0, i64 n1, i64 n2, i64 n3, .sl .no 2 (es cSp n4), .sl .no 2 (es cAnc n5), .sl .no 5 (es cWal n6), i64 n7, i64 n8, .sl .no 2 (es cSp n9), .sl .no 2 (es cBoat n10), .sl .no 4 (es cSky n11), .sl .no 1 (es cInts n12), .sl .no 1 (es cInt n13), .sl .no 2 (es cSp n14)]), (272, .cell (seasonCell (⟨⟨⟨n0, n1⟩, ⟨n2, n3⟩, n4, n5, n6⟩, ⟨⟨n7, n8⟩, n9, n10⟩, n11, n12, n13, n14⟩ : Season)))] :: s)) (by simp) ?_ ?_ ?_ n13 (first_sky hok) [(2, .ptr s.length 32 0), (8, .sl .no 1 (es cInt n13)), (26, i64 day), (27, i64 0)] ([(32, .cell [i64 n0, i64 n1, i64 n2, i64 n3, .sl .no 2 (es cSp n4), .sl .no 2 (es cAnc n5), .sl .no 5 (es cWal n6), i64 n7, i64 n8, .sl .no 2 (es cSp n9), .sl .no 2 (es cBoat n10), .sl .no 4 (es cSky n11), .sl .no 1 (es cInts n12), .sl .no 1 (es cInt n13), .sl .no 2 (es cSp n14)]), (272, .cell (seasonCell (⟨⟨⟨n0, n1⟩, ⟨n2, n3⟩, n4, n5, n6⟩, ⟨⟨n7, n8⟩, n9, n10⟩, n11, n12, n13, n14⟩ : Season)))] :: s) (by simp) (by simp)
 ·exact key
 ·intro k a hk hi
  try simp only [List.length_range] at hk
  try simp only [List.getElem_range]
  have key := e_Skies_l1 n0 n1 n2 n3 n4 n5 n6 n7 n8 n9 n10 n11 n12 n13 n14 hok day k a hi s
  rw [fold_flat, List.nil_append] at key
  have hmem := mem_nextSet hok hi
  simp only at hmem
  have hFne : (a.flatMap fun (x : Int) => n12.getD x.toNat []) ≠ [] := by
   intro h
   have := nextSet_ok hok hi
   obtain ⟨y, r, hy⟩ : ∃ y r, nextSet (⟨⟨⟨n0, n1⟩, ⟨n2, n3⟩, n4, n5, n6⟩, ⟨⟨n7, n8⟩, n9, n10⟩, n11, n12, n13, n14⟩ : Season) a = y :: r := by cases h2 : nextSet (⟨⟨⟨n0, n1⟩, ⟨n2, n3⟩, n4, n5, n6⟩, ⟨⟨n7, n8⟩, n9, n10⟩, n11, n12, n13, n14⟩ : Season) a with
    | nil => exact absurd h2 this.1
    | cons y r => exact ⟨y, r, rfl⟩
   have := (hmem y).1 (by rw [hy]; simp)
   rw [h] at this; simp at this
  have hFl : (a.flatMap fun (x : Int) => n12.getD x.toNat []).length ≤ 4 * a.length := by
   rw [Nat.mul_comm]
   refine flat_le _ 4 a fun x hx => ?_
   obtain ⟨x0, x1⟩ := hi.2.2 x hx
   simp only at x1
   obtain ⟨hk2, _, _⟩ := follows_ok hok (k := x.toNat) (by simp only; omega)
   have hfl := follows_len hok (k := x.toNat) (by simp only; omega) hk2
   simp only at hk2 hfl
   have hfo : n12.getD x.toNat [] = n12[x.toNat] := by simp [List.getD, hk2]
   rw [hfo]; exact hfl
  have ha4 := hi.2.1
  generalize (a.flatMap fun (x : Int) => n12.getD x.toNat []) = F at *
  have hsl : (sortedI F).length = F.length := List.length_mergeSort _
  have hS := fun lab => e_Sort F hFne (by omega) s.length 145 ([(32, .cell [i64 n0, i64 n1, i64 n2, i64 n3, .sl .no 2 (es cSp n4), .sl .no 2 (es cAnc n5), .sl .no 5 (es cWal n6), i64 n7, i64 n8, .sl .no 2 (es cSp n9), .sl .no 2 (es cBoat n10), .sl .no 4 (es cSky n11), .sl .no 1 (es cInts n12), .sl .no 1 (es cInt n13), .sl .no 2 (es cSp n14)]), (272, .cell (seasonCell (⟨⟨⟨n0, n1⟩, ⟨n2, n3⟩, n4, n5, n6⟩, ⟨⟨n7, n8⟩, n9, n10⟩, n11, n12, n13, n14⟩ : Season))), (145, .arr 1 (es cInt F))] :: s) (by simp) lab
  obtain ⟨R, A, hC, hA1, hA2, hA3, hA4⟩ := e_Compact (sortedI F) F.length hsl (by omega) (by intro h; rw [h] at hsl; exact hFne (List.length_eq_zero_iff.1 hsl.symm)) (sortedI_sorted F) s.length 145 (fun a => [(32, .cell [i64 n0, i64 n1, i64 n2, i64 n3, .sl .no 2 (es cSp n4), .sl .no 2 (es cAnc n5), .sl .no 5 (es cWal n6), i64 n7, i64 n8, .sl .no 2 (es cSp n9), .sl .no 2 (es cBoat n10), .sl .no 4 (es cSky n11), .sl .no 1 (es cInts n12), .sl .no 1 (es cInt n13), .sl .no 2 (es cSp n14)]), (272, .cell (seasonCell (⟨⟨⟨n0, n1⟩, ⟨n2, n3⟩, n4, n5, n6⟩, ⟨⟨n7, n8⟩, n9, n10⟩, n11, n12, n13, n14⟩ : Season))), (145, .arr 1 (es cInt a))] :: s) (by simp) (by simp) (by simp) 736
  have hRe : R = nextSet (⟨⟨⟨n0, n1⟩, ⟨n2, n3⟩, n4, n5, n6⟩, ⟨⟨n7, n8⟩, n9, n10⟩, n11, n12, n13, n14⟩ : Season) a := strict_eq _ _ hA3 (nextSet_strict _ _) fun y => by
   rw [hA4, hmem, sortedI, List.mem_mergeSort]
  rw [hRe] at hC hA2
  have hk1 : (k : Int) < day := by omega
  have hRle : (nextSet (⟨⟨⟨n0, n1⟩, ⟨n2, n3⟩, n4, n5, n6⟩, ⟨⟨n7, n8⟩, n9, n10⟩, n11, n12, n13, n14⟩ : Season) a).length ≤ F.length := by
   have := congrArg List.length hA2
   rw [List.length_take, hA1] at this
   omega
  by_cases hq : (nextSet (⟨⟨⟨n0, n1⟩, ⟨n2, n3⟩, n4, n5, n6⟩, ⟨⟨n7, n8⟩, n9, n10⟩, n11, n12, n13, n14⟩ : Season) a).length = F.length
  ·rw [hq] at hC hA2 hRle
   simp (maxSteps := 1000000) (disch := first | omega | assumption | decide +kernel | (simp; done) | (simp; omega) | fail) [run_drawnK, hk, hk1, key, hS, hC, hA1, hA2, hq, es_takeI, wk k (by omega)]
  ·simp (maxSteps := 1000000) (disch := first | omega | assumption | decide +kernel | (simp; done) | (simp; omega) | fail) [run_drawnK, hk, hk1, key, hS, hC, hA1, hA2, hRle, hq, es_takeI, wk k (by omega)]
 ·intro k a hk hi
  try simp only [List.length_range] at hk
  try simp only [List.getElem_range]
  exact nextSet_ok hok hi
 ·intro a hi
  simp
def skiesR (n : Season) (day : Int) : List Int × Int := if seasonOk n = true then (if isDayS n day = true then (skiesL n day.toNat, 0) else ([], 1)) else ([], 130)
theorem e_Skies (n0 : Int) (n1 : Int) (n2 : Int) (n3 : Int) (n4 : List Sp) (n5 : List Anc) (n6 : List Wal) (n7 : Int) (n8 : Int) (n9 : List Sp) (n10 : List Boat) (n11 : List Sky) (n12 : List (List Int)) (n13 : List Int) (n14 : List Sp) (hs : Short (⟨⟨⟨n0, n1⟩, ⟨n2, n3⟩, n4, n5, n6⟩, ⟨⟨n7, n8⟩, n9, n10⟩, n11, n12, n13, n14⟩ : Season)) (day : Int) (lab s) : den T 31 [.agg [i64 n0, i64 n1, i64 n2, i64 n3, .sl .no 2 (es cSp n4), .sl .no 2 (es cAnc n5), .sl .no 5 (es cWal n6), i64 n7, i64 n8, .sl .no 2 (es cSp n9), .sl .no 2 (es cBoat n10), .sl .no 4 (es cSky n11), .sl .no 1 (es cInts n12), .sl .no 1 (es cInt n13), .sl .no 2 (es cSp n14)], i64 day] lab s = some (.tup [.sl .no 1 (es cInt (skiesR (⟨⟨⟨n0, n1⟩, ⟨n2, n3⟩, n4, n5, n6⟩, ⟨⟨n7, n8⟩, n9, n10⟩, n11, n12, n13, n14⟩ : Season) day).1), i64 (skiesR (⟨⟨⟨n0, n1⟩, ⟨n2, n3⟩, n4, n5, n6⟩, ⟨⟨n7, n8⟩, n9, n10⟩, n11, n12, n13, n14⟩ : Season) day).2], s) := by
 have hd := fun lab s => e_isDay13p n0 n1 n2 n3 n4 n5 n6 n7 n8 n9 n10 n11 n12 n13 n14 day hs.days lab s
 have hd0 : within day 0 (n14.length - 1) = isDayS (⟨⟨⟨n0, n1⟩, ⟨n2, n3⟩, n4, n5, n6⟩, ⟨⟨n7, n8⟩, n9, n10⟩, n11, n12, n13, n14⟩ : Season) day := rfl
 rw [den_fn t31 _ _ _ rfl]
 simp only [b31]
 cases c0 : seasonOk (⟨⟨⟨n0, n1⟩, ⟨n2, n3⟩, n4, n5, n6⟩, ⟨⟨n7, n8⟩, n9, n10⟩, n11, n12, n13, n14⟩ : Season)
 ·have ho := fun b lab loc s => e_open13_bad n0 n1 n2 n3 n4 n5 n6 n7 n8 n9 n10 n11 n12 n13 n14 hs c0 b lab loc s
  cases c1 : isDayS (⟨⟨⟨n0, n1⟩, ⟨n2, n3⟩, n4, n5, n6⟩, ⟨⟨n7, n8⟩, n9, n10⟩, n11, n12, n13, n14⟩ : Season) day
  ·simp (disch := first | omega | assumption | decide +kernel | (simp; done) | (simp; omega) | fail) [hd, hd0, c0, c1, ho, skiesR]
  ·simp (disch := first | omega | assumption | decide +kernel | (simp; done) | (simp; omega) | fail) [hd, hd0, c0, c1, ho, skiesR]
 ·have ho := fun lab loc s => e_open13_arg n0 n1 n2 n3 n4 n5 n6 n7 n8 n9 n10 n11 n12 n13 n14 hs c0 lab loc s
  cases c1 : isDayS (⟨⟨⟨n0, n1⟩, ⟨n2, n3⟩, n4, n5, n6⟩, ⟨⟨n7, n8⟩, n9, n10⟩, n11, n12, n13, n14⟩ : Season) day
  ·simp (disch := first | omega | assumption | decide +kernel | (simp; done) | (simp; omega) | fail) [hd, hd0, c0, c1, ho, skiesR]
  have hr : skiesR (⟨⟨⟨n0, n1⟩, ⟨n2, n3⟩, n4, n5, n6⟩, ⟨⟨n7, n8⟩, n9, n10⟩, n11, n12, n13, n14⟩ : Season) day = (skiesL (⟨⟨⟨n0, n1⟩, ⟨n2, n3⟩, n4, n5, n6⟩, ⟨⟨n7, n8⟩, n9, n10⟩, n11, n12, n13, n14⟩ : Season) day.toNat, 0) := by simp [skiesR, c0, c1]
  obtain ⟨day, rfl, hday⟩ := isDay_nat c1
  simp only at hday
  have h5 := (seasonOk_iff.1 c0).2.2.2.2.2.2.1
  simp only at h5
  have hp := fun lab loc s k0 => e_open13 n0 n1 n2 n3 n4 n5 n6 n7 n8 n9 n10 n11 n12 n13 n14 hs c0 lab loc s k0
  obtain ⟨f1, f2, f3⟩ := first_sky c0
  simp only at f1 f2
  have hcl := fun lab s => e_CloneI n13 f1 (by omega) lab s
  have key := fun s => e_Skies_l0 n0 n1 n2 n3 n4 n5 n6 n7 n8 n9 n10 n11 n12 n13 n14 c0 day (by omega) s
  have hfold : (List.range day).foldl (fun (l : List Int) (_ : Nat) => nextSet (⟨⟨⟨n0, n1⟩, ⟨n2, n3⟩, n4, n5, n6⟩, ⟨⟨n7, n8⟩, n9, n10⟩, n11, n12, n13, n14⟩ : Season) l) n13 = skiesL (⟨⟨⟨n0, n1⟩, ⟨n2, n3⟩, n4, n5, n6⟩, ⟨⟨n7, n8⟩, n9, n10⟩, n11, n12, n13, n14⟩ : Season) day := rfl
  simp only [hfold] at key
  rw [hr]
  simp (maxSteps := 1000000) (disch := first | omega | assumption | decide +kernel | (simp; done) | (simp; omega) | fail) [orSlow_none, hd, hd0, c0, c1, hp, hcl, key]
end Go.Proofs.YtekgicoibcgecaaGreat

/-
  Chapter 13: what courses bring; the worst one; regret; skies on a course.
-/
namespace Go.Proofs.YtekgicoibcgecaaGreat
open Go.Ab
def bringsF (n : Season) (k : Nat) (c : List Int) : Int := match firstLift n k c with
 | some j => dayLo n j
 | none => 0
theorem bringsF_zero (n : Season) (c : List Int) : bringsF n 0 c = bringsS n c := rfl
theorem bringsF_lift {n : Season} {k : Nat} {x : Int} (c : List Int) (h : liftS n k x = true) : bringsF n k (x :: c) = dayLo n k := by simp [bringsF, firstLift, h]
theorem bringsF_on {n : Season} {k : Nat} {x : Int} (c : List Int) (h : ¬ liftS n k x = true) : bringsF n k (x :: c) = bringsF n (k + 1) c := by simp [bringsF, firstLift, h]
theorem leastL_le_of (f : Int → Int) : ∀ (l : List Int) (a : Int) (x : Int), x ∈ l → l.foldl (fun a x => min a (f x)) a ≤ f x
 | y :: l, a, x, h => by
   rw [List.foldl_cons]
   rcases List.mem_cons.1 h with rfl | h
   ·have := leastL_le0 f l (min a (f x)); omega
   ·exact leastL_le_of f l _ x h
theorem leastL_some (f : Int → Int) : ∀ (l : List Int) (a : Int), l.foldl (fun a x => min a (f x)) a = a ∨ ∃ x ∈ l, l.foldl (fun a x => min a (f x)) a = f x
 | [], a => .inl rfl
 | y :: l, a => by
   rw [List.foldl_cons]
   rcases leastL_some f l (min a (f y)) with h | ⟨x, h1, h2⟩
   ·rw [h]
    by_cases c : a ≤ f y
    ·exact .inl (by omega)
    ·exact .inr ⟨y, by simp, by omega⟩
   ·exact .inr ⟨x, by simp [h1], h2⟩
theorem leastL_at (f : Int → Int) (l : List Int) (hne : l ≠ []) (h2 : ∀ x ∈ l, f x ≤ 2000) : ∃ x ∈ l, leastL f l = f x := by
 rcases leastL_some f l 2000 with h | h
 ·obtain ⟨x, r, rfl⟩ : ∃ x r, l = x :: r := by cases l with
   | nil => exact absurd rfl hne
   | cons x r => exact ⟨x, r, rfl⟩
  have h3 := leastL_le_of f (x :: r) 2000 x (by simp)
  have h4 := h2 x (by simp)
  exact ⟨x, by simp, by rw [leastL]; omega⟩
 ·exact h
theorem follows_at {n : Season} (hok : seasonOk n = true) {x : Int} (h0 : 0 ≤ x) (h1 : x < (n.skies.length : Int)) : n.follows.getD x.toNat [] ≠ [] ∧ ∀ y : Int, y ∈ n.follows.getD x.toNat [] → 0 ≤ y ∧ y < (n.skies.length : Int) := by
 obtain ⟨hk2, hne, hf⟩ := follows_ok hok (k := x.toNat) (by omega)
 have hfo : n.follows.getD x.toNat [] = n.follows[x.toNat] := by simp [List.getD, hk2]
 rw [hfo]; exact ⟨hne, hf⟩
theorem worth_at (n : Season) {k r : Nat} (h : k + (r + 1) = n.days.length) (x : Int) : worthS n (r + 1) x = if mayS n k x.toNat = true then max (leastL (worthS n r) (n.follows.getD x.toNat [])) (dayLo n k) else leastL (worthS n r) (n.follows.getD x.toNat []) := by
 have : n.days.length - (r + 1) = k := by omega
 simp only [worthS, this]
theorem lift_at (n : Season) {k r : Nat} (h : k + (r + 1) = n.days.length) (x : Int) : liftS n k x = true ↔ mayS n k x.toNat = true ∧ worthS n (r + 1) x ≤ dayLo n k := by
 have : n.days.length - k = r + 1 := by omega
 simp only [liftS, this, Bool.and_eq_true, decide_eq_true_eq]
theorem dayLo_ok {n : Season} (hok : seasonOk n = true) {k : Nat} (hk : k < n.days.length) : 0 ≤ dayLo n k ∧ dayLo n k ≤ 2000 := by
 have := days_ok hok hk
 simp only [dayLo, List.getD, List.getElem?_eq_getElem hk, Option.getD_some]
 omega
theorem worth_on {n : Season} {k r : Nat} (h : k + (r + 1) = n.days.length) {x : Int} (hl : ¬ liftS n k x = true) : worthS n (r + 1) x = leastL (worthS n r) (n.follows.getD x.toNat []) := by
 have h1 := worth_at n h x
 rw [lift_at n h] at hl
 by_cases c : mayS n k x.toNat = true
 ·rw [if_pos c] at h1
  have : ¬ worthS n (r + 1) x ≤ dayLo n k := fun h => hl ⟨c, h⟩
  omega
 ·rw [if_neg c] at h1; exact h1
theorem worth_lift {n : Season} {k r : Nat} (h : k + (r + 1) = n.days.length) {x : Int} (hl : liftS n k x = true) : worthS n (r + 1) x = dayLo n k := by
 have h1 := worth_at n h x
 obtain ⟨c, h2⟩ := (lift_at n h x).1 hl
 rw [if_pos c] at h1
 omega
theorem brings_ge {n : Season} (hok : seasonOk n = true) : ∀ (c : List Int) (k : Nat) (x : Int), k + (c.length + 1) = n.days.length → 0 ≤ x → x < (n.skies.length : Int) → courseL n (n.follows.getD x.toNat []) c = true → worthS n (c.length + 1) x ≤ bringsF n k (x :: c)
 | [], k, x, hk, h0, h1, hc => by
   obtain ⟨f1, f2⟩ := follows_at hok h0 h1
   by_cases hl : liftS n k x = true
   ·rw [bringsF_lift _ hl, worth_lift hk hl]; exact Int.le_refl _
   ·rw [bringsF_on _ hl, worth_on hk hl]
    have : leastL (worthS n 0) (n.follows.getD x.toNat []) = 0 := least_zero _ f1
    simp only [List.length_nil] at this ⊢
    rw [this]
    simp [bringsF, firstLift]
 | y :: c, k, x, hk, h0, h1, hc => by
   obtain ⟨f1, f2⟩ := follows_at hok h0 h1
   by_cases hl : liftS n k x = true
   ·rw [bringsF_lift _ hl, worth_lift hk hl]; exact Int.le_refl _
   ·rw [bringsF_on _ hl, worth_on hk hl]
    simp only [courseL, Bool.and_eq_true, inB_iff] at hc
    obtain ⟨y0, y1⟩ := f2 y hc.1
    have := brings_ge hok c (k + 1) y (by simp only [List.length_cons] at hk; omega) y0 y1 hc.2
    have h2 : leastL (worthS n (c.length + 1)) (n.follows.getD x.toNat []) ≤ worthS n (c.length + 1) y := leastL_le_of _ _ _ y hc.1
    simp only [List.length_cons]
    omega
theorem some_course {n : Season} (hok : seasonOk n = true) : ∀ (r : Nat) (x : Int), 0 ≤ x → x < (n.skies.length : Int) → ∃ c, c.length = r ∧ courseL n (n.follows.getD x.toNat []) c = true
 | 0, x, _, _ => ⟨[], rfl, rfl⟩
 | r + 1, x, h0, h1 => by
   obtain ⟨f1, f2⟩ := follows_at hok h0 h1
   obtain ⟨y, l, hy⟩ : ∃ y l, n.follows.getD x.toNat [] = y :: l := by cases h : n.follows.getD x.toNat [] with
    | nil => exact absurd h f1
    | cons y l => exact ⟨y, l, rfl⟩
   obtain ⟨y0, y1⟩ := f2 y (by rw [hy]; simp)
   obtain ⟨c, h2, h3⟩ := some_course hok r y y0 y1
   exact ⟨y :: c, by simp [h2], by simp only [courseL, Bool.and_eq_true, inB_iff]; exact ⟨by rw [hy]; simp, h3⟩⟩
theorem brings_at {n : Season} (hok : seasonOk n = true) : ∀ (r k : Nat) (x : Int), k + (r + 1) = n.days.length → 0 ≤ x → x < (n.skies.length : Int) → ∃ c, c.length = r ∧ courseL n (n.follows.getD x.toNat []) c = true ∧ bringsF n k (x :: c) = worthS n (r + 1) x
 | r, k, x, hk, h0, h1 => by
   obtain ⟨f1, f2⟩ := follows_at hok h0 h1
   by_cases hl : liftS n k x = true
   ·obtain ⟨c, h2, h3⟩ := some_course hok r x h0 h1
    exact ⟨c, h2, h3, by rw [bringsF_lift _ hl, worth_lift hk hl]⟩
   ·cases r with
    | zero =>
      refine ⟨[], rfl, rfl, ?_⟩
      rw [bringsF_on _ hl, worth_on hk hl]
      have : leastL (worthS n 0) (n.follows.getD x.toNat []) = 0 := least_zero _ f1
      rw [this]
      simp [bringsF, firstLift]
    | succ r =>
      obtain ⟨y, hy, h2⟩ := leastL_at (worthS n (r + 1)) _ f1 (fun y hy => (worthS_range hok (r + 1) y (by omega) (f2 y hy).1 (f2 y hy).2).2)
      obtain ⟨c, c1, c2, c3⟩ := brings_at hok r (k + 1) y (by omega) (f2 y hy).1 (f2 y hy).2
      refine ⟨y :: c, by simp [c1], by simp only [courseL, Bool.and_eq_true, inB_iff]; exact ⟨hy, c2⟩, ?_⟩
      rw [bringsF_on _ hl, worth_on hk hl, h2, c3]
theorem course_iff (n : Season) (c : List Int) : c ∈ allCourses n ↔ isCourse n c = true := by
 simp only [isCourse, Bool.and_eq_true, decide_eq_true_eq]
 constructor
 ·intro h
  obtain ⟨c1, rfl, h1, h2⟩ := mem_course n n.days.length c [] n.first h
  exact ⟨h1, h2⟩
 ·rintro ⟨h1, h2⟩
  have := course_mem n c [] n.first h2
  rw [List.nil_append, h1] at this
  exact this
theorem best_courses {n : Season} (hok : seasonOk n = true) : (∀ c ∈ allCourses n, bestS n ≤ bringsS n c) ∧ ∃ c ∈ allCourses n, bringsS n c = bestS n := by
 obtain ⟨f1, f2⟩ := first_ok hok
 cases hD : n.days.length with
 | zero =>
   have hb : bestS n = 0 := by rw [bestS, hD]; exact least_zero _ f1
   have hc : ∀ c ∈ allCourses n, c = [] := fun c hc => by
    have := ((course_iff n c).1 hc)
    simp only [isCourse, Bool.and_eq_true, decide_eq_true_eq, hD] at this
    exact List.length_eq_zero_iff.1 this.1
   have h0 : bringsS n [] = 0 := rfl
   refine ⟨fun c h => by rw [hc c h, hb, h0]; exact Int.le_refl _, [], (course_iff n []).2 (by simp [isCourse, courseL, hD]), by rw [hb, h0]⟩
 | succ r =>
   constructor
   ·intro c hc
    have h1 := (course_iff n c).1 hc
    simp only [isCourse, Bool.and_eq_true, decide_eq_true_eq] at h1
    cases c with
    | nil => simp [hD] at h1
    | cons x c =>
      have h2 := h1.2
      simp only [courseL, Bool.and_eq_true, inB_iff] at h2
      obtain ⟨x0, x1⟩ := f2 x h2.1
      have h3 := brings_ge hok c 0 x (by have := h1.1; simp only [List.length_cons] at this; omega) x0 x1 h2.2
      have h4 : bestS n ≤ worthS n n.days.length x := leastL_le_of _ _ _ x h2.1
      rw [bringsF_zero] at h3
      have h5 : n.days.length = c.length + 1 := by have := h1.1; simp only [List.length_cons] at this; omega
      rw [h5] at h4
      omega
   ·obtain ⟨x, hx, h2⟩ := leastL_at (worthS n n.days.length) n.first f1 (fun y hy => (worthS_range hok _ y (Nat.le_refl _) (f2 y hy).1 (f2 y hy).2).2)
    obtain ⟨c, c1, c2, c3⟩ := brings_at hok r 0 x (by omega) (f2 x hx).1 (f2 x hx).2
    refine ⟨x :: c, (course_iff n _).2 ?_, ?_⟩
    ·simp only [isCourse, courseL, Bool.and_eq_true, decide_eq_true_eq, inB_iff]
     exact ⟨by simp only [List.length_cons]; omega, hx, c2⟩
    ·rw [← bringsF_zero, c3, bestS, h2, hD]
def earlierB : List Int → List Int → Bool
 | x :: a, y :: b => if x = y then earlierB a b else decide (x < y)
 | _, _ => false
theorem earlier_app : ∀ (c a b : List Int), earlierB (c ++ a) (c ++ b) = earlierB a b
 | [], a, b => rfl
 | x :: c, a, b => by simp only [List.cons_append, earlierB, if_true]; exact earlier_app c a b
theorem earlier_self : ∀ a : List Int, earlierB a a = false
 | [] => rfl
 | x :: a => by simp only [earlierB, if_true]; exact earlier_self a
theorem rising_pair {l : List Int} {lo hi : Int} (h : rising l lo hi = true) : l.Pairwise (· < ·) := by
 have key : ∀ i j : Nat, i < j → ∀ (hj : j < l.length) (hi : i < l.length), l[i] < l[j] := by
  intro i j
  induction j with
  | zero => intro h; omega
  | succ j ih =>
    intro hij hj hi'
    have h2 := allB_iff.1 h (j + 1) (List.mem_range.2 hj)
    simp only [risingAt, Bool.and_eq_true, Nat.add_sub_cancel, Bool.or_eq_true, decide_eq_true_eq, List.getD, List.getElem?_eq_getElem hj, List.getElem?_eq_getElem (show j < l.length by omega), Option.getD_some] at h2
    rcases h2.2 with h3 | h3
    ·simp at h3
    ·rcases Nat.lt_or_ge i j with h4 | h4
     ·have := ih h4 (by omega) hi'; omega
     ·have : i = j := by omega
      subst this; exact h3
 exact List.pairwise_iff_getElem.2 fun i j hi hj hij => key i j hij hj hi
theorem courses_sorted {n : Season} (hok : seasonOk n = true) : ∀ (r : Nat) (c nx : List Int), nx.Pairwise (· < ·) → (∀ x : Int, x ∈ nx → 0 ≤ x ∧ x < (n.skies.length : Int)) → (coursesFrom n r c nx).Pairwise (fun a b => earlierB b a = false)
 | 0, c, nx, _, _ => List.pairwise_singleton _ _
 | r + 1, c, nx, hp, hx => by
   rw [coursesFrom, List.pairwise_flatMap]
   refine ⟨fun x hxm => ?_, ?_⟩
   ·obtain ⟨x0, x1⟩ := hx x hxm
    obtain ⟨f1, f2⟩ := follows_at hok x0 x1
    refine courses_sorted hok r _ _ ?_ f2
    obtain ⟨hk2, _, _⟩ := follows_ok hok (k := x.toNat) (by omega)
    have h9 := allB_iff.1 (seasonOk_iff.1 hok).2.2.2.2.2.2.2.1 x.toNat (List.mem_range.2 (by omega))
    have hfo : n.follows.getD x.toNat [] = n.follows[x.toNat] := by simp [List.getD, hk2]
    have hk3 : x.toNat < n.skies.length := by omega
    simp only [skyAt, List.getElem?_eq_getElem hk3, List.getElem?_eq_getElem hk2, areSkies, Bool.and_eq_true, decide_eq_true_eq] at h9
    rw [hfo]
    exact rising_pair h9.2.2
   ·refine hp.imp_of_mem fun {x y} hxm hym hxy => ?_
    intro a ha b hb
    obtain ⟨a1, rfl, _, _⟩ := mem_course n r a _ _ ha
    obtain ⟨b1, rfl, _, _⟩ := mem_course n r b _ _ hb
    rw [List.append_assoc, List.append_assoc, earlier_app]
    simp only [List.cons_append, List.nil_append, earlierB]
    rw [if_neg (by omega)]
    simp; omega
theorem worst_at (n : Season) : ∀ (L : List (List Int)) (w0 : Option (List Int)) (m : Int), 0 ≤ m → (∀ c ∈ L, 0 ≤ bringsS n c) →
 (L.foldl (worstY n) (w0, m) = (w0, m) ∧ ∀ c ∈ L, m ≤ bringsS n c) ∨ ∃ pre w post, L = pre ++ w :: post ∧ L.foldl (worstY n) (w0, m) = (some w, bringsS n w) ∧ bringsS n w < m ∧ (∀ c ∈ pre, bringsS n w < bringsS n c) ∧ ∀ c ∈ post, bringsS n w ≤ bringsS n c
 | [], w0, m, _, _ => .inl ⟨rfl, by simp⟩
 | c :: L, w0, m, hm, hp => by
   have hn : ¬ m < 0 := by omega
   rw [List.foldl_cons]
   by_cases h1 : bringsS n c < m
   ·have e : worstY n (w0, m) c = (some c, bringsS n c) := by simp [worstY, h1]
    rw [e]
    rcases worst_at n L (some c) (bringsS n c) (hp c (by simp)) (fun c hc => hp c (by simp [hc])) with ⟨h2, h3⟩ | ⟨pre, w, post, h2, h3, h4, h5, h6⟩
    ·exact .inr ⟨[], c, L, rfl, h2, h1, by simp, h3⟩
    ·refine .inr ⟨c :: pre, w, post, by rw [h2]; rfl, h3, by omega, fun x hx => ?_, h6⟩
     rcases List.mem_cons.1 hx with rfl | hx
     ·exact h4
     ·exact h5 x hx
   ·have e : worstY n (w0, m) c = (w0, m) := by simp [worstY, h1, hn]
    rw [e]
    rcases worst_at n L w0 m hm (fun c hc => hp c (by simp [hc])) with ⟨h2, h3⟩ | ⟨pre, w, post, h2, h3, h4, h5, h6⟩
    ·refine .inl ⟨h2, fun x hx => ?_⟩
     rcases List.mem_cons.1 hx with rfl | hx
     ·omega
     ·exact h3 x hx
    ·refine .inr ⟨c :: pre, w, post, by rw [h2]; rfl, h3, h4, fun x hx => ?_, h6⟩
     rcases List.mem_cons.1 hx with rfl | hx
     ·omega
     ·exact h5 x hx
theorem worst_course {n : Season} (hok : seasonOk n = true) : isCourse n (worstR n).1 = true ∧ bringsS n (worstR n).1 = bestS n ∧ ∀ c, isCourse n c = true → bringsS n c = bestS n → earlierB c (worstR n).1 = false := by
 obtain ⟨k1, k2, k3⟩ := allCourses_ok hok
 obtain ⟨b1, c0, b2, b3⟩ := best_courses hok
 have hge : ∀ c ∈ allCourses n, 0 ≤ bringsS n c := fun c hc => (brings_ok hok (c := c) (by have := (k3 c hc).1; omega)).1
 have hso := courses_sorted hok n.days.length [] n.first (by
  have h6 := (seasonOk_iff.1 hok).2.2.2.2.2.1
  simp only [areSkies, Bool.and_eq_true, decide_eq_true_eq] at h6
  exact rising_pair h6.2) (first_ok hok).2
 change (allCourses n).Pairwise _ at hso
 have hw : ∃ pre w post, allCourses n = pre ++ w :: post ∧ worstQ n = (some w, bringsS n w) ∧ (∀ c ∈ pre, bringsS n w < bringsS n c) ∧ ∀ c ∈ post, bringsS n w ≤ bringsS n c := by
  rw [worstQ]
  generalize allCourses n = L at *
  cases L with
  | nil => exact absurd rfl k2
  | cons c L =>
    have e : worstY n (none, -1) c = (some c, bringsS n c) := by simp [worstY]
    rw [List.foldl_cons, e]
    rcases worst_at n L (some c) (bringsS n c) (hge c (by simp)) (fun c hc => hge c (by simp [hc])) with ⟨h2, h3⟩ | ⟨pre, w, post, h2, h3, h4, h5, h6⟩
    ·exact ⟨[], c, L, rfl, h2, by simp, h3⟩
    ·refine ⟨c :: pre, w, post, by rw [h2]; rfl, h3, fun x hx => ?_, h6⟩
     rcases List.mem_cons.1 hx with rfl | hx
     ·exact h4
     ·exact h5 x hx
 obtain ⟨pre, w, post, w1, w2, w3, w4⟩ := hw
 have hwr : (worstR n).1 = w := by rw [worstR, if_pos hok, w2]; rfl
 have hmem : w ∈ allCourses n := by rw [w1]; simp
 have hmin : ∀ c ∈ allCourses n, bringsS n w ≤ bringsS n c := fun c hc => by
  rw [w1] at hc
  rcases List.mem_append.1 hc with h | h
  ·have := w3 c h; omega
  ·rcases List.mem_cons.1 h with rfl | h
   ·exact Int.le_refl _
   ·exact w4 c h
 have hbw : bringsS n w = bestS n := by
  have h1 := hmin c0 b2
  have h2 := b1 w hmem
  omega
 rw [hwr]
 refine ⟨(course_iff n w).1 hmem, hbw, fun c hc hcb => ?_⟩
 have hc2 := (course_iff n c).2 hc
 rw [w1] at hc2 hso
 rcases List.mem_append.1 hc2 with h | h
 ·have := w3 c h; omega
 ·rcases List.mem_cons.1 h with rfl | h
  ·exact earlier_self _
  ·exact (List.pairwise_cons.1 (List.pairwise_append.1 hso).2.1).1 c h
theorem regretL_ge (n : Season) (b : Int) : ∀ (c : List Int) (k : Nat) (a : Int), a ≤ regretL n b k a c ∧ ∀ j (hj : j < c.length), mayS n (k + j) c[j].toNat = true → dayLo n (k + j) - b ≤ regretL n b k a c
 | [], k, a => ⟨Int.le_refl _, fun j hj => by simp at hj⟩
 | x :: c, k, a => by
   obtain ⟨h1, h2⟩ := regretL_ge n b c (k + 1) (if mayS n k x.toNat = true then max a (dayLo n k - b) else a)
   refine ⟨?_, fun j hj hm => ?_⟩
   ·rw [regretL]
    by_cases hc : mayS n k x.toNat = true
    ·rw [if_pos hc] at h1 ⊢; omega
    ·rw [if_neg hc] at h1 ⊢; exact h1
   ·rw [regretL]
    cases j with
    | zero =>
      simp only [Nat.add_zero, List.getElem_cons_zero] at hm ⊢
      rw [if_pos hm] at h1 ⊢
      omega
    | succ j =>
      have := h2 j (by simpa using hj) (by simpa [Nat.add_assoc, Nat.add_comm 1] using hm)
      rw [show k + (j + 1) = k + 1 + j by omega]
      exact this
theorem regretL_le (n : Season) (b B : Int) (hb : 0 ≤ b) : ∀ (c : List Int) (k : Nat) (a : Int), a ≤ B → (∀ j, k ≤ j → j < k + c.length → dayLo n j ≤ B) → regretL n b k a c ≤ B
 | [], k, a, h, _ => h
 | x :: c, k, a, h, hd => by
   rw [regretL]
   refine regretL_le n b B hb c (k + 1) _ ?_ fun j h1 h2 => hd j (by omega) (by simp only [List.length_cons]; omega)
   have := hd k (Nat.le_refl _) (by simp)
   split <;> omega
theorem regret_fold (n : Season) : ∀ (L : List (List Int)) (a : Int), a ≤ L.foldl (regretY n) a ∧ ∀ c ∈ L, ∀ j (hj : j < c.length), mayS n j c[j].toNat = true → dayLo n j - bringsS n c ≤ L.foldl (regretY n) a
 | [], a => ⟨Int.le_refl _, by simp⟩
 | c :: L, a => by
   obtain ⟨h1, h2⟩ := regret_fold n L (regretY n a c)
   obtain ⟨h3, h4⟩ := regretL_ge n (bringsS n c) c 0 a
   rw [List.foldl_cons]
   refine ⟨Int.le_trans h3 h1, fun c' hc' j hj hm => ?_⟩
   rcases List.mem_cons.1 hc' with rfl | hc'
   ·have := h4 j hj (by simpa using hm)
    rw [Nat.zero_add] at this
    exact Int.le_trans this h1
   ·exact h2 c' hc' j hj hm
theorem regret_range {n : Season} (hok : seasonOk n = true) : 0 ≤ regretS n ∧ regretS n ≤ 2000 := by
 refine ⟨(regret_fold n _ 0).1, ?_⟩
 obtain ⟨k1, k2, k3⟩ := allCourses_ok hok
 have key : ∀ (L : List (List Int)) (a : Int), (∀ c ∈ L, c.length = n.days.length) → a ≤ 2000 → L.foldl (regretY n) a ≤ 2000 := by
  intro L
  induction L with
  | nil => intro a _ h; exact h
  | cons c L ih =>
    intro a hL h
    rw [List.foldl_cons]
    refine ih _ (fun c hc => hL c (by simp [hc])) ?_
    have hcl := hL c (by simp)
    exact regretL_le n _ 2000 (brings_ok hok (by omega)).1 c 0 a h fun j _ hj => (dayLo_ok hok (by omega)).2
 exact key _ 0 (fun c hc => (k3 c hc).1) (by omega)
def iterS (g : List Int → List Int) : Nat → List Int → List Int
 | 0, l => l
 | d + 1, l => iterS g d (g l)
theorem fold_iter (g : List Int → List Int) : ∀ (r : List Nat) (l : List Int), r.foldl (fun l _ => g l) l = iterS g r.length l
 | [], l => rfl
 | _ :: r, l => by rw [List.foldl_cons, fold_iter g r]; rfl
theorem course_sky {n : Season} (hok : seasonOk n = true) : ∀ (c nx l : List Int), SkyL n l → (∀ x ∈ nx, x ∈ l) → courseL n nx c = true → ∀ j (hj : j < c.length), c[j] ∈ iterS (nextSet n) j l
 | [], _, _, _, _, _, j, hj => by simp at hj
 | x :: c, nx, l, hl, hs, hc, j, hj => by
   simp only [courseL, Bool.and_eq_true, inB_iff] at hc
   have hx := hs x hc.1
   cases j with
   | zero => exact hx
   | succ j =>
     refine course_sky hok c _ (nextSet n l) (nextSet_ok hok hl) (fun y hy => (mem_nextSet hok hl y).2 (List.mem_flatMap.2 ⟨x, hx, hy⟩)) hc.2 j (by simpa using hj)
theorem skies_many {n : Season} (hok : seasonOk n = true) (d : Nat) : (skiesL n d).length ≤ n.skies.length := by
 cases d with
 | zero =>
   have h6 := (seasonOk_iff.1 hok).2.2.2.2.2.1
   have h3 := (seasonOk_iff.1 hok).2.2.1
   simp only [areSkies, Bool.and_eq_true, decide_eq_true_eq] at h6
   have := rising_len h6.2 (by omega)
   change n.first.length ≤ _
   omega
 | succ d =>
   rw [skiesL, List.range_succ, List.foldl_append]
   simp only [List.foldl_cons, List.foldl_nil, nextSet, List.length_map]
   exact Nat.le_trans (List.length_filter_le _ _) (by simp)
theorem skies_in {n : Season} (hok : seasonOk n = true) {c : List Int} (hc : isCourse n c = true) {j : Nat} (hj : j < c.length) : c[j] ∈ skiesL n j := by
 simp only [isCourse, Bool.and_eq_true, decide_eq_true_eq] at hc
 have := course_sky hok c n.first n.first (first_sky hok) (fun _ h => h) hc.2 j hj
 rw [skiesL, fold_iter, List.length_range]
 exact this
end Go.Proofs.YtekgicoibcgecaaGreat

/-
  SkiesCourse.
-/
namespace Go.Proofs.YtekgicoibcgecaaGreat
open Go.Ab
def diffB : List Int → List Int → Bool
 | x :: a, y :: b => !decide (x = y) || diffB a b
 | _, _ => false
theorem earlier_diff : ∀ (a b : List Int), diffB a b = false → earlierB a b = false
 | [], _, _ => by simp [earlierB]
 | _ :: _, [], _ => by simp [earlierB]
 | x :: a, y :: b, h => by
   simp only [diffB, Bool.or_eq_false_iff, Bool.not_eq_false', decide_eq_true_eq] at h
   simp only [earlierB, if_pos h.1]
   exact earlier_diff a b h.2
theorem e_Earlier_l (a b : List Int) (ha : a.length < 4611686018427387904) (hb : b.length < 4611686018427387904) (s : Stk) :
 Run T b42l0 [(0, .sl .no 1 (es cInt a)), (1, .sl .no 1 (es cInt b)), (5, i64 0)] ([] :: s) =
  some (if diffB a b = true then (.ret, [(4, .bool (earlierB a b))], [] :: s) else (.exit 0, [(0, .sl .no 1 (es cInt a)), (1, .sl .no 1 (es cInt b)), (5, i64 (a.zip b).length), (15, .bool false)], [] :: s)) := by
 have key := loop_list (T := T) (live := [0, 1, 5]) (keep := []) (b := d42l0) (a.zip b) (fun _ (_ : Unit) => True)
  (fun k _ => [(0, .sl .no 1 (es cInt a)), (1, .sl .no 1 (es cInt b)), (5, i64 k)]) (fun _ _ => [] :: s)
  (fun _ (x : Int × Int) => if x.1 = x.2 then .inl () else .inr (.ret, [(4, .bool (decide (x.1 < x.2)))], [] :: s))
  (fun _ => (.exit 0, [(0, .sl .no 1 (es cInt a)), (1, .sl .no 1 (es cInt b)), (5, i64 (a.zip b).length), (15, .bool false)], [] :: s))
  ?_ (fun k j j' hk hj h => trivial) (fun k j q hk hj h => by split at h <;> simp_all; rw [← h]; simp) ?_ (by simp) () trivial
  [(0, .sl .no 1 (es cInt a)), (1, .sl .no 1 (es cInt b)), (5, i64 0)] ([] :: s) (by simp) (by simp)
 ·refine key.trans ?_
  clear key
  congr 1
  generalize hq : ((Ex.exit 0, [(0, .sl .no 1 (es cInt a)), (1, .sl .no 1 (es cInt b)), (5, i64 (a.zip b).length), (15, .bool false)], [] :: s) : Ex × Env × Stk) = q
  clear hq ha hb
  induction a generalizing b with
  | nil => simp [foldS, diffB]
  | cons x a ih =>
    cases b with
    | nil => simp [foldS, diffB]
    | cons y b =>
      simp only [List.zip_cons_cons, foldS, diffB, earlierB]
      by_cases h : x = y
      ·subst h
       simp only [if_true, decide_true, Bool.not_true, Bool.false_or]
       exact ih b
      ·simp [h]
 ·intro k _ hk _
  have hka : k < a.length := by simp at hk; omega
  have hkb : k < b.length := by simp at hk; omega
  have he : (a.zip b)[k] = (a[k], b[k]) := by simp
  rw [he]
  simp only
  by_cases h : a[k] = b[k]
  ·simp (maxSteps := 1000000) (disch := first | omega | assumption | decide +kernel | (simp; done) | (simp; omega) | fail) [run_drawnK, hka, hkb, h, wk k (by omega)]
  ·by_cases h2 : a[k] < b[k]
   ·simp (maxSteps := 1000000) (disch := first | omega | assumption | decide +kernel | (simp; done) | (simp; omega) | fail) [run_drawnK, hka, hkb, h, h2]
   ·simp (maxSteps := 1000000) (disch := first | omega | assumption | decide +kernel | (simp; done) | (simp; omega) | fail) [run_drawnK, hka, hkb, h, h2]
 ·intro _ _
  rcases Nat.lt_or_ge b.length a.length with h | h
  ·have hm : min a.length b.length = b.length := by omega
   simp (maxSteps := 1000000) (disch := first | omega | assumption | decide +kernel | (simp; done) | (simp; omega) | fail) [h, hm]
  ·have hm : min a.length b.length = a.length := by omega
   simp (maxSteps := 1000000) (disch := first | omega | assumption | decide +kernel | (simp; done) | (simp; omega) | fail) [hm]
theorem e_Earlier (a b : List Int) (ha : a.length < 4611686018427387904) (hb : b.length < 4611686018427387904) (lab s) :
 den T 42 [.sl .no 1 (es cInt a), .sl .no 1 (es cInt b)] lab s = some (.bool (earlierB a b), s) := by
 have key := fun s => e_Earlier_l a b ha hb s
 rw [den_fn t42 _ _ _ rfl]
 simp only [b42]
 cases h : diffB a b
 ·have h2 := earlier_diff a b h
  simp only [h, Bool.false_eq_true, if_false] at key
  simp (maxSteps := 1000000) (disch := first | omega | assumption | decide +kernel | (simp; done) | (simp; omega) | fail) [key, h2]
 ·simp only [h, if_true] at key
  simp (maxSteps := 1000000) (disch := first | omega | assumption | decide +kernel | (simp; done) | (simp; omega) | fail) [key]
theorem lawBest_okz {n : Season} (hok : seasonOk n = true) : lawBest n = bestS n ∧ 0 ≤ bestS n ∧ bestS n ≤ 2000 := by
 have hf := (first_ok hok).2
 have h1 : 0 ≤ bestS n := leastL_ge _ _ 2000 (fun x hx => (worthS_range hok n.days.length x (Nat.le_refl _) (hf x hx).1 (hf x hx).2).1) (by omega)
 have h2 : bestS n ≤ 2000 := leastL_le0 _ _ _
 refine ⟨?_, h1, h2⟩
 simp [lawBest, bestR, hok, h1, h2]
theorem isSky_of {n : Season} {x : Int} (h0 : 0 ≤ x) (h1 : x < (n.skies.length : Int)) : isSkyS n x = true := by
 simp only [isSkyS, within_iff]; omega
theorem isDay_of {n : Season} {k : Nat} (h : k < n.days.length) : isDayS n k = true := by
 simp only [isDayS, within_iff]; omega
set_option maxHeartbeats 1000000 in
theorem e_Course_l (n0 : Int) (n1 : Int) (n2 : Int) (n3 : Int) (n4 : List Sp) (n5 : List Anc) (n6 : List Wal) (n7 : Int) (n8 : Int) (n9 : List Sp) (n10 : List Boat) (n11 : List Sky) (n12 : List (List Int)) (n13 : List Int) (n14 : List Sp) (hs : Short (⟨⟨⟨n0, n1⟩, ⟨n2, n3⟩, n4, n5, n6⟩, ⟨⟨n7, n8⟩, n9, n10⟩, n11, n12, n13, n14⟩ : Season)) (hok : seasonOk (⟨⟨⟨n0, n1⟩, ⟨n2, n3⟩, n4, n5, n6⟩, ⟨⟨n7, n8⟩, n9, n10⟩, n11, n12, n13, n14⟩ : Season) = true) (c : List Int) (hc : isCourse (⟨⟨⟨n0, n1⟩, ⟨n2, n3⟩, n4, n5, n6⟩, ⟨⟨n7, n8⟩, n9, n10⟩, n11, n12, n13, n14⟩ : Season) c = true) (b R : Int) (hb : 0 ≤ b ∧ b ≤ 2000) (hR : ∀ j (hj : j < c.length), mayS (⟨⟨⟨n0, n1⟩, ⟨n2, n3⟩, n4, n5, n6⟩, ⟨⟨n7, n8⟩, n9, n10⟩, n11, n12, n13, n14⟩ : Season) j c[j].toNat = true → dayLo (⟨⟨⟨n0, n1⟩, ⟨n2, n3⟩, n4, n5, n6⟩, ⟨⟨n7, n8⟩, n9, n10⟩, n11, n12, n13, n14⟩ : Season) j - b ≤ R) (s : Stk) :
 Run T b7l0 [(1, .sl .no 1 (es cInt c)), (2, .ptr s.length 32 0), (6, i64 b), (10, i64 R), (14, i64 0)] ([(32, .cell [i64 n0, i64 n1, i64 n2, i64 n3, .sl .no 2 (es cSp n4), .sl .no 2 (es cAnc n5), .sl .no 5 (es cWal n6), i64 n7, i64 n8, .sl .no 2 (es cSp n9), .sl .no 2 (es cBoat n10), .sl .no 4 (es cSky n11), .sl .no 1 (es cInts n12), .sl .no 1 (es cInt n13), .sl .no 2 (es cSp n14)])] :: s) = some (.exit 0, [(1, .sl .no 1 (es cInt c)), (2, .ptr s.length 32 0), (6, i64 b), (10, i64 R), (14, i64 c.length), (127, .bool false)], [(32, .cell [i64 n0, i64 n1, i64 n2, i64 n3, .sl .no 2 (es cSp n4), .sl .no 2 (es cAnc n5), .sl .no 5 (es cWal n6), i64 n7, i64 n8, .sl .no 2 (es cSp n9), .sl .no 2 (es cBoat n10), .sl .no 4 (es cSky n11), .sl .no 1 (es cInts n12), .sl .no 1 (es cInt n13), .sl .no 2 (es cSp n14)])] :: s) := by
 have key := loop_fold (T := T) (live := [1, 2, 6, 10, 14]) (keep := [32, 320, 480, 528, 560, 640, 656, 736, 816, 1536, 1648, 1664, 1936, 2944]) (b := d7l0) (c) (fun _ _ => True) (fun (_ : Unit) (_ : Int) => ()) (fun k (a : Unit) => [(1, .sl .no 1 (es cInt c)), (2, .ptr s.length 32 0), (6, i64 b), (10, i64 R), (14, i64 k)]) (fun k (a : Unit) => [(32, .cell [i64 n0, i64 n1, i64 n2, i64 n3, .sl .no 2 (es cSp n4), .sl .no 2 (es cAnc n5), .sl .no 5 (es cWal n6), i64 n7, i64 n8, .sl .no 2 (es cSp n9), .sl .no 2 (es cBoat n10), .sl .no 4 (es cSky n11), .sl .no 1 (es cInts n12), .sl .no 1 (es cInt n13), .sl .no 2 (es cSp n14)])] :: s) (fun (a : Unit) => (.exit 0, [(1, .sl .no 1 (es cInt c)), (2, .ptr s.length 32 0), (6, i64 b), (10, i64 R), (14, i64 c.length), (127, .bool false)], [(32, .cell [i64 n0, i64 n1, i64 n2, i64 n3, .sl .no 2 (es cSp n4), .sl .no 2 (es cAnc n5), .sl .no 5 (es cWal n6), i64 n7, i64 n8, .sl .no 2 (es cSp n9), .sl .no 2 (es cBoat n10), .sl .no 4 (es cSky n11), .sl .no 1 (es cInts n12), .sl .no 1 (es cInt n13), .sl .no 2 (es cSp n14)])] :: s)) (by simp) ?_ ?_ ?_ () (by simp) [(1, .sl .no 1 (es cInt c)), (2, .ptr s.length 32 0), (6, i64 b), (10, i64 R), (14, i64 0)] ([(32, .cell [i64 n0, i64 n1, i64 n2, i64 n3, .sl .no 2 (es cSp n4), .sl .no 2 (es cAnc n5), .sl .no 5 (es cWal n6), i64 n7, i64 n8, .sl .no 2 (es cSp n9), .sl .no 2 (es cBoat n10), .sl .no 4 (es cSky n11), .sl .no 1 (es cInts n12), .sl .no 1 (es cInt n13), .sl .no 2 (es cSp n14)])] :: s) (by simp) (by simp)
 ·exact key
 ·intro k a hk hi
  obtain ⟨k1, k2⟩ := isCourse_ok hok hc
  simp only at k1 k2
  have h5 := (seasonOk_iff.1 hok).2.2.2.2.2.2.1
  simp only at h5
  have hkd : k < n14.length := by omega
  obtain ⟨x0, x1⟩ := k2 c[k] (List.getElem_mem hk)
  have hd := isDay_of (n := (⟨⟨⟨n0, n1⟩, ⟨n2, n3⟩, n4, n5, n6⟩, ⟨⟨n7, n8⟩, n9, n10⟩, n11, n12, n13, n14⟩ : Season)) hkd
  have hsk := isSky_of (n := (⟨⟨⟨n0, n1⟩, ⟨n2, n3⟩, n4, n5, n6⟩, ⟨⟨n7, n8⟩, n9, n10⟩, n11, n12, n13, n14⟩ : Season)) x0 x1
  have a1 := fun lab s => e_Skies n0 n1 n2 n3 n4 n5 n6 n7 n8 n9 n10 n11 n12 n13 n14 hs k lab s
  have e1 : skiesR (⟨⟨⟨n0, n1⟩, ⟨n2, n3⟩, n4, n5, n6⟩, ⟨⟨n7, n8⟩, n9, n10⟩, n11, n12, n13, n14⟩ : Season) k = (skiesL (⟨⟨⟨n0, n1⟩, ⟨n2, n3⟩, n4, n5, n6⟩, ⟨⟨n7, n8⟩, n9, n10⟩, n11, n12, n13, n14⟩ : Season) k, 0) := by simp [skiesR, hok, hd]
  simp only [e1] at a1
  have a2 := fun lab s => e_may13law n0 n1 n2 n3 n4 n5 n6 n7 n8 n9 n10 n11 n12 n13 n14 hs k c[k] lab s
  have e2 : mayR (⟨⟨⟨n0, n1⟩, ⟨n2, n3⟩, n4, n5, n6⟩, ⟨⟨n7, n8⟩, n9, n10⟩, n11, n12, n13, n14⟩ : Season) k c[k] = (mayS (⟨⟨⟨n0, n1⟩, ⟨n2, n3⟩, n4, n5, n6⟩, ⟨⟨n7, n8⟩, n9, n10⟩, n11, n12, n13, n14⟩ : Season) k c[k].toNat, 0) := by simp [mayR, hok, hd, hsk]
  simp only [e2] at a2
  have hm : ¬ ((n11.length : Nat) : Int) < ((skiesL (⟨⟨⟨n0, n1⟩, ⟨n2, n3⟩, n4, n5, n6⟩, ⟨⟨n7, n8⟩, n9, n10⟩, n11, n12, n13, n14⟩ : Season) k).length : Nat) := by have := skies_many hok k; simp only at this; omega
  have hml : (skiesL (⟨⟨⟨n0, n1⟩, ⟨n2, n3⟩, n4, n5, n6⟩, ⟨⟨n7, n8⟩, n9, n10⟩, n11, n12, n13, n14⟩ : Season) k).length < 4611686018427387904 := by have := (skiesL_ok hok k).2.1; omega
  have hin : anyB (fun y => decide (y = c[k])) (skiesL (⟨⟨⟨n0, n1⟩, ⟨n2, n3⟩, n4, n5, n6⟩, ⟨⟨n7, n8⟩, n9, n10⟩, n11, n12, n13, n14⟩ : Season) k) = true := inB_iff.2 (skies_in hok hc hk)
  have hRk := hR k hk
  have hlo : dayLo (⟨⟨⟨n0, n1⟩, ⟨n2, n3⟩, n4, n5, n6⟩, ⟨⟨n7, n8⟩, n9, n10⟩, n11, n12, n13, n14⟩ : Season) k = n14[k].lo := by simp [dayLo, hkd]
  have hdo := days_ok hok (k := k) hkd
  simp only at hdo
  have hin2 := fun lab s => e_In (skiesL (⟨⟨⟨n0, n1⟩, ⟨n2, n3⟩, n4, n5, n6⟩, ⟨⟨n7, n8⟩, n9, n10⟩, n11, n12, n13, n14⟩ : Season) k) c[k] hml lab s
  rw [hin] at hin2
  cases c0 : mayS (⟨⟨⟨n0, n1⟩, ⟨n2, n3⟩, n4, n5, n6⟩, ⟨⟨n7, n8⟩, n9, n10⟩, n11, n12, n13, n14⟩ : Season) k c[k].toNat
  ·rw [c0] at a2
   simp (maxSteps := 1000000) (disch := first | omega | assumption | decide +kernel | (simp; done) | (simp; omega) | fail) [run_drawnK, hk, a1, a2, hm, hin2, wk k (by omega)]
  ·rw [c0] at a2
   have hRk := hRk c0
   rw [hlo] at hRk
   have hn : ¬ R < n14[k].lo - b := by omega
   simp (maxSteps := 1000000) (disch := first | omega | assumption | decide +kernel | (simp; done) | (simp; omega) | fail) [run_drawnK, hk, hkd, a1, a2, hm, hin2, hn, wi, wk k (by omega)]
 ·intro k a hk hi
  try simp
 ·intro a hi
  simp
set_option maxHeartbeats 1000000 in
theorem e_Course_l2 (n0 : Int) (n1 : Int) (n2 : Int) (n3 : Int) (n4 : List Sp) (n5 : List Anc) (n6 : List Wal) (n7 : Int) (n8 : Int) (n9 : List Sp) (n10 : List Boat) (n11 : List Sky) (n12 : List (List Int)) (n13 : List Int) (n14 : List Sp) (hs : Short (⟨⟨⟨n0, n1⟩, ⟨n2, n3⟩, n4, n5, n6⟩, ⟨⟨n7, n8⟩, n9, n10⟩, n11, n12, n13, n14⟩ : Season)) (hok : seasonOk (⟨⟨⟨n0, n1⟩, ⟨n2, n3⟩, n4, n5, n6⟩, ⟨⟨n7, n8⟩, n9, n10⟩, n11, n12, n13, n14⟩ : Season) = true) (c : List Int) (hc : isCourse (⟨⟨⟨n0, n1⟩, ⟨n2, n3⟩, n4, n5, n6⟩, ⟨⟨n7, n8⟩, n9, n10⟩, n11, n12, n13, n14⟩ : Season) c = true) (b R : Int) (p q : Nat) (hb : 0 ≤ b ∧ b ≤ 2000) (hR : ∀ j (hj : j < c.length), mayS (⟨⟨⟨n0, n1⟩, ⟨n2, n3⟩, n4, n5, n6⟩, ⟨⟨n7, n8⟩, n9, n10⟩, n11, n12, n13, n14⟩ : Season) j c[j].toNat = true → dayLo (⟨⟨⟨n0, n1⟩, ⟨n2, n3⟩, n4, n5, n6⟩, ⟨⟨n7, n8⟩, n9, n10⟩, n11, n12, n13, n14⟩ : Season) j - b ≤ R) (s : Stk) :
 Run T b7l0 [(1, .sl .no 1 (es cInt c)), (2, .ptr s.length 32 0), (6, i64 b), (10, i64 R), (14, i64 0)] ([(32, .cell [i64 n0, i64 n1, i64 n2, i64 n3, .sl .no 2 (es cSp n4), .sl .no 2 (es cAnc n5), .sl .no 5 (es cWal n6), i64 n7, i64 n8, .sl .no 2 (es cSp n9), .sl .no 2 (es cBoat n10), .sl .no 4 (es cSky n11), .sl .no 1 (es cInts n12), .sl .no 1 (es cInt n13), .sl .no 2 (es cSp n14)]), (640, .tok p), (1648, .tok q)] :: s) = some (.exit 0, [(1, .sl .no 1 (es cInt c)), (2, .ptr s.length 32 0), (6, i64 b), (10, i64 R), (14, i64 c.length), (127, .bool false)], [(32, .cell [i64 n0, i64 n1, i64 n2, i64 n3, .sl .no 2 (es cSp n4), .sl .no 2 (es cAnc n5), .sl .no 5 (es cWal n6), i64 n7, i64 n8, .sl .no 2 (es cSp n9), .sl .no 2 (es cBoat n10), .sl .no 4 (es cSky n11), .sl .no 1 (es cInts n12), .sl .no 1 (es cInt n13), .sl .no 2 (es cSp n14)]), (640, .tok p), (1648, .tok q)] :: s) := by
 have key := loop_fold (T := T) (live := [1, 2, 6, 10, 14]) (keep := [32, 320, 480, 528, 560, 640, 656, 736, 816, 1536, 1648, 1664, 1936, 2944]) (b := d7l0) (c) (fun _ _ => True) (fun (_ : Unit) (_ : Int) => ()) (fun k (a : Unit) => [(1, .sl .no 1 (es cInt c)), (2, .ptr s.length 32 0), (6, i64 b), (10, i64 R), (14, i64 k)]) (fun k (a : Unit) => [(32, .cell [i64 n0, i64 n1, i64 n2, i64 n3, .sl .no 2 (es cSp n4), .sl .no 2 (es cAnc n5), .sl .no 5 (es cWal n6), i64 n7, i64 n8, .sl .no 2 (es cSp n9), .sl .no 2 (es cBoat n10), .sl .no 4 (es cSky n11), .sl .no 1 (es cInts n12), .sl .no 1 (es cInt n13), .sl .no 2 (es cSp n14)]), (640, .tok p), (1648, .tok q)] :: s) (fun (a : Unit) => (.exit 0, [(1, .sl .no 1 (es cInt c)), (2, .ptr s.length 32 0), (6, i64 b), (10, i64 R), (14, i64 c.length), (127, .bool false)], [(32, .cell [i64 n0, i64 n1, i64 n2, i64 n3, .sl .no 2 (es cSp n4), .sl .no 2 (es cAnc n5), .sl .no 5 (es cWal n6), i64 n7, i64 n8, .sl .no 2 (es cSp n9), .sl .no 2 (es cBoat n10), .sl .no 4 (es cSky n11), .sl .no 1 (es cInts n12), .sl .no 1 (es cInt n13), .sl .no 2 (es cSp n14)]), (640, .tok p), (1648, .tok q)] :: s)) (by simp) ?_ ?_ ?_ () (by simp) [(1, .sl .no 1 (es cInt c)), (2, .ptr s.length 32 0), (6, i64 b), (10, i64 R), (14, i64 0)] ([(32, .cell [i64 n0, i64 n1, i64 n2, i64 n3, .sl .no 2 (es cSp n4), .sl .no 2 (es cAnc n5), .sl .no 5 (es cWal n6), i64 n7, i64 n8, .sl .no 2 (es cSp n9), .sl .no 2 (es cBoat n10), .sl .no 4 (es cSky n11), .sl .no 1 (es cInts n12), .sl .no 1 (es cInt n13), .sl .no 2 (es cSp n14)]), (640, .tok p), (1648, .tok q)] :: s) (by simp) (by simp)
 ·exact key
 ·intro k a hk hi
  obtain ⟨k1, k2⟩ := isCourse_ok hok hc
  simp only at k1 k2
  have h5 := (seasonOk_iff.1 hok).2.2.2.2.2.2.1
  simp only at h5
  have hkd : k < n14.length := by omega
  obtain ⟨x0, x1⟩ := k2 c[k] (List.getElem_mem hk)
  have hd := isDay_of (n := (⟨⟨⟨n0, n1⟩, ⟨n2, n3⟩, n4, n5, n6⟩, ⟨⟨n7, n8⟩, n9, n10⟩, n11, n12, n13, n14⟩ : Season)) hkd
  have hsk := isSky_of (n := (⟨⟨⟨n0, n1⟩, ⟨n2, n3⟩, n4, n5, n6⟩, ⟨⟨n7, n8⟩, n9, n10⟩, n11, n12, n13, n14⟩ : Season)) x0 x1
  have a1 := fun lab s => e_Skies n0 n1 n2 n3 n4 n5 n6 n7 n8 n9 n10 n11 n12 n13 n14 hs k lab s
  have e1 : skiesR (⟨⟨⟨n0, n1⟩, ⟨n2, n3⟩, n4, n5, n6⟩, ⟨⟨n7, n8⟩, n9, n10⟩, n11, n12, n13, n14⟩ : Season) k = (skiesL (⟨⟨⟨n0, n1⟩, ⟨n2, n3⟩, n4, n5, n6⟩, ⟨⟨n7, n8⟩, n9, n10⟩, n11, n12, n13, n14⟩ : Season) k, 0) := by simp [skiesR, hok, hd]
  simp only [e1] at a1
  have a2 := fun lab s => e_may13law n0 n1 n2 n3 n4 n5 n6 n7 n8 n9 n10 n11 n12 n13 n14 hs k c[k] lab s
  have e2 : mayR (⟨⟨⟨n0, n1⟩, ⟨n2, n3⟩, n4, n5, n6⟩, ⟨⟨n7, n8⟩, n9, n10⟩, n11, n12, n13, n14⟩ : Season) k c[k] = (mayS (⟨⟨⟨n0, n1⟩, ⟨n2, n3⟩, n4, n5, n6⟩, ⟨⟨n7, n8⟩, n9, n10⟩, n11, n12, n13, n14⟩ : Season) k c[k].toNat, 0) := by simp [mayR, hok, hd, hsk]
  simp only [e2] at a2
  have hm : ¬ ((n11.length : Nat) : Int) < ((skiesL (⟨⟨⟨n0, n1⟩, ⟨n2, n3⟩, n4, n5, n6⟩, ⟨⟨n7, n8⟩, n9, n10⟩, n11, n12, n13, n14⟩ : Season) k).length : Nat) := by have := skies_many hok k; simp only at this; omega
  have hml : (skiesL (⟨⟨⟨n0, n1⟩, ⟨n2, n3⟩, n4, n5, n6⟩, ⟨⟨n7, n8⟩, n9, n10⟩, n11, n12, n13, n14⟩ : Season) k).length < 4611686018427387904 := by have := (skiesL_ok hok k).2.1; omega
  have hin : anyB (fun y => decide (y = c[k])) (skiesL (⟨⟨⟨n0, n1⟩, ⟨n2, n3⟩, n4, n5, n6⟩, ⟨⟨n7, n8⟩, n9, n10⟩, n11, n12, n13, n14⟩ : Season) k) = true := inB_iff.2 (skies_in hok hc hk)
  have hRk := hR k hk
  have hlo : dayLo (⟨⟨⟨n0, n1⟩, ⟨n2, n3⟩, n4, n5, n6⟩, ⟨⟨n7, n8⟩, n9, n10⟩, n11, n12, n13, n14⟩ : Season) k = n14[k].lo := by simp [dayLo, hkd]
  have hdo := days_ok hok (k := k) hkd
  simp only at hdo
  have hin2 := fun lab s => e_In (skiesL (⟨⟨⟨n0, n1⟩, ⟨n2, n3⟩, n4, n5, n6⟩, ⟨⟨n7, n8⟩, n9, n10⟩, n11, n12, n13, n14⟩ : Season) k) c[k] hml lab s
  rw [hin] at hin2
  cases c0 : mayS (⟨⟨⟨n0, n1⟩, ⟨n2, n3⟩, n4, n5, n6⟩, ⟨⟨n7, n8⟩, n9, n10⟩, n11, n12, n13, n14⟩ : Season) k c[k].toNat
  ·rw [c0] at a2
   simp (maxSteps := 1000000) (disch := first | omega | assumption | decide +kernel | (simp; done) | (simp; omega) | fail) [run_drawnK, hk, a1, a2, hm, hin2, wk k (by omega)]
  ·rw [c0] at a2
   have hRk := hRk c0
   rw [hlo] at hRk
   have hn : ¬ R < n14[k].lo - b := by omega
   simp (maxSteps := 1000000) (disch := first | omega | assumption | decide +kernel | (simp; done) | (simp; omega) | fail) [run_drawnK, hk, hkd, a1, a2, hm, hin2, hn, wi, wk k (by omega)]
 ·intro k a hk hi
  try simp
 ·intro a hi
  simp
theorem course_3 (n0 : Int) (n1 : Int) (n2 : Int) (n3 : Int) (n4 : List Sp) (n5 : List Anc) (n6 : List Wal) (n7 : Int) (n8 : Int) (n9 : List Sp) (n10 : List Boat) (n11 : List Sky) (n12 : List (List Int)) (n13 : List Int) (n14 : List Sp) (c : List Int) (B : Int) (a0 : ∀ lab s, den T 41 [.agg [i64 n0, i64 n1, i64 n2, i64 n3, .sl .no 2 (es cSp n4), .sl .no 2 (es cAnc n5), .sl .no 5 (es cWal n6), i64 n7, i64 n8, .sl .no 2 (es cSp n9), .sl .no 2 (es cBoat n10), .sl .no 4 (es cSky n11), .sl .no 1 (es cInts n12), .sl .no 1 (es cInt n13), .sl .no 2 (es cSp n14)]] lab s = some (i64 B, s)) (s : Stk) :
 Run T (.region false [ ⟨(some 34), .load (some 15) (.t 2), none, [], []⟩, ⟨(some 35), .call 41 [(.t 34)], none, [], []⟩, ⟨(some 5), .mv (.t 35), none, [], []⟩] [1, 2, 5]) [(1, .sl .no 1 (es cInt c)), (2, .ptr s.length 32 0), (32, .bool false)] ([(32, .cell [i64 n0, i64 n1, i64 n2, i64 n3, .sl .no 2 (es cSp n4), .sl .no 2 (es cAnc n5), .sl .no 5 (es cWal n6), i64 n7, i64 n8, .sl .no 2 (es cSp n9), .sl .no 2 (es cBoat n10), .sl .no 4 (es cSky n11), .sl .no 1 (es cInts n12), .sl .no 1 (es cInt n13), .sl .no 2 (es cSp n14)])] :: s) = some (.normal, [(1, .sl .no 1 (es cInt c)), (2, .ptr s.length 32 0), (5, i64 B)], [(32, .cell [i64 n0, i64 n1, i64 n2, i64 n3, .sl .no 2 (es cSp n4), .sl .no 2 (es cAnc n5), .sl .no 5 (es cWal n6), i64 n7, i64 n8, .sl .no 2 (es cSp n9), .sl .no 2 (es cBoat n10), .sl .no 4 (es cSky n11), .sl .no 1 (es cInts n12), .sl .no 1 (es cInt n13), .sl .no 2 (es cSp n14)])] :: s) := by
 simp (maxSteps := 6000000) (disch := first | omega | assumption | decide +kernel | (simp; done) | (simp; omega) | fail) [a0]
theorem course_5 (n0 : Int) (n1 : Int) (n2 : Int) (n3 : Int) (n4 : List Sp) (n5 : List Anc) (n6 : List Wal) (n7 : Int) (n8 : Int) (n9 : List Sp) (n10 : List Boat) (n11 : List Sky) (n12 : List (List Int)) (n13 : List Int) (n14 : List Sp) (c w : List Int) (b B : Int) (F : Ab.Loc) (s : Stk) (hF : F.get 32 = some (.cell [i64 n0, i64 n1, i64 n2, i64 n3, .sl .no 2 (es cSp n4), .sl .no 2 (es cAnc n5), .sl .no 5 (es cWal n6), i64 n7, i64 n8, .sl .no 2 (es cSp n9), .sl .no 2 (es cBoat n10), .sl .no 4 (es cSky n11), .sl .no 1 (es cInts n12), .sl .no 1 (es cInt n13), .sl .no 2 (es cSp n14)])) (a2 : ∀ lab s, den T 22 [.agg [i64 n0, i64 n1, i64 n2, i64 n3, .sl .no 2 (es cSp n4), .sl .no 2 (es cAnc n5), .sl .no 5 (es cWal n6), i64 n7, i64 n8, .sl .no 2 (es cSp n9), .sl .no 2 (es cBoat n10), .sl .no 4 (es cSky n11), .sl .no 1 (es cInts n12), .sl .no 1 (es cInt n13), .sl .no 2 (es cSp n14)]] lab s = some (.tup [.sl .no 1 (es cInt w), i64 0], s)) :
 Run T (.region false [ ⟨(some 45), .load (some 15) (.t 2), none, [], []⟩, ⟨(some 46), .call 22 [(.t 45)], none, [], []⟩, ⟨(some 44), .mv (.t 46), none, [], []⟩, ⟨(some 47), .ext (.t 44) 0, none, [], []⟩, ⟨(some 48), .ext (.t 44) 1, none, [], []⟩, ⟨(some 8), .mv (.t 47), none, [], []⟩, ⟨(some 9), .mv (.t 48), none, [], []⟩] [1, 2, 5, 6, 7, 8, 9]) [(1, .sl .no 1 (es cInt c)), (2, .ptr s.length 32 0), (5, i64 B), (6, i64 b), (7, i64 0)] (F :: s) = some (.normal, [(1, .sl .no 1 (es cInt c)), (2, .ptr s.length 32 0), (5, i64 B), (6, i64 b), (7, i64 0), (8, .sl .no 1 (es cInt w)), (9, i64 0)], F :: s) := by
 simp (maxSteps := 6000000) (disch := first | omega | assumption | decide +kernel | (simp; done) | (simp; omega) | fail) [hF, a2]
theorem course_6 (n0 : Int) (n1 : Int) (n2 : Int) (n3 : Int) (n4 : List Sp) (n5 : List Anc) (n6 : List Wal) (n7 : Int) (n8 : Int) (n9 : List Sp) (n10 : List Boat) (n11 : List Sky) (n12 : List (List Int)) (n13 : List Int) (n14 : List Sp) (c w : List Int) (b B R : Int) (F : Ab.Loc) (s : Stk) (hF : F.get 32 = some (.cell [i64 n0, i64 n1, i64 n2, i64 n3, .sl .no 2 (es cSp n4), .sl .no 2 (es cAnc n5), .sl .no 5 (es cWal n6), i64 n7, i64 n8, .sl .no 2 (es cSp n9), .sl .no 2 (es cBoat n10), .sl .no 4 (es cSky n11), .sl .no 1 (es cInts n12), .sl .no 1 (es cInt n13), .sl .no 2 (es cSp n14)])) (a3 : ∀ lab s, den T 27 [.agg [i64 n0, i64 n1, i64 n2, i64 n3, .sl .no 2 (es cSp n4), .sl .no 2 (es cAnc n5), .sl .no 5 (es cWal n6), i64 n7, i64 n8, .sl .no 2 (es cSp n9), .sl .no 2 (es cBoat n10), .sl .no 4 (es cSky n11), .sl .no 1 (es cInts n12), .sl .no 1 (es cInt n13), .sl .no 2 (es cSp n14)]] lab s = some (.tup [i64 R, i64 0], s)) :
 Run T (.region false [ ⟨(some 50), .load (some 15) (.t 2), none, [], []⟩, ⟨(some 51), .call 27 [(.t 50)], none, [], []⟩, ⟨(some 49), .mv (.t 51), none, [], []⟩, ⟨(some 52), .ext (.t 49) 0, none, [], []⟩, ⟨(some 53), .ext (.t 49) 1, none, [], []⟩, ⟨(some 10), .mv (.t 52), none, [], []⟩, ⟨(some 11), .mv (.t 53), none, [], []⟩] [1, 2, 5, 6, 7, 8, 9, 10, 11]) [(1, .sl .no 1 (es cInt c)), (2, .ptr s.length 32 0), (5, i64 B), (6, i64 b), (7, i64 0), (8, .sl .no 1 (es cInt w)), (9, i64 0)] (F :: s) = some (.normal, [(1, .sl .no 1 (es cInt c)), (2, .ptr s.length 32 0), (5, i64 B), (6, i64 b), (7, i64 0), (8, .sl .no 1 (es cInt w)), (9, i64 0), (10, i64 R), (11, i64 0)], F :: s) := by
 simp (maxSteps := 6000000) (disch := first | omega | assumption | decide +kernel | (simp; done) | (simp; omega) | fail) [hF, a3]
theorem course_7 (n0 : Int) (n1 : Int) (n2 : Int) (n3 : Int) (n4 : List Sp) (n5 : List Anc) (n6 : List Wal) (n7 : Int) (n8 : Int) (n9 : List Sp) (n10 : List Boat) (n11 : List Sky) (n12 : List (List Int)) (n13 : List Int) (n14 : List Sp) (c w : List Int) (b B R : Int) (F : Ab.Loc) (s : Stk) (hF : F.get 32 = some (.cell [i64 n0, i64 n1, i64 n2, i64 n3, .sl .no 2 (es cSp n4), .sl .no 2 (es cAnc n5), .sl .no 5 (es cWal n6), i64 n7, i64 n8, .sl .no 2 (es cSp n9), .sl .no 2 (es cBoat n10), .sl .no 4 (es cSky n11), .sl .no 1 (es cInts n12), .sl .no 1 (es cInt n13), .sl .no 2 (es cSp n14)]))
 (a5 : ∀ lab s, den T 40 [.agg [i64 n0, i64 n1, i64 n2, i64 n3, .sl .no 2 (es cSp n4), .sl .no 2 (es cAnc n5), .sl .no 5 (es cWal n6), i64 n7, i64 n8, .sl .no 2 (es cSp n9), .sl .no 2 (es cBoat n10), .sl .no 4 (es cSky n11), .sl .no 1 (es cInts n12), .sl .no 1 (es cInt n13), .sl .no 2 (es cSp n14)], .sl .no 1 (es cInt w)] lab s = some (.bool true, s)) (kw1 : w.length = n14.length)
 (g1 : ¬ B < 0) (g2 : ¬ b < B) (g3 : ¬ 2000 < b) (g4 : ¬ R < 0) (g5 : ¬ 2000 < R) :
 Run T (.seq ( .region false [ ⟨(some 54), .mv (.t 5), none, [], []⟩, ⟨(some 55), .bin .lss (.t 54) (.c (i64 0)), none, [], []⟩, ⟨(some 56), .mv (.t 55), none, [], []⟩, ⟨(some 57), .mv (.t 7), (some (56, false)), [], []⟩, ⟨(some 58), .bin .neq (.t 57) (.c (i64 0)), (some (56, false)), [], []⟩, ⟨(some 59), .pick (.t 56) (.c (.bool true)) (.t 58), none, [], []⟩, ⟨(some 60), .mv (.t 59), none, [], []⟩, ⟨(some 61), .mv (.t 9), (some (60, false)), [], []⟩, ⟨(some 62), .bin .neq (.t 61) (.c (i64 0)), (some (60, false)), [], []⟩, ⟨(some 63), .pick (.t 60) (.c (.bool true)) (.t 62), none, [], []⟩, ⟨(some 64), .mv (.t 63), none, [], []⟩, ⟨(some 65), .mv (.t 11), (some (64, false)), [], []⟩, ⟨(some 66), .bin .neq (.t 65) (.c (i64 0)), (some (64, false)), [], []⟩, ⟨(some 67), .pick (.t 64) (.c (.bool true)) (.t 66), none, [], []⟩, ⟨(some 68), .mv (.t 67), none, [], []⟩, ⟨(some 69), .mv (.t 6), (some (68, false)), [], []⟩, ⟨(some 70), .mv (.t 5), (some (68, false)), [], []⟩, ⟨(some 71), .bin .lss (.t 69) (.t 70), (some (68, false)), [], []⟩, ⟨(some 72), .pick (.t 68) (.c (.bool true)) (.t 71), none, [], []⟩, ⟨(some 73), .mv (.t 72), none, [], []⟩, ⟨(some 74), .mv (.t 6), (some (73, false)), [], []⟩, ⟨(some 75), .bin .gtr (.t 74) (.c (i64 2000)), (some (73, false)), [], []⟩, ⟨(some 76), .pick (.t 73) (.c (.bool true)) (.t 75), none, [], []⟩, ⟨(some 77), .mv (.t 76), none, [], []⟩, ⟨(some 78), .mv (.t 10), (some (77, false)), [], []⟩, ⟨(some 79), .bin .lss (.t 78) (.c (i64 0)), (some (77, false)), [], []⟩, ⟨(some 80), .pick (.t 77) (.c (.bool true)) (.t 79), none, [], []⟩, ⟨(some 81), .mv (.t 80), none, [], []⟩, ⟨(some 82), .mv (.t 10), (some (81, false)), [], []⟩, ⟨(some 83), .bin .gtr (.t 82) (.c (i64 2000)), (some (81, false)), [], []⟩, ⟨(some 84), .pick (.t 81) (.c (.bool true)) (.t 83), none, [], []⟩, ⟨(some 85), .mv (.t 84), none, [], []⟩, ⟨(some 86), .mv (.t 8), (some (85, false)), [], []⟩, ⟨(some 87), .len (.t 86), (some (85, false)), [], []⟩, ⟨(some 88), .faddr 14 (.t 2), (some (85, false)), [], []⟩, ⟨(some 89), .load none (.t 88), (some (85, false)), [], []⟩, ⟨(some 90), .len (.t 89), (some (85, false)), [], []⟩, ⟨(some 91), .bin .neq (.t 87) (.t 90), (some (85, false)), [], []⟩, ⟨(some 92), .pick (.t 85) (.c (.bool true)) (.t 91), none, [], []⟩, ⟨(some 93), .mv (.t 92), none, [], []⟩, ⟨(some 94), .load (some 15) (.t 2), (some (93, false)), [], []⟩, ⟨(some 95), .mv (.t 8), (some (93, false)), [], []⟩, ⟨(some 96), .call 40 [(.t 94), (.t 95)], (some (93, false)), [], []⟩, ⟨(some 97), .un .not (.t 96), (some (93, false)), [], []⟩, ⟨(some 98), .pick (.t 93) (.c (.bool true)) (.t 97), none, [], []⟩] [1, 2, 5, 6, 8, 10, 98]) ( .cond (.t 98) ( .seq ( .region false [ ⟨(some 4), .mv (.c (.bool false)), none, [], []⟩] [4]) ( .ret)) ( .skip))) [(1, .sl .no 1 (es cInt c)), (2, .ptr s.length 32 0), (5, i64 B), (6, i64 b), (7, i64 0), (8, .sl .no 1 (es cInt w)), (9, i64 0), (10, i64 R), (11, i64 0)] (F :: s) = some (.normal, [(1, .sl .no 1 (es cInt c)), (2, .ptr s.length 32 0), (5, i64 B), (6, i64 b), (8, .sl .no 1 (es cInt w)), (10, i64 R), (98, .bool false)], F :: s) := by
 simp (maxSteps := 6000000) (disch := first | omega | assumption | decide +kernel | (simp; done) | (simp; omega) | fail) [hF, a5, kw1, g1, g2, g3, g4, g5]
theorem course_10 (c w : List Int) (b B R : Int) (F : Ab.Loc) (s : Stk)
 (a6 : b = B → ∀ lab s, den T 42 [.sl .no 1 (es cInt c), .sl .no 1 (es cInt w)] lab s = some (.bool false, s)) :
 Run T (.seq ( .region false [ ⟨(some 107), .mv (.t 13), none, [], []⟩, ⟨(some 108), .bin .neq (.t 107) (.c (i64 0)), none, [], []⟩, ⟨(some 109), .mv (.t 108), none, [], []⟩, ⟨(some 110), .mv (.t 12), (some (109, false)), [], []⟩, ⟨(some 111), .mv (.t 5), (some (109, false)), [], []⟩, ⟨(some 112), .bin .neq (.t 110) (.t 111), (some (109, false)), [], []⟩, ⟨(some 113), .pick (.t 109) (.c (.bool true)) (.t 112), none, [], []⟩, ⟨(some 114), .mv (.t 113), none, [], []⟩, ⟨(some 115), .mv (.t 6), (some (114, false)), [], []⟩, ⟨(some 116), .mv (.t 5), (some (114, false)), [], []⟩, ⟨(some 117), .bin .eql (.t 115) (.t 116), (some (114, false)), [], []⟩, ⟨(some 118), .mv (.t 117), (some (114, false)), [], []⟩, ⟨(some 119), .mv (.t 1), (some (118, true)), [], []⟩, ⟨(some 120), .mv (.t 8), (some (118, true)), [], []⟩, ⟨(some 121), .call 42 [(.t 119), (.t 120)], (some (118, true)), [], []⟩, ⟨(some 122), .pick (.t 118) (.t 121) (.c (.bool false)), (some (114, false)), [], []⟩, ⟨(some 123), .pick (.t 114) (.c (.bool true)) (.t 122), none, [], []⟩] [1, 2, 6, 10, 123]) ( .cond (.t 123) ( .seq ( .region false [ ⟨(some 4), .mv (.c (.bool false)), none, [], []⟩] [4]) ( .ret)) ( .skip))) [(1, .sl .no 1 (es cInt c)), (2, .ptr s.length 32 0), (5, i64 B), (6, i64 b), (8, .sl .no 1 (es cInt w)), (10, i64 R), (12, i64 B), (13, i64 0)] (F :: s) = some (.normal, [(1, .sl .no 1 (es cInt c)), (2, .ptr s.length 32 0), (6, i64 b), (10, i64 R), (123, .bool false)], F :: s) := by
 by_cases c5 : b = B
 ·have a7 := a6 c5
  simp (maxSteps := 6000000) (disch := first | omega | assumption | decide +kernel | (simp; done) | (simp; omega) | fail) [a7, c5]
 ·simp (maxSteps := 6000000) (disch := first | omega | assumption | decide +kernel | (simp; done) | (simp; omega) | fail) [c5]
theorem course_19 (c : List Int) (b R : Int) (F : Ab.Loc) (s : Stk) :
 Run T (.region false [ ⟨(some 184), .call 9 [], none, [], []⟩, ⟨(some 4), .mv (.t 184), none, [], []⟩] [4]) [(1, .sl .no 1 (es cInt c)), (2, .ptr s.length 32 0), (6, i64 b), (10, i64 R), (14, i64 c.length), (127, .bool false)] (F :: s) = some (.normal, [(4, .bool true)], F :: s) := by
 have hx := e_works
 simp (maxSteps := 6000000) (disch := first | omega | assumption | decide +kernel | (simp; done) | (simp; omega) | fail) [hx]
theorem course_4n (n0 : Int) (n1 : Int) (n2 : Int) (n3 : Int) (n4 : List Sp) (n5 : List Anc) (n6 : List Wal) (n7 : Int) (n8 : Int) (n9 : List Sp) (n10 : List Boat) (n11 : List Sky) (n12 : List (List Int)) (n13 : List Int) (n14 : List Sp) (c : List Int) (hne : c = []) (hcl : c.length ≤ 40) (b : Int) (a1 : ∀ lab s, den T 20 [.agg [i64 n0, i64 n1, i64 n2, i64 n3, .sl .no 2 (es cSp n4), .sl .no 2 (es cAnc n5), .sl .no 5 (es cWal n6), i64 n7, i64 n8, .sl .no 2 (es cSp n9), .sl .no 2 (es cBoat n10), .sl .no 4 (es cSky n11), .sl .no 1 (es cInts n12), .sl .no 1 (es cInt n13), .sl .no 2 (es cSp n14)], .sl .no 1 (es cInt c)] lab s = some (.tup [i64 b, i64 0], s)) (B : Int) (s : Stk) :
 Run T (.region true (spl [ ⟨(some 37), .load (some 15) (.t 2), none, [], []⟩, ⟨(some 38), .lit [(i64 0)] 0 [], none, [], []⟩, ⟨(some 39), .mv (.t 1), none, [], []⟩, ⟨(some 40), .app 1 8 (.t 38) (.t 39), none, [1, 2], []⟩, ⟨(some 41), .call 20 [(.t 37), (.t 40)], none, [0, 3, 1, 2], []⟩, ⟨(some 36), .mv (.t 41), none, [4, 0, 3, 1, 2], []⟩, ⟨(some 42), .ext (.t 36) 0, none, [5, 4, 0, 3, 1, 2], []⟩, ⟨(some 43), .ext (.t 36) 1, none, [5, 4, 0, 3, 1, 2], []⟩, ⟨(some 6), .mv (.t 42), none, [6, 5, 4, 0, 3, 1, 2], []⟩] [ ⟨(some 7), .mv (.t 43), none, [7, 8, 6, 5, 4, 0, 3, 1, 2], []⟩]) [1, 2, 5, 6, 7]) [(1, .sl .no 1 (es cInt c)), (2, .ptr s.length 32 0), (5, i64 B)] ([(32, .cell [i64 n0, i64 n1, i64 n2, i64 n3, .sl .no 2 (es cSp n4), .sl .no 2 (es cAnc n5), .sl .no 5 (es cWal n6), i64 n7, i64 n8, .sl .no 2 (es cSp n9), .sl .no 2 (es cBoat n10), .sl .no 4 (es cSky n11), .sl .no 1 (es cInts n12), .sl .no 1 (es cInt n13), .sl .no 2 (es cSp n14)])] :: s) = some (.normal, [(1, .sl .no 1 (es cInt c)), (2, .ptr s.length 32 0), (5, i64 B), (6, i64 b), (7, i64 0)], [(32, .cell [i64 n0, i64 n1, i64 n2, i64 n3, .sl .no 2 (es cSp n4), .sl .no 2 (es cAnc n5), .sl .no 5 (es cWal n6), i64 n7, i64 n8, .sl .no 2 (es cSp n9), .sl .no 2 (es cBoat n10), .sl .no 4 (es cSky n11), .sl .no 1 (es cInts n12), .sl .no 1 (es cInt n13), .sl .no 2 (es cSp n14)])] :: s) := by
 subst hne
 simp only [es_nil] at a1
 simp (maxSteps := 6000000) (disch := first | omega | assumption | decide +kernel | (simp; done) | (simp; omega) | fail) [run_drawnK, a1, appK_full_nil, appD_full_nil]
theorem course_4 (n0 : Int) (n1 : Int) (n2 : Int) (n3 : Int) (n4 : List Sp) (n5 : List Anc) (n6 : List Wal) (n7 : Int) (n8 : Int) (n9 : List Sp) (n10 : List Boat) (n11 : List Sky) (n12 : List (List Int)) (n13 : List Int) (n14 : List Sp) (c : List Int) (hne : es cInt c ≠ []) (hcl : c.length ≤ 40) (b : Int) (a1 : ∀ lab s, den T 20 [.agg [i64 n0, i64 n1, i64 n2, i64 n3, .sl .no 2 (es cSp n4), .sl .no 2 (es cAnc n5), .sl .no 5 (es cWal n6), i64 n7, i64 n8, .sl .no 2 (es cSp n9), .sl .no 2 (es cBoat n10), .sl .no 4 (es cSky n11), .sl .no 1 (es cInts n12), .sl .no 1 (es cInt n13), .sl .no 2 (es cSp n14)], .sl .no 1 (es cInt c)] lab s = some (.tup [i64 b, i64 0], s)) (B : Int) (s : Stk) :
 Run T (.region true (spl [ ⟨(some 37), .load (some 15) (.t 2), none, [], []⟩, ⟨(some 38), .lit [(i64 0)] 0 [], none, [], []⟩, ⟨(some 39), .mv (.t 1), none, [], []⟩, ⟨(some 40), .app 1 8 (.t 38) (.t 39), none, [1, 2], []⟩, ⟨(some 41), .call 20 [(.t 37), (.t 40)], none, [0, 3, 1, 2], []⟩, ⟨(some 36), .mv (.t 41), none, [4, 0, 3, 1, 2], []⟩, ⟨(some 42), .ext (.t 36) 0, none, [5, 4, 0, 3, 1, 2], []⟩, ⟨(some 43), .ext (.t 36) 1, none, [5, 4, 0, 3, 1, 2], []⟩, ⟨(some 6), .mv (.t 42), none, [6, 5, 4, 0, 3, 1, 2], []⟩] [ ⟨(some 7), .mv (.t 43), none, [7, 8, 6, 5, 4, 0, 3, 1, 2], []⟩]) [1, 2, 5, 6, 7]) [(1, .sl .no 1 (es cInt c)), (2, .ptr s.length 32 0), (5, i64 B)] ([(32, .cell [i64 n0, i64 n1, i64 n2, i64 n3, .sl .no 2 (es cSp n4), .sl .no 2 (es cAnc n5), .sl .no 5 (es cWal n6), i64 n7, i64 n8, .sl .no 2 (es cSp n9), .sl .no 2 (es cBoat n10), .sl .no 4 (es cSky n11), .sl .no 1 (es cInts n12), .sl .no 1 (es cInt n13), .sl .no 2 (es cSp n14)])] :: s) = some (.normal, [(1, .sl .no 1 (es cInt c)), (2, .ptr s.length 32 0), (5, i64 B), (6, i64 b), (7, i64 0)], [(32, .cell [i64 n0, i64 n1, i64 n2, i64 n3, .sl .no 2 (es cSp n4), .sl .no 2 (es cAnc n5), .sl .no 5 (es cWal n6), i64 n7, i64 n8, .sl .no 2 (es cSp n9), .sl .no 2 (es cBoat n10), .sl .no 4 (es cSky n11), .sl .no 1 (es cInts n12), .sl .no 1 (es cInt n13), .sl .no 2 (es cSp n14)]), (640, .tok c.length)] :: s) := by
 simp (maxSteps := 6000000) (disch := first | omega | assumption | decide +kernel | (simp; done) | (simp; omega) | fail) [run_drawnK, a1, appK_full, appD_full]
theorem course_9n (n0 : Int) (n1 : Int) (n2 : Int) (n3 : Int) (n4 : List Sp) (n5 : List Anc) (n6 : List Wal) (n7 : Int) (n8 : Int) (n9 : List Sp) (n10 : List Boat) (n11 : List Sky) (n12 : List (List Int)) (n13 : List Int) (n14 : List Sp) (c w : List Int) (hne : w = []) (hcl : w.length ≤ 40) (b b2 : Int) (a1 : ∀ lab s, den T 20 [.agg [i64 n0, i64 n1, i64 n2, i64 n3, .sl .no 2 (es cSp n4), .sl .no 2 (es cAnc n5), .sl .no 5 (es cWal n6), i64 n7, i64 n8, .sl .no 2 (es cSp n9), .sl .no 2 (es cBoat n10), .sl .no 4 (es cSky n11), .sl .no 1 (es cInts n12), .sl .no 1 (es cInt n13), .sl .no 2 (es cSp n14)], .sl .no 1 (es cInt w)] lab s = some (.tup [i64 b2, i64 0], s)) (B R : Int) (s : Stk) :
 Run T (.region true (spl [ ⟨(some 100), .load (some 15) (.t 2), none, [], []⟩, ⟨(some 101), .lit [(i64 0)] 0 [], none, [], []⟩, ⟨(some 102), .mv (.t 8), none, [], []⟩, ⟨(some 103), .app 1 8 (.t 101) (.t 102), none, [1, 2], []⟩, ⟨(some 104), .call 20 [(.t 100), (.t 103)], none, [0, 3, 1, 2], []⟩, ⟨(some 99), .mv (.t 104), none, [4, 0, 3, 1, 2], []⟩, ⟨(some 105), .ext (.t 99) 0, none, [5, 4, 0, 3, 1, 2], []⟩, ⟨(some 106), .ext (.t 99) 1, none, [5, 4, 0, 3, 1, 2], []⟩, ⟨(some 12), .mv (.t 105), none, [6, 5, 4, 0, 3, 1, 2], []⟩] [ ⟨(some 13), .mv (.t 106), none, [7, 8, 6, 5, 4, 0, 3, 1, 2], []⟩]) [1, 2, 5, 6, 8, 10, 12, 13]) [(1, .sl .no 1 (es cInt c)), (2, .ptr s.length 32 0), (5, i64 B), (6, i64 b), (8, .sl .no 1 (es cInt w)), (10, i64 R), (98, .bool false)] ([(32, .cell [i64 n0, i64 n1, i64 n2, i64 n3, .sl .no 2 (es cSp n4), .sl .no 2 (es cAnc n5), .sl .no 5 (es cWal n6), i64 n7, i64 n8, .sl .no 2 (es cSp n9), .sl .no 2 (es cBoat n10), .sl .no 4 (es cSky n11), .sl .no 1 (es cInts n12), .sl .no 1 (es cInt n13), .sl .no 2 (es cSp n14)])] :: s) = some (.normal, [(1, .sl .no 1 (es cInt c)), (2, .ptr s.length 32 0), (5, i64 B), (6, i64 b), (8, .sl .no 1 (es cInt w)), (10, i64 R), (12, i64 b2), (13, i64 0)], [(32, .cell [i64 n0, i64 n1, i64 n2, i64 n3, .sl .no 2 (es cSp n4), .sl .no 2 (es cAnc n5), .sl .no 5 (es cWal n6), i64 n7, i64 n8, .sl .no 2 (es cSp n9), .sl .no 2 (es cBoat n10), .sl .no 4 (es cSky n11), .sl .no 1 (es cInts n12), .sl .no 1 (es cInt n13), .sl .no 2 (es cSp n14)])] :: s) := by
 subst hne
 simp only [es_nil] at a1
 simp (maxSteps := 6000000) (disch := first | omega | assumption | decide +kernel | (simp; done) | (simp; omega) | fail) [run_drawnK, a1, appK_full_nil, appD_full_nil]
theorem course_9 (n0 : Int) (n1 : Int) (n2 : Int) (n3 : Int) (n4 : List Sp) (n5 : List Anc) (n6 : List Wal) (n7 : Int) (n8 : Int) (n9 : List Sp) (n10 : List Boat) (n11 : List Sky) (n12 : List (List Int)) (n13 : List Int) (n14 : List Sp) (c w : List Int) (hne : es cInt w ≠ []) (hcl : w.length ≤ 40) (b b2 : Int) (a1 : ∀ lab s, den T 20 [.agg [i64 n0, i64 n1, i64 n2, i64 n3, .sl .no 2 (es cSp n4), .sl .no 2 (es cAnc n5), .sl .no 5 (es cWal n6), i64 n7, i64 n8, .sl .no 2 (es cSp n9), .sl .no 2 (es cBoat n10), .sl .no 4 (es cSky n11), .sl .no 1 (es cInts n12), .sl .no 1 (es cInt n13), .sl .no 2 (es cSp n14)], .sl .no 1 (es cInt w)] lab s = some (.tup [i64 b2, i64 0], s)) (B R : Int) (s : Stk) :
 Run T (.region true (spl [ ⟨(some 100), .load (some 15) (.t 2), none, [], []⟩, ⟨(some 101), .lit [(i64 0)] 0 [], none, [], []⟩, ⟨(some 102), .mv (.t 8), none, [], []⟩, ⟨(some 103), .app 1 8 (.t 101) (.t 102), none, [1, 2], []⟩, ⟨(some 104), .call 20 [(.t 100), (.t 103)], none, [0, 3, 1, 2], []⟩, ⟨(some 99), .mv (.t 104), none, [4, 0, 3, 1, 2], []⟩, ⟨(some 105), .ext (.t 99) 0, none, [5, 4, 0, 3, 1, 2], []⟩, ⟨(some 106), .ext (.t 99) 1, none, [5, 4, 0, 3, 1, 2], []⟩, ⟨(some 12), .mv (.t 105), none, [6, 5, 4, 0, 3, 1, 2], []⟩] [ ⟨(some 13), .mv (.t 106), none, [7, 8, 6, 5, 4, 0, 3, 1, 2], []⟩]) [1, 2, 5, 6, 8, 10, 12, 13]) [(1, .sl .no 1 (es cInt c)), (2, .ptr s.length 32 0), (5, i64 B), (6, i64 b), (8, .sl .no 1 (es cInt w)), (10, i64 R), (98, .bool false)] ([(32, .cell [i64 n0, i64 n1, i64 n2, i64 n3, .sl .no 2 (es cSp n4), .sl .no 2 (es cAnc n5), .sl .no 5 (es cWal n6), i64 n7, i64 n8, .sl .no 2 (es cSp n9), .sl .no 2 (es cBoat n10), .sl .no 4 (es cSky n11), .sl .no 1 (es cInts n12), .sl .no 1 (es cInt n13), .sl .no 2 (es cSp n14)]), (640, .tok c.length)] :: s) = some (.normal, [(1, .sl .no 1 (es cInt c)), (2, .ptr s.length 32 0), (5, i64 B), (6, i64 b), (8, .sl .no 1 (es cInt w)), (10, i64 R), (12, i64 b2), (13, i64 0)], [(32, .cell [i64 n0, i64 n1, i64 n2, i64 n3, .sl .no 2 (es cSp n4), .sl .no 2 (es cAnc n5), .sl .no 5 (es cWal n6), i64 n7, i64 n8, .sl .no 2 (es cSp n9), .sl .no 2 (es cBoat n10), .sl .no 4 (es cSky n11), .sl .no 1 (es cInts n12), .sl .no 1 (es cInt n13), .sl .no 2 (es cSp n14)]), (640, .tok c.length), (1648, .tok w.length)] :: s) := by
 simp (maxSteps := 6000000) (disch := first | omega | assumption | decide +kernel | (simp; done) | (simp; omega) | fail) [run_drawnK, a1, appK_full, appD_full]
theorem course_12n (n0 : Int) (n1 : Int) (n2 : Int) (n3 : Int) (n4 : List Sp) (n5 : List Anc) (n6 : List Wal) (n7 : Int) (n8 : Int) (n9 : List Sp) (n10 : List Boat) (n11 : List Sky) (n12 : List (List Int)) (n13 : List Int) (n14 : List Sp) (hs : Short (⟨⟨⟨n0, n1⟩, ⟨n2, n3⟩, n4, n5, n6⟩, ⟨⟨n7, n8⟩, n9, n10⟩, n11, n12, n13, n14⟩ : Season)) (hok : seasonOk (⟨⟨⟨n0, n1⟩, ⟨n2, n3⟩, n4, n5, n6⟩, ⟨⟨n7, n8⟩, n9, n10⟩, n11, n12, n13, n14⟩ : Season) = true) (c w : List Int) (hc : isCourse (⟨⟨⟨n0, n1⟩, ⟨n2, n3⟩, n4, n5, n6⟩, ⟨⟨n7, n8⟩, n9, n10⟩, n11, n12, n13, n14⟩ : Season) c = true) (b R : Int) (hb : 0 ≤ b ∧ b ≤ 2000) (hR : ∀ j (hj : j < c.length), mayS (⟨⟨⟨n0, n1⟩, ⟨n2, n3⟩, n4, n5, n6⟩, ⟨⟨n7, n8⟩, n9, n10⟩, n11, n12, n13, n14⟩ : Season) j c[j].toNat = true → dayLo (⟨⟨⟨n0, n1⟩, ⟨n2, n3⟩, n4, n5, n6⟩, ⟨⟨n7, n8⟩, n9, n10⟩, n11, n12, n13, n14⟩ : Season) j - b ≤ R) (s : Stk) :
 Run T (.seq ( .region false [ ⟨(some 14), .mv (.c (i64 0)), none, [], []⟩] [1, 2, 6, 10, 14]) ( .block 0 ( b7l0))) [(1, .sl .no 1 (es cInt c)), (2, .ptr s.length 32 0), (6, i64 b), (10, i64 R), (123, .bool false)] ([(32, .cell [i64 n0, i64 n1, i64 n2, i64 n3, .sl .no 2 (es cSp n4), .sl .no 2 (es cAnc n5), .sl .no 5 (es cWal n6), i64 n7, i64 n8, .sl .no 2 (es cSp n9), .sl .no 2 (es cBoat n10), .sl .no 4 (es cSky n11), .sl .no 1 (es cInts n12), .sl .no 1 (es cInt n13), .sl .no 2 (es cSp n14)])] :: s) = some (.normal, [(1, .sl .no 1 (es cInt c)), (2, .ptr s.length 32 0), (6, i64 b), (10, i64 R), (14, i64 c.length), (127, .bool false)], [(32, .cell [i64 n0, i64 n1, i64 n2, i64 n3, .sl .no 2 (es cSp n4), .sl .no 2 (es cAnc n5), .sl .no 5 (es cWal n6), i64 n7, i64 n8, .sl .no 2 (es cSp n9), .sl .no 2 (es cBoat n10), .sl .no 4 (es cSky n11), .sl .no 1 (es cInts n12), .sl .no 1 (es cInt n13), .sl .no 2 (es cSp n14)])] :: s) := by
 have key := fun s => e_Course_l n0 n1 n2 n3 n4 n5 n6 n7 n8 n9 n10 n11 n12 n13 n14 hs hok c hc b R hb hR s
 simp (maxSteps := 6000000) (disch := first | omega | assumption | decide +kernel | (simp; done) | (simp; omega) | fail) [key]
theorem course_12 (n0 : Int) (n1 : Int) (n2 : Int) (n3 : Int) (n4 : List Sp) (n5 : List Anc) (n6 : List Wal) (n7 : Int) (n8 : Int) (n9 : List Sp) (n10 : List Boat) (n11 : List Sky) (n12 : List (List Int)) (n13 : List Int) (n14 : List Sp) (hs : Short (⟨⟨⟨n0, n1⟩, ⟨n2, n3⟩, n4, n5, n6⟩, ⟨⟨n7, n8⟩, n9, n10⟩, n11, n12, n13, n14⟩ : Season)) (hok : seasonOk (⟨⟨⟨n0, n1⟩, ⟨n2, n3⟩, n4, n5, n6⟩, ⟨⟨n7, n8⟩, n9, n10⟩, n11, n12, n13, n14⟩ : Season) = true) (c w : List Int) (hc : isCourse (⟨⟨⟨n0, n1⟩, ⟨n2, n3⟩, n4, n5, n6⟩, ⟨⟨n7, n8⟩, n9, n10⟩, n11, n12, n13, n14⟩ : Season) c = true) (b R : Int) (hb : 0 ≤ b ∧ b ≤ 2000) (hR : ∀ j (hj : j < c.length), mayS (⟨⟨⟨n0, n1⟩, ⟨n2, n3⟩, n4, n5, n6⟩, ⟨⟨n7, n8⟩, n9, n10⟩, n11, n12, n13, n14⟩ : Season) j c[j].toNat = true → dayLo (⟨⟨⟨n0, n1⟩, ⟨n2, n3⟩, n4, n5, n6⟩, ⟨⟨n7, n8⟩, n9, n10⟩, n11, n12, n13, n14⟩ : Season) j - b ≤ R) (s : Stk) :
 Run T (.seq ( .region false [ ⟨(some 14), .mv (.c (i64 0)), none, [], []⟩] [1, 2, 6, 10, 14]) ( .block 0 ( b7l0))) [(1, .sl .no 1 (es cInt c)), (2, .ptr s.length 32 0), (6, i64 b), (10, i64 R), (123, .bool false)] ([(32, .cell [i64 n0, i64 n1, i64 n2, i64 n3, .sl .no 2 (es cSp n4), .sl .no 2 (es cAnc n5), .sl .no 5 (es cWal n6), i64 n7, i64 n8, .sl .no 2 (es cSp n9), .sl .no 2 (es cBoat n10), .sl .no 4 (es cSky n11), .sl .no 1 (es cInts n12), .sl .no 1 (es cInt n13), .sl .no 2 (es cSp n14)]), (640, .tok c.length), (1648, .tok w.length)] :: s) = some (.normal, [(1, .sl .no 1 (es cInt c)), (2, .ptr s.length 32 0), (6, i64 b), (10, i64 R), (14, i64 c.length), (127, .bool false)], [(32, .cell [i64 n0, i64 n1, i64 n2, i64 n3, .sl .no 2 (es cSp n4), .sl .no 2 (es cAnc n5), .sl .no 5 (es cWal n6), i64 n7, i64 n8, .sl .no 2 (es cSp n9), .sl .no 2 (es cBoat n10), .sl .no 4 (es cSky n11), .sl .no 1 (es cInts n12), .sl .no 1 (es cInt n13), .sl .no 2 (es cSp n14)]), (640, .tok c.length), (1648, .tok w.length)] :: s) := by
 have key := fun s => e_Course_l2 n0 n1 n2 n3 n4 n5 n6 n7 n8 n9 n10 n11 n12 n13 n14 hs hok c hc b R c.length w.length hb hR s
 simp (maxSteps := 6000000) (disch := first | omega | assumption | decide +kernel | (simp; done) | (simp; omega) | fail) [key]
set_option maxHeartbeats 4000000 in
theorem e_SkiesCourse (n0 : Int) (n1 : Int) (n2 : Int) (n3 : Int) (n4 : List Sp) (n5 : List Anc) (n6 : List Wal) (n7 : Int) (n8 : Int) (n9 : List Sp) (n10 : List Boat) (n11 : List Sky) (n12 : List (List Int)) (n13 : List Int) (n14 : List Sp) (hs : ShortC (⟨⟨⟨n0, n1⟩, ⟨n2, n3⟩, n4, n5, n6⟩, ⟨⟨n7, n8⟩, n9, n10⟩, n11, n12, n13, n14⟩ : Season)) (c : List Int) (hcl : c.length < 17592186044416) (lab s) : den T 7 [.agg [i64 n0, i64 n1, i64 n2, i64 n3, .sl .no 2 (es cSp n4), .sl .no 2 (es cAnc n5), .sl .no 5 (es cWal n6), i64 n7, i64 n8, .sl .no 2 (es cSp n9), .sl .no 2 (es cBoat n10), .sl .no 4 (es cSky n11), .sl .no 1 (es cInts n12), .sl .no 1 (es cInt n13), .sl .no 2 (es cSp n14)], .sl .no 1 (es cInt c)] lab s = some (.bool true, s) := by
 have hs1 : Short (⟨⟨⟨n0, n1⟩, ⟨n2, n3⟩, n4, n5, n6⟩, ⟨⟨n7, n8⟩, n9, n10⟩, n11, n12, n13, n14⟩ : Season) := hs.short
 have hx := e_works
 have hr := fun lab s => e_ready n0 n1 n2 n3 n4 n5 n6 n7 n8 n9 n10 n11 n12 n13 n14 hs1.skies hs1.follows hs1.first hs1.days hs1.each lab s
 simp only [ready] at hr
 rw [den_fn t7 _ _ _ rfl]
 simp only [b7]
 cases c0 : farSeason (⟨⟨⟨n0, n1⟩, ⟨n2, n3⟩, n4, n5, n6⟩, ⟨⟨n7, n8⟩, n9, n10⟩, n11, n12, n13, n14⟩ : Season)
 rotate_left
 ·simp (maxSteps := 6000000) (disch := first | omega | assumption | decide +kernel | (simp; done) | (simp; omega) | fail) [run_drawnK, hr, c0, hx]
 cases c1 : seasonOk (⟨⟨⟨n0, n1⟩, ⟨n2, n3⟩, n4, n5, n6⟩, ⟨⟨n7, n8⟩, n9, n10⟩, n11, n12, n13, n14⟩ : Season)
 ·simp (maxSteps := 6000000) (disch := first | omega | assumption | decide +kernel | (simp; done) | (simp; omega) | fail) [run_drawnK, hr, c0, c1, hx]
 by_cases c2 : (40 : Int) < c.length
 ·simp (maxSteps := 6000000) (disch := first | omega | assumption | decide +kernel | (simp; done) | (simp; omega) | fail) [run_drawnK, hr, c0, c1, c2, hx]
 have hi := fun lab s => e_IsCourse n0 n1 n2 n3 n4 n5 n6 n7 n8 n9 n10 n11 n12 n13 n14 hs1 c1 c (by omega) lab s
 cases c3 : isCourse (⟨⟨⟨n0, n1⟩, ⟨n2, n3⟩, n4, n5, n6⟩, ⟨⟨n7, n8⟩, n9, n10⟩, n11, n12, n13, n14⟩ : Season) c
 ·simp (maxSteps := 6000000) (disch := first | omega | assumption | decide +kernel | (simp; done) | (simp; omega) | fail) [run_drawnK, hr, c0, c1, c2, c3, hi, hx]
 obtain ⟨hw1, hw2, hw3⟩ := worst_course c1
 have hwl := worst_len c1
 obtain ⟨hl1, hl2, hl3⟩ := lawBest_okz c1
 obtain ⟨hbc, _⟩ := best_courses c1
 have hcb := hbc c ((course_iff _ c).2 c3)
 obtain ⟨k1, k2⟩ := isCourse_ok c1 c3
 simp only at k1 k2
 obtain ⟨kw1, kw2⟩ := isCourse_ok c1 hw1
 simp only at kw1 kw2
 have hbr := brings_ok c1 (c := c) (by simp only; omega)
 have hrr := regret_range c1
 have hreg := (regret_fold (⟨⟨⟨n0, n1⟩, ⟨n2, n3⟩, n4, n5, n6⟩, ⟨⟨n7, n8⟩, n9, n10⟩, n11, n12, n13, n14⟩ : Season) (coursesFrom (⟨⟨⟨n0, n1⟩, ⟨n2, n3⟩, n4, n5, n6⟩, ⟨⟨n7, n8⟩, n9, n10⟩, n11, n12, n13, n14⟩ : Season) n14.length [] n13) 0).2 c ((course_iff _ c).2 c3)
 change ∀ j (hj : j < c.length), mayS (⟨⟨⟨n0, n1⟩, ⟨n2, n3⟩, n4, n5, n6⟩, ⟨⟨n7, n8⟩, n9, n10⟩, n11, n12, n13, n14⟩ : Season) j c[j].toNat = true → dayLo (⟨⟨⟨n0, n1⟩, ⟨n2, n3⟩, n4, n5, n6⟩, ⟨⟨n7, n8⟩, n9, n10⟩, n11, n12, n13, n14⟩ : Season) j - bringsS (⟨⟨⟨n0, n1⟩, ⟨n2, n3⟩, n4, n5, n6⟩, ⟨⟨n7, n8⟩, n9, n10⟩, n11, n12, n13, n14⟩ : Season) c ≤ regretS (⟨⟨⟨n0, n1⟩, ⟨n2, n3⟩, n4, n5, n6⟩, ⟨⟨n7, n8⟩, n9, n10⟩, n11, n12, n13, n14⟩ : Season) at hreg
 have a0 := fun lab s => e_best13law n0 n1 n2 n3 n4 n5 n6 n7 n8 n9 n10 n11 n12 n13 n14 hs1 lab s
 rw [hl1] at a0
 have a1 := fun lab s => e_Brings n0 n1 n2 n3 n4 n5 n6 n7 n8 n9 n10 n11 n12 n13 n14 hs1 c (by omega) lab s
 have e1 : bringsR (⟨⟨⟨n0, n1⟩, ⟨n2, n3⟩, n4, n5, n6⟩, ⟨⟨n7, n8⟩, n9, n10⟩, n11, n12, n13, n14⟩ : Season) c = (bringsS (⟨⟨⟨n0, n1⟩, ⟨n2, n3⟩, n4, n5, n6⟩, ⟨⟨n7, n8⟩, n9, n10⟩, n11, n12, n13, n14⟩ : Season) c, 0) := by simp [bringsR, c1, c3]
 simp only [e1] at a1
 have a2 := fun lab s => e_Worst n0 n1 n2 n3 n4 n5 n6 n7 n8 n9 n10 n11 n12 n13 n14 hs1 lab s
 have e2 : (worstR (⟨⟨⟨n0, n1⟩, ⟨n2, n3⟩, n4, n5, n6⟩, ⟨⟨n7, n8⟩, n9, n10⟩, n11, n12, n13, n14⟩ : Season)).2 = 0 := by rw [worstR, if_pos c1]
 simp only [e2] at a2
 have a3 := fun lab s => e_Regret n0 n1 n2 n3 n4 n5 n6 n7 n8 n9 n10 n11 n12 n13 n14 hs1 lab s
 have e3 : regretR (⟨⟨⟨n0, n1⟩, ⟨n2, n3⟩, n4, n5, n6⟩, ⟨⟨n7, n8⟩, n9, n10⟩, n11, n12, n13, n14⟩ : Season) = (regretS (⟨⟨⟨n0, n1⟩, ⟨n2, n3⟩, n4, n5, n6⟩, ⟨⟨n7, n8⟩, n9, n10⟩, n11, n12, n13, n14⟩ : Season), 0) := by rw [regretR, if_pos c1]
 simp only [e3] at a3
 have a4 := fun lab s => e_Brings n0 n1 n2 n3 n4 n5 n6 n7 n8 n9 n10 n11 n12 n13 n14 hs1 (worstR (⟨⟨⟨n0, n1⟩, ⟨n2, n3⟩, n4, n5, n6⟩, ⟨⟨n7, n8⟩, n9, n10⟩, n11, n12, n13, n14⟩ : Season)).1 (by omega) lab s
 have e4 : bringsR (⟨⟨⟨n0, n1⟩, ⟨n2, n3⟩, n4, n5, n6⟩, ⟨⟨n7, n8⟩, n9, n10⟩, n11, n12, n13, n14⟩ : Season) (worstR (⟨⟨⟨n0, n1⟩, ⟨n2, n3⟩, n4, n5, n6⟩, ⟨⟨n7, n8⟩, n9, n10⟩, n11, n12, n13, n14⟩ : Season)).1 = (bestS (⟨⟨⟨n0, n1⟩, ⟨n2, n3⟩, n4, n5, n6⟩, ⟨⟨n7, n8⟩, n9, n10⟩, n11, n12, n13, n14⟩ : Season), 0) := by simp [bringsR, c1, hw1, hw2]
 simp only [e4] at a4
 have a5 := fun lab s => e_IsCourse n0 n1 n2 n3 n4 n5 n6 n7 n8 n9 n10 n11 n12 n13 n14 hs1 c1 (worstR (⟨⟨⟨n0, n1⟩, ⟨n2, n3⟩, n4, n5, n6⟩, ⟨⟨n7, n8⟩, n9, n10⟩, n11, n12, n13, n14⟩ : Season)).1 (by omega) lab s
 rw [hw1] at a5
 rw [c3] at hi
 have a6 := fun lab s => e_Earlier c (worstR (⟨⟨⟨n0, n1⟩, ⟨n2, n3⟩, n4, n5, n6⟩, ⟨⟨n7, n8⟩, n9, n10⟩, n11, n12, n13, n14⟩ : Season)).1 (by omega) (by omega) lab s
 have hear := hw3 c c3
 generalize (worstR (⟨⟨⟨n0, n1⟩, ⟨n2, n3⟩, n4, n5, n6⟩, ⟨⟨n7, n8⟩, n9, n10⟩, n11, n12, n13, n14⟩ : Season)).1 = w at *
 generalize bringsS (⟨⟨⟨n0, n1⟩, ⟨n2, n3⟩, n4, n5, n6⟩, ⟨⟨n7, n8⟩, n9, n10⟩, n11, n12, n13, n14⟩ : Season) c = b at *
 generalize regretS (⟨⟨⟨n0, n1⟩, ⟨n2, n3⟩, n4, n5, n6⟩, ⟨⟨n7, n8⟩, n9, n10⟩, n11, n12, n13, n14⟩ : Season) = R at *
 generalize bestS (⟨⟨⟨n0, n1⟩, ⟨n2, n3⟩, n4, n5, n6⟩, ⟨⟨n7, n8⟩, n9, n10⟩, n11, n12, n13, n14⟩ : Season) = B at *
 have g1 : ¬ B < 0 := by omega
 have g2 : ¬ b < B := by omega
 have g3 : ¬ 2000 < b := by omega
 have g4 : ¬ R < 0 := by omega
 have g5 : ¬ 2000 < R := by omega
 have a6' : b = B → ∀ lab s, den T 42 [.sl .no 1 (es cInt c), .sl .no 1 (es cInt w)] lab s = some (.bool false, s) := fun h lab s => by rw [a6 lab s, hear h]
 have hall : ∃ F', Run T (.seq ( .region false [ ⟨(some 34), .load (some 15) (.t 2), none, [], []⟩, ⟨(some 35), .call 41 [(.t 34)], none, [], []⟩, ⟨(some 5), .mv (.t 35), none, [], []⟩] [1, 2, 5]) ( .seq ( .region true (spl [ ⟨(some 37), .load (some 15) (.t 2), none, [], []⟩, ⟨(some 38), .lit [(i64 0)] 0 [], none, [], []⟩, ⟨(some 39), .mv (.t 1), none, [], []⟩, ⟨(some 40), .app 1 8 (.t 38) (.t 39), none, [1, 2], []⟩, ⟨(some 41), .call 20 [(.t 37), (.t 40)], none, [0, 3, 1, 2], []⟩, ⟨(some 36), .mv (.t 41), none, [4, 0, 3, 1, 2], []⟩, ⟨(some 42), .ext (.t 36) 0, none, [5, 4, 0, 3, 1, 2], []⟩, ⟨(some 43), .ext (.t 36) 1, none, [5, 4, 0, 3, 1, 2], []⟩, ⟨(some 6), .mv (.t 42), none, [6, 5, 4, 0, 3, 1, 2], []⟩] [ ⟨(some 7), .mv (.t 43), none, [7, 8, 6, 5, 4, 0, 3, 1, 2], []⟩]) [1, 2, 5, 6, 7]) ( .seq ( .region false [ ⟨(some 45), .load (some 15) (.t 2), none, [], []⟩, ⟨(some 46), .call 22 [(.t 45)], none, [], []⟩, ⟨(some 44), .mv (.t 46), none, [], []⟩, ⟨(some 47), .ext (.t 44) 0, none, [], []⟩, ⟨(some 48), .ext (.t 44) 1, none, [], []⟩, ⟨(some 8), .mv (.t 47), none, [], []⟩, ⟨(some 9), .mv (.t 48), none, [], []⟩] [1, 2, 5, 6, 7, 8, 9]) ( .seq ( .region false [ ⟨(some 50), .load (some 15) (.t 2), none, [], []⟩, ⟨(some 51), .call 27 [(.t 50)], none, [], []⟩, ⟨(some 49), .mv (.t 51), none, [], []⟩, ⟨(some 52), .ext (.t 49) 0, none, [], []⟩, ⟨(some 53), .ext (.t 49) 1, none, [], []⟩, ⟨(some 10), .mv (.t 52), none, [], []⟩, ⟨(some 11), .mv (.t 53), none, [], []⟩] [1, 2, 5, 6, 7, 8, 9, 10, 11]) ( .seq ( .seq ( .region false [ ⟨(some 54), .mv (.t 5), none, [], []⟩, ⟨(some 55), .bin .lss (.t 54) (.c (i64 0)), none, [], []⟩, ⟨(some 56), .mv (.t 55), none, [], []⟩, ⟨(some 57), .mv (.t 7), (some (56, false)), [], []⟩, ⟨(some 58), .bin .neq (.t 57) (.c (i64 0)), (some (56, false)), [], []⟩, ⟨(some 59), .pick (.t 56) (.c (.bool true)) (.t 58), none, [], []⟩, ⟨(some 60), .mv (.t 59), none, [], []⟩, ⟨(some 61), .mv (.t 9), (some (60, false)), [], []⟩, ⟨(some 62), .bin .neq (.t 61) (.c (i64 0)), (some (60, false)), [], []⟩, ⟨(some 63), .pick (.t 60) (.c (.bool true)) (.t 62), none, [], []⟩, ⟨(some 64), .mv (.t 63), none, [], []⟩, ⟨(some 65), .mv (.t 11), (some (64, false)), [], []⟩, ⟨(some 66), .bin .neq (.t 65) (.c (i64 0)), (some (64, false)), [], []⟩, ⟨(some 67), .pick (.t 64) (.c (.bool true)) (.t 66), none, [], []⟩, ⟨(some 68), .mv (.t 67), none, [], []⟩, ⟨(some 69), .mv (.t 6), (some (68, false)), [], []⟩, ⟨(some 70), .mv (.t 5), (some (68, false)), [], []⟩, ⟨(some 71), .bin .lss (.t 69) (.t 70), (some (68, false)), [], []⟩, ⟨(some 72), .pick (.t 68) (.c (.bool true)) (.t 71), none, [], []⟩, ⟨(some 73), .mv (.t 72), none, [], []⟩, ⟨(some 74), .mv (.t 6), (some (73, false)), [], []⟩, ⟨(some 75), .bin .gtr (.t 74) (.c (i64 2000)), (some (73, false)), [], []⟩, ⟨(some 76), .pick (.t 73) (.c (.bool true)) (.t 75), none, [], []⟩, ⟨(some 77), .mv (.t 76), none, [], []⟩, ⟨(some 78), .mv (.t 10), (some (77, false)), [], []⟩, ⟨(some 79), .bin .lss (.t 78) (.c (i64 0)), (some (77, false)), [], []⟩, ⟨(some 80), .pick (.t 77) (.c (.bool true)) (.t 79), none, [], []⟩, ⟨(some 81), .mv (.t 80), none, [], []⟩, ⟨(some 82), .mv (.t 10), (some (81, false)), [], []⟩, ⟨(some 83), .bin .gtr (.t 82) (.c (i64 2000)), (some (81, false)), [], []⟩, ⟨(some 84), .pick (.t 81) (.c (.bool true)) (.t 83), none, [], []⟩, ⟨(some 85), .mv (.t 84), none, [], []⟩, ⟨(some 86), .mv (.t 8), (some (85, false)), [], []⟩, ⟨(some 87), .len (.t 86), (some (85, false)), [], []⟩, ⟨(some 88), .faddr 14 (.t 2), (some (85, false)), [], []⟩, ⟨(some 89), .load none (.t 88), (some (85, false)), [], []⟩, ⟨(some 90), .len (.t 89), (some (85, false)), [], []⟩, ⟨(some 91), .bin .neq (.t 87) (.t 90), (some (85, false)), [], []⟩, ⟨(some 92), .pick (.t 85) (.c (.bool true)) (.t 91), none, [], []⟩, ⟨(some 93), .mv (.t 92), none, [], []⟩, ⟨(some 94), .load (some 15) (.t 2), (some (93, false)), [], []⟩, ⟨(some 95), .mv (.t 8), (some (93, false)), [], []⟩, ⟨(some 96), .call 40 [(.t 94), (.t 95)], (some (93, false)), [], []⟩, ⟨(some 97), .un .not (.t 96), (some (93, false)), [], []⟩, ⟨(some 98), .pick (.t 93) (.c (.bool true)) (.t 97), none, [], []⟩] [1, 2, 5, 6, 8, 10, 98]) ( .cond (.t 98) ( .seq ( .region false [ ⟨(some 4), .mv (.c (.bool false)), none, [], []⟩] [4]) ( .ret)) ( .skip))) ( .seq ( .region true (spl [ ⟨(some 100), .load (some 15) (.t 2), none, [], []⟩, ⟨(some 101), .lit [(i64 0)] 0 [], none, [], []⟩, ⟨(some 102), .mv (.t 8), none, [], []⟩, ⟨(some 103), .app 1 8 (.t 101) (.t 102), none, [1, 2], []⟩, ⟨(some 104), .call 20 [(.t 100), (.t 103)], none, [0, 3, 1, 2], []⟩, ⟨(some 99), .mv (.t 104), none, [4, 0, 3, 1, 2], []⟩, ⟨(some 105), .ext (.t 99) 0, none, [5, 4, 0, 3, 1, 2], []⟩, ⟨(some 106), .ext (.t 99) 1, none, [5, 4, 0, 3, 1, 2], []⟩, ⟨(some 12), .mv (.t 105), none, [6, 5, 4, 0, 3, 1, 2], []⟩] [ ⟨(some 13), .mv (.t 106), none, [7, 8, 6, 5, 4, 0, 3, 1, 2], []⟩]) [1, 2, 5, 6, 8, 10, 12, 13]) ( .seq ( .seq ( .region false [ ⟨(some 107), .mv (.t 13), none, [], []⟩, ⟨(some 108), .bin .neq (.t 107) (.c (i64 0)), none, [], []⟩, ⟨(some 109), .mv (.t 108), none, [], []⟩, ⟨(some 110), .mv (.t 12), (some (109, false)), [], []⟩, ⟨(some 111), .mv (.t 5), (some (109, false)), [], []⟩, ⟨(some 112), .bin .neq (.t 110) (.t 111), (some (109, false)), [], []⟩, ⟨(some 113), .pick (.t 109) (.c (.bool true)) (.t 112), none, [], []⟩, ⟨(some 114), .mv (.t 113), none, [], []⟩, ⟨(some 115), .mv (.t 6), (some (114, false)), [], []⟩, ⟨(some 116), .mv (.t 5), (some (114, false)), [], []⟩, ⟨(some 117), .bin .eql (.t 115) (.t 116), (some (114, false)), [], []⟩, ⟨(some 118), .mv (.t 117), (some (114, false)), [], []⟩, ⟨(some 119), .mv (.t 1), (some (118, true)), [], []⟩, ⟨(some 120), .mv (.t 8), (some (118, true)), [], []⟩, ⟨(some 121), .call 42 [(.t 119), (.t 120)], (some (118, true)), [], []⟩, ⟨(some 122), .pick (.t 118) (.t 121) (.c (.bool false)), (some (114, false)), [], []⟩, ⟨(some 123), .pick (.t 114) (.c (.bool true)) (.t 122), none, [], []⟩] [1, 2, 6, 10, 123]) ( .cond (.t 123) ( .seq ( .region false [ ⟨(some 4), .mv (.c (.bool false)), none, [], []⟩] [4]) ( .ret)) ( .skip))) ( .seq ( .seq ( .region false [ ⟨(some 14), .mv (.c (i64 0)), none, [], []⟩] [1, 2, 6, 10, 14]) ( .block 0 ( b7l0))) ( .seq ( .region false [ ⟨(some 184), .call 9 [], none, [], []⟩, ⟨(some 4), .mv (.t 184), none, [], []⟩] [4]) ( .ret)))))))))) [(1, .sl .no 1 (es cInt c)), (2, .ptr s.length 32 0), (32, .bool false)] ([(32, .cell [i64 n0, i64 n1, i64 n2, i64 n3, .sl .no 2 (es cSp n4), .sl .no 2 (es cAnc n5), .sl .no 5 (es cWal n6), i64 n7, i64 n8, .sl .no 2 (es cSp n9), .sl .no 2 (es cBoat n10), .sl .no 4 (es cSky n11), .sl .no 1 (es cInts n12), .sl .no 1 (es cInt n13), .sl .no 2 (es cSp n14)])] :: s) = some (.ret, [(4, .bool true)], F' :: s) := by
  by_cases c4 : c = []
  ·have hw : w = [] := List.length_eq_zero_iff.1 (by rw [c4] at k1; simp at k1; omega)
   refine ⟨[(32, .cell [i64 n0, i64 n1, i64 n2, i64 n3, .sl .no 2 (es cSp n4), .sl .no 2 (es cAnc n5), .sl .no 5 (es cWal n6), i64 n7, i64 n8, .sl .no 2 (es cSp n9), .sl .no 2 (es cBoat n10), .sl .no 4 (es cSky n11), .sl .no 1 (es cInts n12), .sl .no 1 (es cInt n13), .sl .no 2 (es cSp n14)])], ?_⟩
   rw [run_seq, course_3 n0 n1 n2 n3 n4 n5 n6 n7 n8 n9 n10 n11 n12 n13 n14 c B a0 s, thenRun_normal, run_seq, course_4n n0 n1 n2 n3 n4 n5 n6 n7 n8 n9 n10 n11 n12 n13 n14 c c4 (by omega) b a1 B s, thenRun_normal,
    run_seq, course_5 n0 n1 n2 n3 n4 n5 n6 n7 n8 n9 n10 n11 n12 n13 n14 c w b B _ s rfl a2, thenRun_normal, run_seq, course_6 n0 n1 n2 n3 n4 n5 n6 n7 n8 n9 n10 n11 n12 n13 n14 c w b B R _ s rfl a3, thenRun_normal,
    run_seq, course_7 n0 n1 n2 n3 n4 n5 n6 n7 n8 n9 n10 n11 n12 n13 n14 c w b B R _ s rfl a5 kw1 g1 g2 g3 g4 g5, thenRun_normal, run_seq, course_9n n0 n1 n2 n3 n4 n5 n6 n7 n8 n9 n10 n11 n12 n13 n14 c w hw (by omega) b B a4 B R s, thenRun_normal,
    run_seq, course_10 c w b B R _ s a6', thenRun_normal, run_seq, course_12n n0 n1 n2 n3 n4 n5 n6 n7 n8 n9 n10 n11 n12 n13 n14 hs1 c1 c w c3 b R hbr hreg s, thenRun_normal, run_seq, course_19 c b R _ s, thenRun_normal]
   exact run_ret _ _
  ·have c6 : es cInt c ≠ [] := by simpa using c4
   have c7 : es cInt w ≠ [] := by
    have : w ≠ [] := fun h => c4 (List.length_eq_zero_iff.1 (by rw [h] at kw1; simp at kw1; omega))
    simpa using this
   refine ⟨[(32, .cell [i64 n0, i64 n1, i64 n2, i64 n3, .sl .no 2 (es cSp n4), .sl .no 2 (es cAnc n5), .sl .no 5 (es cWal n6), i64 n7, i64 n8, .sl .no 2 (es cSp n9), .sl .no 2 (es cBoat n10), .sl .no 4 (es cSky n11), .sl .no 1 (es cInts n12), .sl .no 1 (es cInt n13), .sl .no 2 (es cSp n14)]), (640, .tok c.length), (1648, .tok w.length)], ?_⟩
   rw [run_seq, course_3 n0 n1 n2 n3 n4 n5 n6 n7 n8 n9 n10 n11 n12 n13 n14 c B a0 s, thenRun_normal, run_seq, course_4 n0 n1 n2 n3 n4 n5 n6 n7 n8 n9 n10 n11 n12 n13 n14 c c6 (by omega) b a1 B s, thenRun_normal,
    run_seq, course_5 n0 n1 n2 n3 n4 n5 n6 n7 n8 n9 n10 n11 n12 n13 n14 c w b B _ s rfl a2, thenRun_normal, run_seq, course_6 n0 n1 n2 n3 n4 n5 n6 n7 n8 n9 n10 n11 n12 n13 n14 c w b B R _ s rfl a3, thenRun_normal,
    run_seq, course_7 n0 n1 n2 n3 n4 n5 n6 n7 n8 n9 n10 n11 n12 n13 n14 c w b B R _ s rfl a5 kw1 g1 g2 g3 g4 g5, thenRun_normal, run_seq, course_9 n0 n1 n2 n3 n4 n5 n6 n7 n8 n9 n10 n11 n12 n13 n14 c w c7 (by omega) b B a4 B R s, thenRun_normal,
    run_seq, course_10 c w b B R _ s a6', thenRun_normal, run_seq, course_12 n0 n1 n2 n3 n4 n5 n6 n7 n8 n9 n10 n11 n12 n13 n14 hs1 c1 c w c3 b R hbr hreg s, thenRun_normal, run_seq, course_19 c b R _ s, thenRun_normal]
   exact run_ret _ _
 obtain ⟨F3, hall⟩ := hall
 generalize hZ : ((.seq ( .region false [ ⟨(some 34), .load (some 15) (.t 2), none, [], []⟩, ⟨(some 35), .call 41 [(.t 34)], none, [], []⟩, ⟨(some 5), .mv (.t 35), none, [], []⟩] [1, 2, 5]) ( .seq ( .region true (spl [ ⟨(some 37), .load (some 15) (.t 2), none, [], []⟩, ⟨(some 38), .lit [(i64 0)] 0 [], none, [], []⟩, ⟨(some 39), .mv (.t 1), none, [], []⟩, ⟨(some 40), .app 1 8 (.t 38) (.t 39), none, [1, 2], []⟩, ⟨(some 41), .call 20 [(.t 37), (.t 40)], none, [0, 3, 1, 2], []⟩, ⟨(some 36), .mv (.t 41), none, [4, 0, 3, 1, 2], []⟩, ⟨(some 42), .ext (.t 36) 0, none, [5, 4, 0, 3, 1, 2], []⟩, ⟨(some 43), .ext (.t 36) 1, none, [5, 4, 0, 3, 1, 2], []⟩, ⟨(some 6), .mv (.t 42), none, [6, 5, 4, 0, 3, 1, 2], []⟩] [ ⟨(some 7), .mv (.t 43), none, [7, 8, 6, 5, 4, 0, 3, 1, 2], []⟩]) [1, 2, 5, 6, 7]) ( .seq ( .region false [ ⟨(some 45), .load (some 15) (.t 2), none, [], []⟩, ⟨(some 46), .call 22 [(.t 45)], none, [], []⟩, ⟨(some 44), .mv (.t 46), none, [], []⟩, ⟨(some 47), .ext (.t 44) 0, none, [], []⟩, ⟨(some 48), .ext (.t 44) 1, none, [], []⟩, ⟨(some 8), .mv (.t 47), none, [], []⟩, ⟨(some 9), .mv (.t 48), none, [], []⟩] [1, 2, 5, 6, 7, 8, 9]) ( .seq ( .region false [ ⟨(some 50), .load (some 15) (.t 2), none, [], []⟩, ⟨(some 51), .call 27 [(.t 50)], none, [], []⟩, ⟨(some 49), .mv (.t 51), none, [], []⟩, ⟨(some 52), .ext (.t 49) 0, none, [], []⟩, ⟨(some 53), .ext (.t 49) 1, none, [], []⟩, ⟨(some 10), .mv (.t 52), none, [], []⟩, ⟨(some 11), .mv (.t 53), none, [], []⟩] [1, 2, 5, 6, 7, 8, 9, 10, 11]) ( .seq ( .seq ( .region false [ ⟨(some 54), .mv (.t 5), none, [], []⟩, ⟨(some 55), .bin .lss (.t 54) (.c (i64 0)), none, [], []⟩, ⟨(some 56), .mv (.t 55), none, [], []⟩, ⟨(some 57), .mv (.t 7), (some (56, false)), [], []⟩, ⟨(some 58), .bin .neq (.t 57) (.c (i64 0)), (some (56, false)), [], []⟩, ⟨(some 59), .pick (.t 56) (.c (.bool true)) (.t 58), none, [], []⟩, ⟨(some 60), .mv (.t 59), none, [], []⟩, ⟨(some 61), .mv (.t 9), (some (60, false)), [], []⟩, ⟨(some 62), .bin .neq (.t 61) (.c (i64 0)), (some (60, false)), [], []⟩, ⟨(some 63), .pick (.t 60) (.c (.bool true)) (.t 62), none, [], []⟩, ⟨(some 64), .mv (.t 63), none, [], []⟩, ⟨(some 65), .mv (.t 11), (some (64, false)), [], []⟩, ⟨(some 66), .bin .neq (.t 65) (.c (i64 0)), (some (64, false)), [], []⟩, ⟨(some 67), .pick (.t 64) (.c (.bool true)) (.t 66), none, [], []⟩, ⟨(some 68), .mv (.t 67), none, [], []⟩, ⟨(some 69), .mv (.t 6), (some (68, false)), [], []⟩, ⟨(some 70), .mv (.t 5), (some (68, false)), [], []⟩, ⟨(some 71), .bin .lss (.t 69) (.t 70), (some (68, false)), [], []⟩, ⟨(some 72), .pick (.t 68) (.c (.bool true)) (.t 71), none, [], []⟩, ⟨(some 73), .mv (.t 72), none, [], []⟩, ⟨(some 74), .mv (.t 6), (some (73, false)), [], []⟩, ⟨(some 75), .bin .gtr (.t 74) (.c (i64 2000)), (some (73, false)), [], []⟩, ⟨(some 76), .pick (.t 73) (.c (.bool true)) (.t 75), none, [], []⟩, ⟨(some 77), .mv (.t 76), none, [], []⟩, ⟨(some 78), .mv (.t 10), (some (77, false)), [], []⟩, ⟨(some 79), .bin .lss (.t 78) (.c (i64 0)), (some (77, false)), [], []⟩, ⟨(some 80), .pick (.t 77) (.c (.bool true)) (.t 79), none, [], []⟩, ⟨(some 81), .mv (.t 80), none, [], []⟩, ⟨(some 82), .mv (.t 10), (some (81, false)), [], []⟩, ⟨(some 83), .bin .gtr (.t 82) (.c (i64 2000)), (some (81, false)), [], []⟩, ⟨(some 84), .pick (.t 81) (.c (.bool true)) (.t 83), none, [], []⟩, ⟨(some 85), .mv (.t 84), none, [], []⟩, ⟨(some 86), .mv (.t 8), (some (85, false)), [], []⟩, ⟨(some 87), .len (.t 86), (some (85, false)), [], []⟩, ⟨(some 88), .faddr 14 (.t 2), (some (85, false)), [], []⟩, ⟨(some 89), .load none (.t 88), (some (85, false)), [], []⟩, ⟨(some 90), .len (.t 89), (some (85, false)), [], []⟩, ⟨(some 91), .bin .neq (.t 87) (.t 90), (some (85, false)), [], []⟩, ⟨(some 92), .pick (.t 85) (.c (.bool true)) (.t 91), none, [], []⟩, ⟨(some 93), .mv (.t 92), none, [], []⟩, ⟨(some 94), .load (some 15) (.t 2), (some (93, false)), [], []⟩, ⟨(some 95), .mv (.t 8), (some (93, false)), [], []⟩, ⟨(some 96), .call 40 [(.t 94), (.t 95)], (some (93, false)), [], []⟩, ⟨(some 97), .un .not (.t 96), (some (93, false)), [], []⟩, ⟨(some 98), .pick (.t 93) (.c (.bool true)) (.t 97), none, [], []⟩] [1, 2, 5, 6, 8, 10, 98]) ( .cond (.t 98) ( .seq ( .region false [ ⟨(some 4), .mv (.c (.bool false)), none, [], []⟩] [4]) ( .ret)) ( .skip))) ( .seq ( .region true (spl [ ⟨(some 100), .load (some 15) (.t 2), none, [], []⟩, ⟨(some 101), .lit [(i64 0)] 0 [], none, [], []⟩, ⟨(some 102), .mv (.t 8), none, [], []⟩, ⟨(some 103), .app 1 8 (.t 101) (.t 102), none, [1, 2], []⟩, ⟨(some 104), .call 20 [(.t 100), (.t 103)], none, [0, 3, 1, 2], []⟩, ⟨(some 99), .mv (.t 104), none, [4, 0, 3, 1, 2], []⟩, ⟨(some 105), .ext (.t 99) 0, none, [5, 4, 0, 3, 1, 2], []⟩, ⟨(some 106), .ext (.t 99) 1, none, [5, 4, 0, 3, 1, 2], []⟩, ⟨(some 12), .mv (.t 105), none, [6, 5, 4, 0, 3, 1, 2], []⟩] [ ⟨(some 13), .mv (.t 106), none, [7, 8, 6, 5, 4, 0, 3, 1, 2], []⟩]) [1, 2, 5, 6, 8, 10, 12, 13]) ( .seq ( .seq ( .region false [ ⟨(some 107), .mv (.t 13), none, [], []⟩, ⟨(some 108), .bin .neq (.t 107) (.c (i64 0)), none, [], []⟩, ⟨(some 109), .mv (.t 108), none, [], []⟩, ⟨(some 110), .mv (.t 12), (some (109, false)), [], []⟩, ⟨(some 111), .mv (.t 5), (some (109, false)), [], []⟩, ⟨(some 112), .bin .neq (.t 110) (.t 111), (some (109, false)), [], []⟩, ⟨(some 113), .pick (.t 109) (.c (.bool true)) (.t 112), none, [], []⟩, ⟨(some 114), .mv (.t 113), none, [], []⟩, ⟨(some 115), .mv (.t 6), (some (114, false)), [], []⟩, ⟨(some 116), .mv (.t 5), (some (114, false)), [], []⟩, ⟨(some 117), .bin .eql (.t 115) (.t 116), (some (114, false)), [], []⟩, ⟨(some 118), .mv (.t 117), (some (114, false)), [], []⟩, ⟨(some 119), .mv (.t 1), (some (118, true)), [], []⟩, ⟨(some 120), .mv (.t 8), (some (118, true)), [], []⟩, ⟨(some 121), .call 42 [(.t 119), (.t 120)], (some (118, true)), [], []⟩, ⟨(some 122), .pick (.t 118) (.t 121) (.c (.bool false)), (some (114, false)), [], []⟩, ⟨(some 123), .pick (.t 114) (.c (.bool true)) (.t 122), none, [], []⟩] [1, 2, 6, 10, 123]) ( .cond (.t 123) ( .seq ( .region false [ ⟨(some 4), .mv (.c (.bool false)), none, [], []⟩] [4]) ( .ret)) ( .skip))) ( .seq ( .seq ( .region false [ ⟨(some 14), .mv (.c (i64 0)), none, [], []⟩] [1, 2, 6, 10, 14]) ( .block 0 ( b7l0))) ( .seq ( .region false [ ⟨(some 184), .call 9 [], none, [], []⟩, ⟨(some 4), .mv (.t 184), none, [], []⟩] [4]) ( .ret)))))))))) : AC) = Z at hall ⊢
 clear hZ a0 a1 a2 a3 a4 a5 a6 a6'
 simp (maxSteps := 6000000) (disch := first | omega | assumption | decide +kernel | (simp; done) | (simp; omega) | fail) [run_drawnK, hr, c0, c1, c2, hi, hall]
end Go.Proofs.YtekgicoibcgecaaGreat
