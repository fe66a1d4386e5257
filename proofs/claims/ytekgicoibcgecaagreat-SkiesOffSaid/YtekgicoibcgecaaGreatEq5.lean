/-
  Chapter 13: worth, lift, brings, courses, Worst of the reference; Brings and Worst of the program.
-/
import Derived.Test.YtekgicoibcgecaaGreatEq4
set_option linter.unusedSimpArgs false
set_option linter.unusedVariables false
namespace Go.Proofs.YtekgicoibcgecaaGreat
open Go.Ab
theorem leastL_tail (f : Int → Int) (x : Int) (r : List Int) (h : f x ≤ 2000) : r.foldl (fun a y => min a (f y)) (f x) = leastL f (x :: r) := by
 rw [leastL, List.foldl_cons, show min 2000 (f x) = f x by omega]
theorem e_worst13_l (n0 : Int) (n1 : Int) (n2 : Int) (n3 : Int) (n4 : List Sp) (n5 : List Anc) (n6 : List Wal) (n7 : Int) (n8 : Int) (n9 : List Sp) (n10 : List Boat) (n11 : List Sky) (n12 : List (List Int)) (n13 : List Int) (n14 : List Sp) (day : Nat) (f : Int → Int) (l : List Int) (hl : l.length < 4611686018427387904) (hf : ∀ x, x ∈ l → ∀ lab s, den T 87 [.agg [i64 n0, i64 n1, i64 n2, i64 n3, .sl .no 2 (es cSp n4), .sl .no 2 (es cAnc n5), .sl .no 5 (es cWal n6), i64 n7, i64 n8, .sl .no 2 (es cSp n9), .sl .no 2 (es cBoat n10), .sl .no 4 (es cSky n11), .sl .no 1 (es cInts n12), .sl .no 1 (es cInt n13), .sl .no 2 (es cSp n14)], .sl .no 1 (es cBools (maysS (⟨⟨⟨n0, n1⟩, ⟨n2, n3⟩, n4, n5, n6⟩, ⟨⟨n7, n8⟩, n9, n10⟩, n11, n12, n13, n14⟩ : Season))), i64 day, i64 x] lab s = some (i64 (f x), s)) (x0 : Int) (s : Stk) :
 Run T b117l0 [(1, .sl .no 1 (es cBools (maysS (⟨⟨⟨n0, n1⟩, ⟨n2, n3⟩, n4, n5, n6⟩, ⟨⟨n7, n8⟩, n9, n10⟩, n11, n12, n13, n14⟩ : Season)))), (2, i64 day), (3, .sl .no 1 (es cInt l)), (4, .ptr s.length 64 0), (9, i64 x0), (10, i64 1)] ([(64, .cell [i64 n0, i64 n1, i64 n2, i64 n3, .sl .no 2 (es cSp n4), .sl .no 2 (es cAnc n5), .sl .no 5 (es cWal n6), i64 n7, i64 n8, .sl .no 2 (es cSp n9), .sl .no 2 (es cBoat n10), .sl .no 4 (es cSky n11), .sl .no 1 (es cInts n12), .sl .no 1 (es cInt n13), .sl .no 2 (es cSp n14)])] :: s) = some (.exit 0, [(1, .sl .no 1 (es cBools (maysS (⟨⟨⟨n0, n1⟩, ⟨n2, n3⟩, n4, n5, n6⟩, ⟨⟨n7, n8⟩, n9, n10⟩, n11, n12, n13, n14⟩ : Season)))), (2, i64 day), (3, .sl .no 1 (es cInt l)), (4, .ptr s.length 64 0), (9, i64 ((l.tail).foldl (fun (a : Int) (y : Int) => min a (f y)) x0)), (10, i64 (1 + (l.tail.length : Nat))), (21, .bool false)], [(64, .cell [i64 n0, i64 n1, i64 n2, i64 n3, .sl .no 2 (es cSp n4), .sl .no 2 (es cAnc n5), .sl .no 5 (es cWal n6), i64 n7, i64 n8, .sl .no 2 (es cSp n9), .sl .no 2 (es cBoat n10), .sl .no 4 (es cSky n11), .sl .no 1 (es cInts n12), .sl .no 1 (es cInt n13), .sl .no 2 (es cSp n14)])] :: s) := by
 have key := loop_fold (T := T) (live := [1, 2, 3, 4, 9, 10]) (keep := [64, 272]) (b := d117l0) (l.tail) (fun _ _ => True) (fun (a : Int) (y : Int) => min a (f y)) (fun k (a : Int) => [(1, .sl .no 1 (es cBools (maysS (⟨⟨⟨n0, n1⟩, ⟨n2, n3⟩, n4, n5, n6⟩, ⟨⟨n7, n8⟩, n9, n10⟩, n11, n12, n13, n14⟩ : Season)))), (2, i64 day), (3, .sl .no 1 (es cInt l)), (4, .ptr s.length 64 0), (9, i64 a), (10, i64 (1 + (k : Nat)))]) (fun k (a : Int) => [(64, .cell [i64 n0, i64 n1, i64 n2, i64 n3, .sl .no 2 (es cSp n4), .sl .no 2 (es cAnc n5), .sl .no 5 (es cWal n6), i64 n7, i64 n8, .sl .no 2 (es cSp n9), .sl .no 2 (es cBoat n10), .sl .no 4 (es cSky n11), .sl .no 1 (es cInts n12), .sl .no 1 (es cInt n13), .sl .no 2 (es cSp n14)])] :: s) (fun (a : Int) => (.exit 0, [(1, .sl .no 1 (es cBools (maysS (⟨⟨⟨n0, n1⟩, ⟨n2, n3⟩, n4, n5, n6⟩, ⟨⟨n7, n8⟩, n9, n10⟩, n11, n12, n13, n14⟩ : Season)))), (2, i64 day), (3, .sl .no 1 (es cInt l)), (4, .ptr s.length 64 0), (9, i64 a), (10, i64 (1 + (l.tail.length : Nat))), (21, .bool false)], [(64, .cell [i64 n0, i64 n1, i64 n2, i64 n3, .sl .no 2 (es cSp n4), .sl .no 2 (es cAnc n5), .sl .no 5 (es cWal n6), i64 n7, i64 n8, .sl .no 2 (es cSp n9), .sl .no 2 (es cBoat n10), .sl .no 4 (es cSky n11), .sl .no 1 (es cInts n12), .sl .no 1 (es cInt n13), .sl .no 2 (es cSp n14)])] :: s)) (by simp) ?_ ?_ ?_ x0 (by simp) [(1, .sl .no 1 (es cBools (maysS (⟨⟨⟨n0, n1⟩, ⟨n2, n3⟩, n4, n5, n6⟩, ⟨⟨n7, n8⟩, n9, n10⟩, n11, n12, n13, n14⟩ : Season)))), (2, i64 day), (3, .sl .no 1 (es cInt l)), (4, .ptr s.length 64 0), (9, i64 x0), (10, i64 1)] ([(64, .cell [i64 n0, i64 n1, i64 n2, i64 n3, .sl .no 2 (es cSp n4), .sl .no 2 (es cAnc n5), .sl .no 5 (es cWal n6), i64 n7, i64 n8, .sl .no 2 (es cSp n9), .sl .no 2 (es cBoat n10), .sl .no 4 (es cSky n11), .sl .no 1 (es cInts n12), .sl .no 1 (es cInt n13), .sl .no 2 (es cSp n14)])] :: s) (by simp) (by simp)
 ·exact key
 ·intro k a hk hi
  have hk0 : k + 1 < l.length := by simp at hk; omega
  have hn : (1 + (k : Int)).toNat = k + 1 := by omega
  have h0 : (0 : Int) ≤ 1 + k := by omega
  have hlt : 1 + (k : Int) < l.length := by omega
  have hw : IntKind.i64.wrap (1 + (k : Int) + 1) = 1 + ((k : Int) + 1) := by rw [wi _ (by omega) (by omega)]; omega
  have ht : l.tail[k] = l[k + 1] := by simp
  rw [ht]
  have h1 := hf l[k + 1] (List.getElem_mem hk0)
  simp (maxSteps := 1000000) (disch := first | omega | assumption | decide +kernel | (simp; done) | (simp; omega) | fail) [run_drawnK, hk0, hn, h0, hlt, hw, h1]
 ·intro k a hk hi
  try simp
 ·intro a hi
  have hlt : ¬ 1 + ((l.length - 1 : Nat) : Int) < l.length := by omega
  simp (maxSteps := 1000000) (disch := first | omega | assumption | decide +kernel | (simp; done) | (simp; omega) | fail) [hlt]
theorem e_worst13 (n0 : Int) (n1 : Int) (n2 : Int) (n3 : Int) (n4 : List Sp) (n5 : List Anc) (n6 : List Wal) (n7 : Int) (n8 : Int) (n9 : List Sp) (n10 : List Boat) (n11 : List Sky) (n12 : List (List Int)) (n13 : List Int) (n14 : List Sp) (day : Nat) (f : Int → Int) (l : List Int) (hne : l ≠ []) (hl : l.length < 4611686018427387904) (h2 : ∀ x ∈ l, f x ≤ 2000) (hf : ∀ x, x ∈ l → ∀ lab s, den T 87 [.agg [i64 n0, i64 n1, i64 n2, i64 n3, .sl .no 2 (es cSp n4), .sl .no 2 (es cAnc n5), .sl .no 5 (es cWal n6), i64 n7, i64 n8, .sl .no 2 (es cSp n9), .sl .no 2 (es cBoat n10), .sl .no 4 (es cSky n11), .sl .no 1 (es cInts n12), .sl .no 1 (es cInt n13), .sl .no 2 (es cSp n14)], .sl .no 1 (es cBools (maysS (⟨⟨⟨n0, n1⟩, ⟨n2, n3⟩, n4, n5, n6⟩, ⟨⟨n7, n8⟩, n9, n10⟩, n11, n12, n13, n14⟩ : Season))), i64 day, i64 x] lab s = some (i64 (f x), s)) (lab s) :
 den T 117 [.agg [i64 n0, i64 n1, i64 n2, i64 n3, .sl .no 2 (es cSp n4), .sl .no 2 (es cAnc n5), .sl .no 5 (es cWal n6), i64 n7, i64 n8, .sl .no 2 (es cSp n9), .sl .no 2 (es cBoat n10), .sl .no 4 (es cSky n11), .sl .no 1 (es cInts n12), .sl .no 1 (es cInt n13), .sl .no 2 (es cSp n14)], .sl .no 1 (es cBools (maysS (⟨⟨⟨n0, n1⟩, ⟨n2, n3⟩, n4, n5, n6⟩, ⟨⟨n7, n8⟩, n9, n10⟩, n11, n12, n13, n14⟩ : Season))), i64 day, .sl .no 1 (es cInt l)] lab s = some (i64 (leastL f l), s) := by
 obtain ⟨x, r, rfl⟩ : ∃ x r, l = x :: r := by cases l with
  | nil => exact absurd rfl hne
  | cons x r => exact ⟨x, r, rfl⟩
 have key := e_worst13_l n0 n1 n2 n3 n4 n5 n6 n7 n8 n9 n10 n11 n12 n13 n14 day f (x :: r) hl hf (f x) s
 rw [List.tail_cons, leastL_tail f x r (h2 x (by simp))] at key
 have h1 := hf x (by simp)
 rw [den_fn t117 _ _ _ rfl]
 simp only [b117]
 simp (maxSteps := 1000000) (disch := first | omega | assumption | decide +kernel | (simp; done) | (simp; omega) | fail) [run_drawnK, h1, key]
theorem e_worth13r (n0 : Int) (n1 : Int) (n2 : Int) (n3 : Int) (n4 : List Sp) (n5 : List Anc) (n6 : List Wal) (n7 : Int) (n8 : Int) (n9 : List Sp) (n10 : List Boat) (n11 : List Sky) (n12 : List (List Int)) (n13 : List Int) (n14 : List Sp) (hs : ShortC (⟨⟨⟨n0, n1⟩, ⟨n2, n3⟩, n4, n5, n6⟩, ⟨⟨n7, n8⟩, n9, n10⟩, n11, n12, n13, n14⟩ : Season)) (hok : seasonOk (⟨⟨⟨n0, n1⟩, ⟨n2, n3⟩, n4, n5, n6⟩, ⟨⟨n7, n8⟩, n9, n10⟩, n11, n12, n13, n14⟩ : Season) = true) : ∀ (r day : Nat) (sky : Int), day + r = n14.length → 0 ≤ sky → sky < (n11.length : Int) → ∀ (lab s),
 den T 87 [.agg [i64 n0, i64 n1, i64 n2, i64 n3, .sl .no 2 (es cSp n4), .sl .no 2 (es cAnc n5), .sl .no 5 (es cWal n6), i64 n7, i64 n8, .sl .no 2 (es cSp n9), .sl .no 2 (es cBoat n10), .sl .no 4 (es cSky n11), .sl .no 1 (es cInts n12), .sl .no 1 (es cInt n13), .sl .no 2 (es cSp n14)], .sl .no 1 (es cBools (maysS (⟨⟨⟨n0, n1⟩, ⟨n2, n3⟩, n4, n5, n6⟩, ⟨⟨n7, n8⟩, n9, n10⟩, n11, n12, n13, n14⟩ : Season))), i64 day, i64 sky] lab s = some (i64 (worthS (⟨⟨⟨n0, n1⟩, ⟨n2, n3⟩, n4, n5, n6⟩, ⟨⟨n7, n8⟩, n9, n10⟩, n11, n12, n13, n14⟩ : Season) r sky), s) := by
 obtain ⟨_, _, q3, q4, q5, _, q7, _, _⟩ := seasonOk_iff.1 hok
 simp only at q3 q4 q5 q7
 intro r
 induction r with
 | zero =>
   intro day sky hday h0 h1 lab s
   have hdd : (day : Int) = n14.length := by omega
   rw [den_fn t87 _ _ _ rfl]
   simp only [b87]
   simp (maxSteps := 1000000) (disch := first | omega | assumption | decide +kernel | (simp; done) | (simp; omega) | fail) [hdd, worthS]
 | succ r ih =>
   intro day sky hday h0 h1 lab s
   have hdd : ¬ (day : Int) = n14.length := by omega
   have hk : sky.toNat < n11.length := by omega
   obtain ⟨hk2, hne, hf⟩ := follows_ok hok (k := sky.toNat) hk
   simp only at hk2 hne hf
   have hl := fun lab s => e_worst13 n0 n1 n2 n3 n4 n5 n6 n7 n8 n9 n10 n11 n12 n13 n14 (day + 1) (worthS (⟨⟨⟨n0, n1⟩, ⟨n2, n3⟩, n4, n5, n6⟩, ⟨⟨n7, n8⟩, n9, n10⟩, n11, n12, n13, n14⟩ : Season) r) n12[sky.toNat] hne (by have := hs.short.each _ (List.getElem_mem hk2); simpa using this) (fun x hx => (worthS_range hok r x (by simp only; omega) (hf x hx).1 (hf x hx).2).2) (fun x hx lab s => ih (day + 1) x (by omega) (hf x hx).1 (hf x hx).2 lab s) lab s
   have hc : ((day + 1 : Nat) : Int) = (day : Int) + 1 := rfl
   rw [hc] at hl
   have hdk : day < n14.length := by omega
   obtain ⟨m1, m2, m3⟩ := maysS_get (n := (⟨⟨⟨n0, n1⟩, ⟨n2, n3⟩, n4, n5, n6⟩, ⟨⟨n7, n8⟩, n9, n10⟩, n11, n12, n13, n14⟩ : Season)) hdk hk
   have hrem : n14.length - (r + 1) = day := by omega
   have hlo : dayLo (⟨⟨⟨n0, n1⟩, ⟨n2, n3⟩, n4, n5, n6⟩, ⟨⟨n7, n8⟩, n9, n10⟩, n11, n12, n13, n14⟩ : Season) day = n14[day].lo := by simp [dayLo, hdk]
   have hfo : n12.getD sky.toNat [] = n12[sky.toNat] := by simp [List.getD, hk2]
   have hwv : worthS (⟨⟨⟨n0, n1⟩, ⟨n2, n3⟩, n4, n5, n6⟩, ⟨⟨n7, n8⟩, n9, n10⟩, n11, n12, n13, n14⟩ : Season) (r + 1) sky = if mayS (⟨⟨⟨n0, n1⟩, ⟨n2, n3⟩, n4, n5, n6⟩, ⟨⟨n7, n8⟩, n9, n10⟩, n11, n12, n13, n14⟩ : Season) day sky.toNat = true then max (leastL (worthS (⟨⟨⟨n0, n1⟩, ⟨n2, n3⟩, n4, n5, n6⟩, ⟨⟨n7, n8⟩, n9, n10⟩, n11, n12, n13, n14⟩ : Season) r) n12[sky.toNat]) n14[day].lo else leastL (worthS (⟨⟨⟨n0, n1⟩, ⟨n2, n3⟩, n4, n5, n6⟩, ⟨⟨n7, n8⟩, n9, n10⟩, n11, n12, n13, n14⟩ : Season) r) n12[sky.toNat] := by
    simp only [worthS, hrem, hlo, hfo]
   rw [hwv]
   rw [den_fn t87 _ _ _ rfl]
   simp only [b87]
   cases c0 : mayS (⟨⟨⟨n0, n1⟩, ⟨n2, n3⟩, n4, n5, n6⟩, ⟨⟨n7, n8⟩, n9, n10⟩, n11, n12, n13, n14⟩ : Season) day sky.toNat
   ·rw [c0] at m3
    simp (maxSteps := 1000000) (disch := first | omega | assumption | decide +kernel | (simp; done) | (simp; omega) | fail) [run_drawnK, hdd, hk2, h0, hl, m1, m2, m3, wk day (by omega)]
   ·rw [c0] at m3
    simp (maxSteps := 1000000) (disch := first | omega | assumption | decide +kernel | (simp; done) | (simp; omega) | fail) [run_drawnK, hdd, hk2, h0, hdk, hl, m1, m2, m3, wk day (by omega)]
theorem e_lift13r (n0 : Int) (n1 : Int) (n2 : Int) (n3 : Int) (n4 : List Sp) (n5 : List Anc) (n6 : List Wal) (n7 : Int) (n8 : Int) (n9 : List Sp) (n10 : List Boat) (n11 : List Sky) (n12 : List (List Int)) (n13 : List Int) (n14 : List Sp) (hs : ShortC (⟨⟨⟨n0, n1⟩, ⟨n2, n3⟩, n4, n5, n6⟩, ⟨⟨n7, n8⟩, n9, n10⟩, n11, n12, n13, n14⟩ : Season)) (hok : seasonOk (⟨⟨⟨n0, n1⟩, ⟨n2, n3⟩, n4, n5, n6⟩, ⟨⟨n7, n8⟩, n9, n10⟩, n11, n12, n13, n14⟩ : Season) = true) (day : Nat) (hday : day < n14.length) (sky : Int) (h0 : 0 ≤ sky) (h1 : sky < (n11.length : Int)) (lab s) :
 den T 90 [.agg [i64 n0, i64 n1, i64 n2, i64 n3, .sl .no 2 (es cSp n4), .sl .no 2 (es cAnc n5), .sl .no 5 (es cWal n6), i64 n7, i64 n8, .sl .no 2 (es cSp n9), .sl .no 2 (es cBoat n10), .sl .no 4 (es cSky n11), .sl .no 1 (es cInts n12), .sl .no 1 (es cInt n13), .sl .no 2 (es cSp n14)], .sl .no 1 (es cBools (maysS (⟨⟨⟨n0, n1⟩, ⟨n2, n3⟩, n4, n5, n6⟩, ⟨⟨n7, n8⟩, n9, n10⟩, n11, n12, n13, n14⟩ : Season))), i64 day, i64 sky] lab s = some (.bool (liftS (⟨⟨⟨n0, n1⟩, ⟨n2, n3⟩, n4, n5, n6⟩, ⟨⟨n7, n8⟩, n9, n10⟩, n11, n12, n13, n14⟩ : Season) day sky), s) := by
 have hk : sky.toNat < n11.length := by omega
 obtain ⟨m1, m2, m3⟩ := maysS_get (n := (⟨⟨⟨n0, n1⟩, ⟨n2, n3⟩, n4, n5, n6⟩, ⟨⟨n7, n8⟩, n9, n10⟩, n11, n12, n13, n14⟩ : Season)) hday hk
 have hw := fun lab s => e_worth13r n0 n1 n2 n3 n4 n5 n6 n7 n8 n9 n10 n11 n12 n13 n14 hs hok (n14.length - day) day sky (by omega) h0 h1 lab s
 have hlo : dayLo (⟨⟨⟨n0, n1⟩, ⟨n2, n3⟩, n4, n5, n6⟩, ⟨⟨n7, n8⟩, n9, n10⟩, n11, n12, n13, n14⟩ : Season) day = n14[day].lo := by simp [dayLo, hday]
 rw [den_fn t90 _ _ _ rfl]
 simp only [b90]
 cases c0 : mayS (⟨⟨⟨n0, n1⟩, ⟨n2, n3⟩, n4, n5, n6⟩, ⟨⟨n7, n8⟩, n9, n10⟩, n11, n12, n13, n14⟩ : Season) day sky.toNat
 ·rw [c0] at m3
  simp (maxSteps := 1000000) (disch := first | omega | assumption | decide +kernel | (simp; done) | (simp; omega) | fail) [run_drawnK, h0, m1, m2, m3, c0, liftS]
 ·rw [c0] at m3
  simp (maxSteps := 1000000) (disch := first | omega | assumption | decide +kernel | (simp; done) | (simp; omega) | fail) [run_drawnK, h0, hday, m1, m2, m3, hw, c0, liftS, hlo, ge_iff_le]
set_option maxHeartbeats 1000000 in
theorem e_brings13r (n0 : Int) (n1 : Int) (n2 : Int) (n3 : Int) (n4 : List Sp) (n5 : List Anc) (n6 : List Wal) (n7 : Int) (n8 : Int) (n9 : List Sp) (n10 : List Boat) (n11 : List Sky) (n12 : List (List Int)) (n13 : List Int) (n14 : List Sp) (hs : ShortC (⟨⟨⟨n0, n1⟩, ⟨n2, n3⟩, n4, n5, n6⟩, ⟨⟨n7, n8⟩, n9, n10⟩, n11, n12, n13, n14⟩ : Season)) (hok : seasonOk (⟨⟨⟨n0, n1⟩, ⟨n2, n3⟩, n4, n5, n6⟩, ⟨⟨n7, n8⟩, n9, n10⟩, n11, n12, n13, n14⟩ : Season) = true) (c : List Int) (hc : ∀ x : Int, x ∈ c → 0 ≤ x ∧ x < (n11.length : Int)) (hcl : c.length ≤ n14.length) (lab s) :
 den T 76 [.agg [i64 n0, i64 n1, i64 n2, i64 n3, .sl .no 2 (es cSp n4), .sl .no 2 (es cAnc n5), .sl .no 5 (es cWal n6), i64 n7, i64 n8, .sl .no 2 (es cSp n9), .sl .no 2 (es cBoat n10), .sl .no 4 (es cSky n11), .sl .no 1 (es cInts n12), .sl .no 1 (es cInt n13), .sl .no 2 (es cSp n14)], .sl .no 1 (es cBools (maysS (⟨⟨⟨n0, n1⟩, ⟨n2, n3⟩, n4, n5, n6⟩, ⟨⟨n7, n8⟩, n9, n10⟩, n11, n12, n13, n14⟩ : Season))), .sl .no 1 (es cInt c)] lab s = some (i64 (bringsS (⟨⟨⟨n0, n1⟩, ⟨n2, n3⟩, n4, n5, n6⟩, ⟨⟨n7, n8⟩, n9, n10⟩, n11, n12, n13, n14⟩ : Season) c), s) := by
 obtain ⟨_, _, q3, q4, q5, _, q7, _, _⟩ := seasonOk_iff.1 hok
 simp only at q7
 have key := loop_list (T := T) (live := [1, 2, 3, 7]) (keep := [48]) (b := d76l0) c (fun k (j : Nat) => j = k)
  (fun k _ => [(1, .sl .no 1 (es cBools (maysS (⟨⟨⟨n0, n1⟩, ⟨n2, n3⟩, n4, n5, n6⟩, ⟨⟨n7, n8⟩, n9, n10⟩, n11, n12, n13, n14⟩ : Season)))), (2, .sl .no 1 (es cInt c)), (3, .ptr s.length 48 0), (7, i64 k)]) (fun _ _ => [(48, .cell [i64 n0, i64 n1, i64 n2, i64 n3, .sl .no 2 (es cSp n4), .sl .no 2 (es cAnc n5), .sl .no 5 (es cWal n6), i64 n7, i64 n8, .sl .no 2 (es cSp n9), .sl .no 2 (es cBoat n10), .sl .no 4 (es cSky n11), .sl .no 1 (es cInts n12), .sl .no 1 (es cInt n13), .sl .no 2 (es cSp n14)])] :: s)
  (fun j x => if liftS (⟨⟨⟨n0, n1⟩, ⟨n2, n3⟩, n4, n5, n6⟩, ⟨⟨n7, n8⟩, n9, n10⟩, n11, n12, n13, n14⟩ : Season) j x = true then .inr (.ret, [(6, i64 (dayLo (⟨⟨⟨n0, n1⟩, ⟨n2, n3⟩, n4, n5, n6⟩, ⟨⟨n7, n8⟩, n9, n10⟩, n11, n12, n13, n14⟩ : Season) j))], [(48, .cell [i64 n0, i64 n1, i64 n2, i64 n3, .sl .no 2 (es cSp n4), .sl .no 2 (es cAnc n5), .sl .no 5 (es cWal n6), i64 n7, i64 n8, .sl .no 2 (es cSp n9), .sl .no 2 (es cBoat n10), .sl .no 4 (es cSky n11), .sl .no 1 (es cInts n12), .sl .no 1 (es cInt n13), .sl .no 2 (es cSp n14)])] :: s) else .inl (j + 1))
  (fun _ => (.exit 0, [(1, .sl .no 1 (es cBools (maysS (⟨⟨⟨n0, n1⟩, ⟨n2, n3⟩, n4, n5, n6⟩, ⟨⟨n7, n8⟩, n9, n10⟩, n11, n12, n13, n14⟩ : Season)))), (2, .sl .no 1 (es cInt c)), (3, .ptr s.length 48 0), (7, i64 c.length), (11, .bool false)], [(48, .cell [i64 n0, i64 n1, i64 n2, i64 n3, .sl .no 2 (es cSp n4), .sl .no 2 (es cAnc n5), .sl .no 5 (es cWal n6), i64 n7, i64 n8, .sl .no 2 (es cSp n9), .sl .no 2 (es cBoat n10), .sl .no 4 (es cSky n11), .sl .no 1 (es cInts n12), .sl .no 1 (es cInt n13), .sl .no 2 (es cSp n14)])] :: s))
  ?_ (fun k j j' hk hj h => by split at h <;> simp_all) (fun k j q hk hj h => by split at h <;> simp_all; rw [← h]; simp) ?_ (by simp) 0 rfl
  [(1, .sl .no 1 (es cBools (maysS (⟨⟨⟨n0, n1⟩, ⟨n2, n3⟩, n4, n5, n6⟩, ⟨⟨n7, n8⟩, n9, n10⟩, n11, n12, n13, n14⟩ : Season)))), (2, .sl .no 1 (es cInt c)), (3, .ptr s.length 48 0), (7, i64 0)] ([(48, .cell [i64 n0, i64 n1, i64 n2, i64 n3, .sl .no 2 (es cSp n4), .sl .no 2 (es cAnc n5), .sl .no 5 (es cWal n6), i64 n7, i64 n8, .sl .no 2 (es cSp n9), .sl .no 2 (es cBoat n10), .sl .no 4 (es cSky n11), .sl .no 1 (es cInts n12), .sl .no 1 (es cInt n13), .sl .no 2 (es cSp n14)])] :: s) (by simp) (by simp)
 ·have e : ∀ (l' : List Int) (j : Nat), foldS (fun j (x : Int) => if liftS (⟨⟨⟨n0, n1⟩, ⟨n2, n3⟩, n4, n5, n6⟩, ⟨⟨n7, n8⟩, n9, n10⟩, n11, n12, n13, n14⟩ : Season) j x = true then (.inr (.ret, [(6, i64 (dayLo (⟨⟨⟨n0, n1⟩, ⟨n2, n3⟩, n4, n5, n6⟩, ⟨⟨n7, n8⟩, n9, n10⟩, n11, n12, n13, n14⟩ : Season) j))], [(48, .cell [i64 n0, i64 n1, i64 n2, i64 n3, .sl .no 2 (es cSp n4), .sl .no 2 (es cAnc n5), .sl .no 5 (es cWal n6), i64 n7, i64 n8, .sl .no 2 (es cSp n9), .sl .no 2 (es cBoat n10), .sl .no 4 (es cSky n11), .sl .no 1 (es cInts n12), .sl .no 1 (es cInt n13), .sl .no 2 (es cSp n14)])] :: s) : Nat ⊕ (Ex × Env × Stk)) else .inl (j + 1))
   (fun _ => (.exit 0, [(1, .sl .no 1 (es cBools (maysS (⟨⟨⟨n0, n1⟩, ⟨n2, n3⟩, n4, n5, n6⟩, ⟨⟨n7, n8⟩, n9, n10⟩, n11, n12, n13, n14⟩ : Season)))), (2, .sl .no 1 (es cInt c)), (3, .ptr s.length 48 0), (7, i64 c.length), (11, .bool false)], [(48, .cell [i64 n0, i64 n1, i64 n2, i64 n3, .sl .no 2 (es cSp n4), .sl .no 2 (es cAnc n5), .sl .no 5 (es cWal n6), i64 n7, i64 n8, .sl .no 2 (es cSp n9), .sl .no 2 (es cBoat n10), .sl .no 4 (es cSky n11), .sl .no 1 (es cInts n12), .sl .no 1 (es cInt n13), .sl .no 2 (es cSp n14)])] :: s)) l' j =
   match firstLift (⟨⟨⟨n0, n1⟩, ⟨n2, n3⟩, n4, n5, n6⟩, ⟨⟨n7, n8⟩, n9, n10⟩, n11, n12, n13, n14⟩ : Season) j l' with
   | some k => (.ret, [(6, i64 (dayLo (⟨⟨⟨n0, n1⟩, ⟨n2, n3⟩, n4, n5, n6⟩, ⟨⟨n7, n8⟩, n9, n10⟩, n11, n12, n13, n14⟩ : Season) k))], [(48, .cell [i64 n0, i64 n1, i64 n2, i64 n3, .sl .no 2 (es cSp n4), .sl .no 2 (es cAnc n5), .sl .no 5 (es cWal n6), i64 n7, i64 n8, .sl .no 2 (es cSp n9), .sl .no 2 (es cBoat n10), .sl .no 4 (es cSky n11), .sl .no 1 (es cInts n12), .sl .no 1 (es cInt n13), .sl .no 2 (es cSp n14)])] :: s)
   | none => (.exit 0, [(1, .sl .no 1 (es cBools (maysS (⟨⟨⟨n0, n1⟩, ⟨n2, n3⟩, n4, n5, n6⟩, ⟨⟨n7, n8⟩, n9, n10⟩, n11, n12, n13, n14⟩ : Season)))), (2, .sl .no 1 (es cInt c)), (3, .ptr s.length 48 0), (7, i64 c.length), (11, .bool false)], [(48, .cell [i64 n0, i64 n1, i64 n2, i64 n3, .sl .no 2 (es cSp n4), .sl .no 2 (es cAnc n5), .sl .no 5 (es cWal n6), i64 n7, i64 n8, .sl .no 2 (es cSp n9), .sl .no 2 (es cBoat n10), .sl .no 4 (es cSky n11), .sl .no 1 (es cInts n12), .sl .no 1 (es cInt n13), .sl .no 2 (es cSp n14)])] :: s) := by
   intro l'
   induction l' with
   | nil => intro j; rfl
   | cons x l' ih =>
     intro j
     simp only [foldS, firstLift]
     by_cases h : liftS (⟨⟨⟨n0, n1⟩, ⟨n2, n3⟩, n4, n5, n6⟩, ⟨⟨n7, n8⟩, n9, n10⟩, n11, n12, n13, n14⟩ : Season) j x = true
     ·simp only [h, if_true]
     ·simp only [h, if_false, ih]; rfl
  rw [e] at key
  change Run T b76l0 _ _ = _ at key
  rw [den_fn t76 _ _ _ rfl]
  simp only [b76]
  cases h2 : firstLift (⟨⟨⟨n0, n1⟩, ⟨n2, n3⟩, n4, n5, n6⟩, ⟨⟨n7, n8⟩, n9, n10⟩, n11, n12, n13, n14⟩ : Season) 0 c with
  | some k =>
    simp only [h2] at key
    have e1 : bringsS (⟨⟨⟨n0, n1⟩, ⟨n2, n3⟩, n4, n5, n6⟩, ⟨⟨n7, n8⟩, n9, n10⟩, n11, n12, n13, n14⟩ : Season) c = dayLo (⟨⟨⟨n0, n1⟩, ⟨n2, n3⟩, n4, n5, n6⟩, ⟨⟨n7, n8⟩, n9, n10⟩, n11, n12, n13, n14⟩ : Season) k := by simp only [bringsS, h2]
    rw [e1]
    simp (maxSteps := 1000000) (disch := first | omega | assumption | decide +kernel | (simp; done) | (simp; omega) | fail) [key]
  | none =>
    simp only [h2] at key
    have e1 : bringsS (⟨⟨⟨n0, n1⟩, ⟨n2, n3⟩, n4, n5, n6⟩, ⟨⟨n7, n8⟩, n9, n10⟩, n11, n12, n13, n14⟩ : Season) c = 0 := by simp only [bringsS, h2]
    rw [e1]
    simp (maxSteps := 1000000) (disch := first | omega | assumption | decide +kernel | (simp; done) | (simp; omega) | fail) [key]
 ·intro k j hk hj
  subst hj
  obtain ⟨h0, h1⟩ := hc c[j] (List.getElem_mem hk)
  have hj : j < n14.length := by omega
  have hlo : dayLo (⟨⟨⟨n0, n1⟩, ⟨n2, n3⟩, n4, n5, n6⟩, ⟨⟨n7, n8⟩, n9, n10⟩, n11, n12, n13, n14⟩ : Season) j = n14[j].lo := by simp [dayLo, hj]
  have hm := fun lab s => e_lift13r n0 n1 n2 n3 n4 n5 n6 n7 n8 n9 n10 n11 n12 n13 n14 hs hok j hj c[j] h0 h1 lab s
  cases c0 : liftS (⟨⟨⟨n0, n1⟩, ⟨n2, n3⟩, n4, n5, n6⟩, ⟨⟨n7, n8⟩, n9, n10⟩, n11, n12, n13, n14⟩ : Season) j c[j]
  ·simp (maxSteps := 1000000) (disch := first | omega | assumption | decide +kernel | (simp; done) | (simp; omega) | fail) [run_drawnK, hk, hm, c0, wk j (by omega)]
  ·simp (maxSteps := 1000000) (disch := first | omega | assumption | decide +kernel | (simp; done) | (simp; omega) | fail) [run_drawnK, hk, hm, c0, hlo, hj]
 ·intro j hj
  simp
theorem rising_len {l : List Int} {lo hi : Int} (h : rising l lo hi = true) (h0 : lo ≤ hi + 1) : (l.length : Int) ≤ hi - lo + 1 := by
 have key : ∀ k : Nat, ∀ hk : k < l.length, lo + (k : Int) ≤ l[k] := by
  intro k
  induction k with
  | zero =>
    intro hk
    have := (rising_mem h l[0] (List.getElem_mem hk)).1
    simpa using this
  | succ k ih =>
    intro hk
    have h1 := ih (by omega)
    have h2 := allB_iff.1 h (k + 1) (List.mem_range.2 hk)
    simp only [risingAt, Bool.and_eq_true, Nat.add_sub_cancel, Bool.or_eq_true, decide_eq_true_eq, List.getD, List.getElem?_eq_getElem hk, List.getElem?_eq_getElem (show k < l.length by omega), Option.getD_some] at h2
    rcases h2.2 with h3 | h3
    ·simp at h3
    ·omega
 by_cases hl : l = []
 ·subst hl; simp; omega
 ·have hp : 0 < l.length := List.length_pos_iff.2 hl
  have h1 := key (l.length - 1) (by omega)
  have h2 := (rising_mem h l[l.length - 1] (List.getElem_mem (by omega))).2
  omega
theorem follows_len {n : Season} (h : seasonOk n = true) {k : Nat} (hk : k < n.skies.length) (hk2 : k < n.follows.length) : n.follows[k].length ≤ 4 := by
 obtain ⟨_, _, _, h4, h5, _, _, h8, _⟩ := seasonOk_iff.1 h
 have h9 := allB_iff.1 h8 k (List.mem_range.2 hk)
 simp only [skyAt, List.getElem?_eq_getElem hk, List.getElem?_eq_getElem hk2, areSkies, Bool.and_eq_true, decide_eq_true_eq] at h9
 have := rising_len h9.2.2 (by omega)
 omega
theorem first_len {n : Season} (h : seasonOk n = true) : n.first.length ≤ 4 := by
 obtain ⟨_, _, _, h4, _, h6, _⟩ := seasonOk_iff.1 h
 simp only [areSkies, Bool.and_eq_true, decide_eq_true_eq] at h6
 have := rising_len h6.2 (by omega)
 omega
theorem courses_bound {n : Season} (hok : seasonOk n = true) : ∀ (r : Nat) (c nx : List Int), nx.length ≤ 4 → (∀ x : Int, x ∈ nx → 0 ≤ x ∧ x < (n.skies.length : Int)) → (coursesFrom n r c nx).length ≤ 4 ^ r
 | 0, c, nx, _, _ => by simp [coursesFrom]
 | r + 1, c, nx, hl, hx => by
   have h1 := flat_le (fun (x : Int) => coursesFrom n r (c ++ [x]) (n.follows.getD x.toNat [])) (4 ^ r) nx (fun x hxm => by
    obtain ⟨x0, x1⟩ := hx x hxm
    obtain ⟨hk2, hn, hf⟩ := follows_ok hok (k := x.toNat) (by omega)
    have hfo : n.follows.getD x.toNat [] = n.follows[x.toNat] := by simp [List.getD, hk2]
    simp only [hfo]
    exact courses_bound hok r _ _ (follows_len hok (by omega) hk2) hf)
   rw [coursesFrom, Nat.pow_succ, Nat.mul_comm]
   exact Nat.le_trans h1 (Nat.mul_le_mul_right _ hl)
def nextS (n : Season) (c : List Int) : List Int := match c.getLast? with
 | some x => n.follows.getD x.toNat []
 | none => n.first
theorem nextS_ok {n : Season} (hok : seasonOk n = true) {c : List Int} (hc : ∀ x : Int, x ∈ c → 0 ≤ x ∧ x < (n.skies.length : Int)) : (nextS n c).length ≤ 4 ∧ ∀ x : Int, x ∈ nextS n c → 0 ≤ x ∧ x < (n.skies.length : Int) := by
 unfold nextS
 cases h : c.getLast? with
 | none => exact ⟨first_len hok, (first_ok hok).2⟩
 | some x =>
   obtain ⟨x0, x1⟩ := hc x (List.mem_of_getLast? h)
   obtain ⟨hk2, hn, hf⟩ := follows_ok hok (k := x.toNat) (by omega)
   have hfo : n.follows.getD x.toNat [] = n.follows[x.toNat] := by simp [List.getD, hk2]
   simp only [hfo]
   exact ⟨follows_len hok (by omega) hk2, hf⟩
set_option maxHeartbeats 8000000 in
theorem e_courses13r (n0 : Int) (n1 : Int) (n2 : Int) (n3 : Int) (n4 : List Sp) (n5 : List Anc) (n6 : List Wal) (n7 : Int) (n8 : Int) (n9 : List Sp) (n10 : List Boat) (n11 : List Sky) (n12 : List (List Int)) (n13 : List Int) (n14 : List Sp) (hs : Short (⟨⟨⟨n0, n1⟩, ⟨n2, n3⟩, n4, n5, n6⟩, ⟨⟨n7, n8⟩, n9, n10⟩, n11, n12, n13, n14⟩ : Season)) (hok : seasonOk (⟨⟨⟨n0, n1⟩, ⟨n2, n3⟩, n4, n5, n6⟩, ⟨⟨n7, n8⟩, n9, n10⟩, n11, n12, n13, n14⟩ : Season) = true) : ∀ (m : Nat) (c : List Int), c.length + m = n14.length → (∀ x : Int, x ∈ c → 0 ≤ x ∧ x < (n11.length : Int)) → ∀ (lab : Nat) (s : Stk),
 den T 78 [.agg [i64 n0, i64 n1, i64 n2, i64 n3, .sl .no 2 (es cSp n4), .sl .no 2 (es cAnc n5), .sl .no 5 (es cWal n6), i64 n7, i64 n8, .sl .no 2 (es cSp n9), .sl .no 2 (es cBoat n10), .sl .no 4 (es cSky n11), .sl .no 1 (es cInts n12), .sl .no 1 (es cInt n13), .sl .no 2 (es cSp n14)], .sl .no 1 (es cInt c)] lab s = some (.sl .no 1 (es cInts (coursesFrom (⟨⟨⟨n0, n1⟩, ⟨n2, n3⟩, n4, n5, n6⟩, ⟨⟨n7, n8⟩, n9, n10⟩, n11, n12, n13, n14⟩ : Season) m c (nextS (⟨⟨⟨n0, n1⟩, ⟨n2, n3⟩, n4, n5, n6⟩, ⟨⟨n7, n8⟩, n9, n10⟩, n11, n12, n13, n14⟩ : Season) c))), s) := by
 obtain ⟨_, _, q3, q4, q5, _, q7, _, _⟩ := seasonOk_iff.1 hok
 simp only at q3 q4 q5 q7
 intro m
 induction m with
 | zero =>
   intro c hf hc lab s
   have hf' : c.length = n14.length := by omega
   have hq : (c.length : Int) = n14.length := by omega
   rw [den_fn t78 _ _ _ rfl]
   simp only [b78]
   simp (maxSteps := 1000000) (disch := first | omega | assumption | decide +kernel | (simp; done) | (simp; omega) | fail) [hq, hf', es_ints_one, coursesFrom]
 | succ m ih =>
   intro c hf hc lab s
   have hk : c.length < n14.length := by omega
   have hq : ¬ c.length = n14.length := by omega
   have hq2 : ¬ (c.length : Int) = n14.length := by omega
   obtain ⟨hnl, hnx⟩ := nextS_ok hok hc
   have hnl' : (nextS (⟨⟨⟨n0, n1⟩, ⟨n2, n3⟩, n4, n5, n6⟩, ⟨⟨n7, n8⟩, n9, n10⟩, n11, n12, n13, n14⟩ : Season) c).length ≤ 4 := hnl
   have ih2 : ∀ x : Int, x ∈ nextS (⟨⟨⟨n0, n1⟩, ⟨n2, n3⟩, n4, n5, n6⟩, ⟨⟨n7, n8⟩, n9, n10⟩, n11, n12, n13, n14⟩ : Season) c → ∀ lab s, den T 78 [.agg [i64 n0, i64 n1, i64 n2, i64 n3, .sl .no 2 (es cSp n4), .sl .no 2 (es cAnc n5), .sl .no 5 (es cWal n6), i64 n7, i64 n8, .sl .no 2 (es cSp n9), .sl .no 2 (es cBoat n10), .sl .no 4 (es cSky n11), .sl .no 1 (es cInts n12), .sl .no 1 (es cInt n13), .sl .no 2 (es cSp n14)], .sl .no 1 (es cInt (c ++ [x]))] lab s = some (.sl .no 1 (es cInts (coursesFrom (⟨⟨⟨n0, n1⟩, ⟨n2, n3⟩, n4, n5, n6⟩, ⟨⟨n7, n8⟩, n9, n10⟩, n11, n12, n13, n14⟩ : Season) m (c ++ [x]) (n12.getD x.toNat []))), s) := by
    intro x hx lab s
    have := ih (c ++ [x]) (by simp; omega) (fun y hy => by
     rcases List.mem_append.1 hy with h | h
     ·exact hc y h
     ·simp only [List.mem_singleton] at h; subst h; exact hnx y hx) lab s
    have e : nextS (⟨⟨⟨n0, n1⟩, ⟨n2, n3⟩, n4, n5, n6⟩, ⟨⟨n7, n8⟩, n9, n10⟩, n11, n12, n13, n14⟩ : Season) (c ++ [x]) = n12.getD x.toNat [] := by simp [nextS]
    rw [e] at this
    exact this
   have hb : ∀ x : Int, x ∈ nextS (⟨⟨⟨n0, n1⟩, ⟨n2, n3⟩, n4, n5, n6⟩, ⟨⟨n7, n8⟩, n9, n10⟩, n11, n12, n13, n14⟩ : Season) c → (coursesFrom (⟨⟨⟨n0, n1⟩, ⟨n2, n3⟩, n4, n5, n6⟩, ⟨⟨n7, n8⟩, n9, n10⟩, n11, n12, n13, n14⟩ : Season) m (c ++ [x]) (n12.getD x.toNat [])).length ≤ 1024 := fun x hx => by
    obtain ⟨x0, x1⟩ := hnx x hx
    have x1 : x < (n11.length : Int) := x1
    obtain ⟨hk2, hn, hff⟩ := follows_ok hok (k := x.toNat) (show x.toNat < n11.length by omega)
    have hfo : n12.getD x.toNat [] = n12[x.toNat] := by simp [List.getD, hk2]
    rw [hfo]
    refine Nat.le_trans (courses_bound hok m _ _ (follows_len hok (show x.toNat < n11.length by omega) hk2) hff) ?_
    calc 4 ^ m ≤ 4 ^ 5 := Nat.pow_le_pow_right (by omega) (by omega)
     _ = 1024 := rfl
   generalize hN : nextS (⟨⟨⟨n0, n1⟩, ⟨n2, n3⟩, n4, n5, n6⟩, ⟨⟨n7, n8⟩, n9, n10⟩, n11, n12, n13, n14⟩ : Season) c = N at *
   have key := loop_fold (T := T) (live := [1, 2, 5, 6, 7]) (keep := [32, 97]) (b := d78l0) N (fun k (a : List (List Int)) => a.length ≤ k * 1024) (fun a (x : Int) => a ++ coursesFrom (⟨⟨⟨n0, n1⟩, ⟨n2, n3⟩, n4, n5, n6⟩, ⟨⟨n7, n8⟩, n9, n10⟩, n11, n12, n13, n14⟩ : Season) m (c ++ [x]) (n12.getD x.toNat []))
    (fun k a => [(1, .sl .no 1 (es cInt c)), (2, .ptr s.length 32 0), (5, .sl .no 1 (es cInt N)), (6, .sl (.own s.length 97) 1 (es cInts a)), (7, i64 k)])
    (fun _ a => [(32, .cell [i64 n0, i64 n1, i64 n2, i64 n3, .sl .no 2 (es cSp n4), .sl .no 2 (es cAnc n5), .sl .no 5 (es cWal n6), i64 n7, i64 n8, .sl .no 2 (es cSp n9), .sl .no 2 (es cBoat n10), .sl .no 4 (es cSky n11), .sl .no 1 (es cInts n12), .sl .no 1 (es cInt n13), .sl .no 2 (es cSp n14)]), (97, .tok a.length)] :: s)
    (fun a => (.exit 0, [(1, .sl .no 1 (es cInt c)), (2, .ptr s.length 32 0), (5, .sl .no 1 (es cInt N)), (6, .sl (.own s.length 97) 1 (es cInts a)), (7, i64 N.length), (34, .bool false)], [(32, .cell [i64 n0, i64 n1, i64 n2, i64 n3, .sl .no 2 (es cSp n4), .sl .no 2 (es cAnc n5), .sl .no 5 (es cWal n6), i64 n7, i64 n8, .sl .no 2 (es cSp n9), .sl .no 2 (es cBoat n10), .sl .no 4 (es cSky n11), .sl .no 1 (es cInts n12), .sl .no 1 (es cInt n13), .sl .no 2 (es cSp n14)]), (97, .tok a.length)] :: s))
    (by simp) ?_ ?_ ?_ [] (by simp) [(6, .sl (.own s.length 97) 1 []), (1, .sl .no 1 (es cInt c)), (2, .ptr s.length 32 0), (5, .sl .no 1 (es cInt N)), (6, .sl .full 1 []), (7, i64 0)] ([(32, .cell [i64 n0, i64 n1, i64 n2, i64 n3, .sl .no 2 (es cSp n4), .sl .no 2 (es cAnc n5), .sl .no 5 (es cWal n6), i64 n7, i64 n8, .sl .no 2 (es cSp n9), .sl .no 2 (es cBoat n10), .sl .no 4 (es cSky n11), .sl .no 1 (es cInts n12), .sl .no 1 (es cInt n13), .sl .no 2 (es cSp n14)]), (97, .tok 0)] :: s) (by simp) (by simp)
   ·rw [fold_app2, List.nil_append] at key
    have e : N.flatMap (fun (x : Int) => coursesFrom (⟨⟨⟨n0, n1⟩, ⟨n2, n3⟩, n4, n5, n6⟩, ⟨⟨n7, n8⟩, n9, n10⟩, n11, n12, n13, n14⟩ : Season) m (c ++ [x]) (n12.getD x.toNat [])) = coursesFrom (⟨⟨⟨n0, n1⟩, ⟨n2, n3⟩, n4, n5, n6⟩, ⟨⟨n7, n8⟩, n9, n10⟩, n11, n12, n13, n14⟩ : Season) (m + 1) c N := rfl
    rw [e] at key
    change Run T b78l0 _ _ = _ at key
    rw [den_fn t78 _ _ _ rfl]
    simp only [b78]
    by_cases h0 : c = []
    ·subst h0
     have hN2 : n13 = N := by rw [← hN]; rfl
     subst hN2
     have hz : ¬ (0 : Int) = n14.length := by simp at hk; omega
     simp only [es_nil] at key
     simp (maxSteps := 1000000) (disch := first | omega | assumption | decide +kernel | (simp; done) | (simp; omega) | fail) [run_drawnK, hz, key]
    ·have hpos : 0 < c.length := List.length_pos_iff.2 h0
     have hposi : (0 : Int) < c.length := by omega
     have hl1 : c.length - 1 < c.length := by omega
     have hx := hc c[c.length - 1] (List.getElem_mem hl1)
     have hk2 : c[c.length - 1].toNat < n12.length := by omega
     have hn : ((c.length : Int) - 1).toNat = c.length - 1 := by omega
     have hn0 : (0 : Int) ≤ (c.length : Int) - 1 := by omega
     have hn1 : (1 : Int) ≤ (c.length : Int) := by omega
     have hN2 : n12[c[c.length - 1].toNat] = N := by
      rw [← hN, nextS, List.getLast?_eq_getElem?, List.getElem?_eq_getElem hl1]
      simp [List.getD, hk2]
     simp (maxSteps := 1000000) (disch := first | omega | assumption | decide +kernel | (simp; done) | (simp; omega) | fail) [run_drawnK, hk, hq, hq2, hpos, hposi, hl1, hx, hk2, hn, hn0, hn1, hN2, wi, key]
   ·intro k a hk' hi
    have hmem := List.getElem_mem hk'
    have hgb := hb N[k] hmem
    have ih3 := ih2 N[k] hmem
    by_cases h0 : c = []
    ·subst h0
     simp only [List.nil_append] at ih3 hgb ⊢
     simp only [es_int_one] at ih3
     generalize coursesFrom (⟨⟨⟨n0, n1⟩, ⟨n2, n3⟩, n4, n5, n6⟩, ⟨⟨n7, n8⟩, n9, n10⟩, n11, n12, n13, n14⟩ : Season) m [N[k]] (n12.getD N[k].toNat []) = L at *
     simp (maxSteps := 1000000) (disch := first | omega | assumption | decide +kernel | (simp; done) | (simp; omega) | fail) [run_drawnK, hk', ih3, appK_many, appD_full_nil, appD_full, wk k (by omega)]
    ·generalize coursesFrom (⟨⟨⟨n0, n1⟩, ⟨n2, n3⟩, n4, n5, n6⟩, ⟨⟨n7, n8⟩, n9, n10⟩, n11, n12, n13, n14⟩ : Season) m (c ++ [N[k]]) (n12.getD N[k].toNat []) = L at *
     simp (maxSteps := 1000000) (disch := first | omega | assumption | decide +kernel | (simp; done) | (simp; omega) | fail) [run_drawnK, hk', ih3, h0, appK_many, appD_full_nil, appD_full, appD_own1, appK_own1, wk k (by omega)]
   ·intro k a hk' hi
    have := hb N[k] (List.getElem_mem hk')
    rw [List.length_append]; omega
   ·intro a hi
    simp
def allCourses (n : Season) : List (List Int) := coursesFrom n n.days.length [] n.first
theorem e_allCourses (n0 : Int) (n1 : Int) (n2 : Int) (n3 : Int) (n4 : List Sp) (n5 : List Anc) (n6 : List Wal) (n7 : Int) (n8 : Int) (n9 : List Sp) (n10 : List Boat) (n11 : List Sky) (n12 : List (List Int)) (n13 : List Int) (n14 : List Sp) (hs : Short (⟨⟨⟨n0, n1⟩, ⟨n2, n3⟩, n4, n5, n6⟩, ⟨⟨n7, n8⟩, n9, n10⟩, n11, n12, n13, n14⟩ : Season)) (hok : seasonOk (⟨⟨⟨n0, n1⟩, ⟨n2, n3⟩, n4, n5, n6⟩, ⟨⟨n7, n8⟩, n9, n10⟩, n11, n12, n13, n14⟩ : Season) = true) (lab s) : den T 78 [.agg [i64 n0, i64 n1, i64 n2, i64 n3, .sl .no 2 (es cSp n4), .sl .no 2 (es cAnc n5), .sl .no 5 (es cWal n6), i64 n7, i64 n8, .sl .no 2 (es cSp n9), .sl .no 2 (es cBoat n10), .sl .no 4 (es cSky n11), .sl .no 1 (es cInts n12), .sl .no 1 (es cInt n13), .sl .no 2 (es cSp n14)], .sl .no 1 []] lab s = some (.sl .no 1 (es cInts (allCourses (⟨⟨⟨n0, n1⟩, ⟨n2, n3⟩, n4, n5, n6⟩, ⟨⟨n7, n8⟩, n9, n10⟩, n11, n12, n13, n14⟩ : Season))), s) := by
 have := e_courses13r n0 n1 n2 n3 n4 n5 n6 n7 n8 n9 n10 n11 n12 n13 n14 hs hok n14.length [] (by simp) (by simp) lab s
 simpa [nextS, allCourses] using this
theorem allCourses_ok {n : Season} (hok : seasonOk n = true) : (allCourses n).length ≤ 1024 ∧ allCourses n ≠ [] ∧ ∀ c ∈ allCourses n, c.length = n.days.length ∧ ∀ x : Int, x ∈ c → 0 ≤ x ∧ x < (n.skies.length : Int) := by
 obtain ⟨_, _, q3, q4, q5, _, q7, _, _⟩ := seasonOk_iff.1 hok
 refine ⟨?_, courses_some hok _ _ _ (first_ok hok).1 (first_ok hok).2, coursesFrom_ok hok _ _ _ (by simp) (by simp) (first_ok hok).2⟩
 refine Nat.le_trans (courses_bound hok _ _ _ (first_len hok) (first_ok hok).2) ?_
 calc 4 ^ n.days.length ≤ 4 ^ 5 := Nat.pow_le_pow_right (by omega) (by omega)
  _ = 1024 := rfl
end Go.Proofs.YtekgicoibcgecaaGreat

/-
  Chapter 13: Off and Regret of the reference.
-/
namespace Go.Proofs.YtekgicoibcgecaaGreat
open Go.Ab
def offDay (n : Season) (c : List Int) : Nat := (firstMay n 0 c).getD c.length
theorem e_Off13_l1 (n0 : Int) (n1 : Int) (n2 : Int) (n3 : Int) (n4 : List Sp) (n5 : List Anc) (n6 : List Wal) (n7 : Int) (n8 : Int) (n9 : List Sp) (n10 : List Boat) (n11 : List Sky) (n12 : List (List Int)) (n13 : List Int) (n14 : List Sp) (hok : seasonOk (⟨⟨⟨n0, n1⟩, ⟨n2, n3⟩, n4, n5, n6⟩, ⟨⟨n7, n8⟩, n9, n10⟩, n11, n12, n13, n14⟩ : Season) = true) (L : List (List Int)) (i : Nat) (hL : i < L.length) (hlen : L.length ≤ 1024) (hc : ∀ x : Int, x ∈ L[i] → 0 ≤ x ∧ x < (n11.length : Int)) (hcl : L[i].length = n14.length) (u v : Int) (s : Stk) :
 Run T b26l1 [(1, .ptr s.length 16 0), (2, .ptr s.length 32 0), (5, .sl .no 1 (es cBools (maysS (⟨⟨⟨n0, n1⟩, ⟨n2, n3⟩, n4, n5, n6⟩, ⟨⟨n7, n8⟩, n9, n10⟩, n11, n12, n13, n14⟩ : Season)))), (6, .sl .no 1 (es cInts L)), (7, .ptr s.length 112 0), (8, i64 i), (9, i64 0)] ([(16, .cell [i64 n0, i64 n1, i64 n2, i64 n3, .sl .no 2 (es cSp n4), .sl .no 2 (es cAnc n5), .sl .no 5 (es cWal n6), i64 n7, i64 n8, .sl .no 2 (es cSp n9), .sl .no 2 (es cBoat n10), .sl .no 4 (es cSky n11), .sl .no 1 (es cInts n12), .sl .no 1 (es cInt n13), .sl .no 2 (es cSp n14)]), (32, .cell [i64 0, i64 0]), (112, .cell [i64 u, i64 v])] :: s) =
  some (.exit 2, [(1, .ptr s.length 16 0), (2, .ptr s.length 32 0), (5, .sl .no 1 (es cBools (maysS (⟨⟨⟨n0, n1⟩, ⟨n2, n3⟩, n4, n5, n6⟩, ⟨⟨n7, n8⟩, n9, n10⟩, n11, n12, n13, n14⟩ : Season)))), (6, .sl .no 1 (es cInts L)), (7, .ptr s.length 112 0), (8, i64 i), (9, i64 (offDay (⟨⟨⟨n0, n1⟩, ⟨n2, n3⟩, n4, n5, n6⟩, ⟨⟨n7, n8⟩, n9, n10⟩, n11, n12, n13, n14⟩ : Season) L[i] : Nat)), (50, .bool false)], [(16, .cell [i64 n0, i64 n1, i64 n2, i64 n3, .sl .no 2 (es cSp n4), .sl .no 2 (es cAnc n5), .sl .no 5 (es cWal n6), i64 n7, i64 n8, .sl .no 2 (es cSp n9), .sl .no 2 (es cBoat n10), .sl .no 4 (es cSky n11), .sl .no 1 (es cInts n12), .sl .no 1 (es cInt n13), .sl .no 2 (es cSp n14)]), (32, .cell [i64 0, i64 0]), (112, .cell [i64 u, i64 v])] :: s) := by
 have q7 := (seasonOk_iff.1 hok).2.2.2.2.2.2.1
 simp only at q7
 have key := loop_list (T := T) (live := [1, 2, 5, 6, 7, 8, 9]) (keep := [16, 32, 112, 176, 272, 304]) (b := d26l1) L[i] (fun k (j : Nat) => j = k)
  (fun k _ => [(1, .ptr s.length 16 0), (2, .ptr s.length 32 0), (5, .sl .no 1 (es cBools (maysS (⟨⟨⟨n0, n1⟩, ⟨n2, n3⟩, n4, n5, n6⟩, ⟨⟨n7, n8⟩, n9, n10⟩, n11, n12, n13, n14⟩ : Season)))), (6, .sl .no 1 (es cInts L)), (7, .ptr s.length 112 0), (8, i64 i), (9, i64 k)]) (fun _ _ => [(16, .cell [i64 n0, i64 n1, i64 n2, i64 n3, .sl .no 2 (es cSp n4), .sl .no 2 (es cAnc n5), .sl .no 5 (es cWal n6), i64 n7, i64 n8, .sl .no 2 (es cSp n9), .sl .no 2 (es cBoat n10), .sl .no 4 (es cSky n11), .sl .no 1 (es cInts n12), .sl .no 1 (es cInt n13), .sl .no 2 (es cSp n14)]), (32, .cell [i64 0, i64 0]), (112, .cell [i64 u, i64 v])] :: s)
  (fun j (x : Int) => if mayS (⟨⟨⟨n0, n1⟩, ⟨n2, n3⟩, n4, n5, n6⟩, ⟨⟨n7, n8⟩, n9, n10⟩, n11, n12, n13, n14⟩ : Season) j x.toNat = true then .inr (.exit 2, [(1, .ptr s.length 16 0), (2, .ptr s.length 32 0), (5, .sl .no 1 (es cBools (maysS (⟨⟨⟨n0, n1⟩, ⟨n2, n3⟩, n4, n5, n6⟩, ⟨⟨n7, n8⟩, n9, n10⟩, n11, n12, n13, n14⟩ : Season)))), (6, .sl .no 1 (es cInts L)), (7, .ptr s.length 112 0), (8, i64 i), (9, i64 j), (50, .bool false)], [(16, .cell [i64 n0, i64 n1, i64 n2, i64 n3, .sl .no 2 (es cSp n4), .sl .no 2 (es cAnc n5), .sl .no 5 (es cWal n6), i64 n7, i64 n8, .sl .no 2 (es cSp n9), .sl .no 2 (es cBoat n10), .sl .no 4 (es cSky n11), .sl .no 1 (es cInts n12), .sl .no 1 (es cInt n13), .sl .no 2 (es cSp n14)]), (32, .cell [i64 0, i64 0]), (112, .cell [i64 u, i64 v])] :: s) else .inl (j + 1))
  (fun _ => (.exit 2, [(1, .ptr s.length 16 0), (2, .ptr s.length 32 0), (5, .sl .no 1 (es cBools (maysS (⟨⟨⟨n0, n1⟩, ⟨n2, n3⟩, n4, n5, n6⟩, ⟨⟨n7, n8⟩, n9, n10⟩, n11, n12, n13, n14⟩ : Season)))), (6, .sl .no 1 (es cInts L)), (7, .ptr s.length 112 0), (8, i64 i), (9, i64 L[i].length), (50, .bool false)], [(16, .cell [i64 n0, i64 n1, i64 n2, i64 n3, .sl .no 2 (es cSp n4), .sl .no 2 (es cAnc n5), .sl .no 5 (es cWal n6), i64 n7, i64 n8, .sl .no 2 (es cSp n9), .sl .no 2 (es cBoat n10), .sl .no 4 (es cSky n11), .sl .no 1 (es cInts n12), .sl .no 1 (es cInt n13), .sl .no 2 (es cSp n14)]), (32, .cell [i64 0, i64 0]), (112, .cell [i64 u, i64 v])] :: s))
  ?_ (fun k j j' hk hj h => by split at h <;> simp_all) (fun k j q hk hj h => by split at h <;> simp_all; rw [← h]; simp) ?_ (by simp) 0 rfl
  [(1, .ptr s.length 16 0), (2, .ptr s.length 32 0), (5, .sl .no 1 (es cBools (maysS (⟨⟨⟨n0, n1⟩, ⟨n2, n3⟩, n4, n5, n6⟩, ⟨⟨n7, n8⟩, n9, n10⟩, n11, n12, n13, n14⟩ : Season)))), (6, .sl .no 1 (es cInts L)), (7, .ptr s.length 112 0), (8, i64 i), (9, i64 0)] ([(16, .cell [i64 n0, i64 n1, i64 n2, i64 n3, .sl .no 2 (es cSp n4), .sl .no 2 (es cAnc n5), .sl .no 5 (es cWal n6), i64 n7, i64 n8, .sl .no 2 (es cSp n9), .sl .no 2 (es cBoat n10), .sl .no 4 (es cSky n11), .sl .no 1 (es cInts n12), .sl .no 1 (es cInt n13), .sl .no 2 (es cSp n14)]), (32, .cell [i64 0, i64 0]), (112, .cell [i64 u, i64 v])] :: s) (by simp) (by simp)
 ·have e : ∀ (l' : List Int) (j : Nat), foldS (fun j (x : Int) => if mayS (⟨⟨⟨n0, n1⟩, ⟨n2, n3⟩, n4, n5, n6⟩, ⟨⟨n7, n8⟩, n9, n10⟩, n11, n12, n13, n14⟩ : Season) j x.toNat = true then (.inr (.exit 2, [(1, .ptr s.length 16 0), (2, .ptr s.length 32 0), (5, .sl .no 1 (es cBools (maysS (⟨⟨⟨n0, n1⟩, ⟨n2, n3⟩, n4, n5, n6⟩, ⟨⟨n7, n8⟩, n9, n10⟩, n11, n12, n13, n14⟩ : Season)))), (6, .sl .no 1 (es cInts L)), (7, .ptr s.length 112 0), (8, i64 i), (9, i64 j), (50, .bool false)], [(16, .cell [i64 n0, i64 n1, i64 n2, i64 n3, .sl .no 2 (es cSp n4), .sl .no 2 (es cAnc n5), .sl .no 5 (es cWal n6), i64 n7, i64 n8, .sl .no 2 (es cSp n9), .sl .no 2 (es cBoat n10), .sl .no 4 (es cSky n11), .sl .no 1 (es cInts n12), .sl .no 1 (es cInt n13), .sl .no 2 (es cSp n14)]), (32, .cell [i64 0, i64 0]), (112, .cell [i64 u, i64 v])] :: s) : Nat ⊕ (Ex × Env × Stk)) else .inl (j + 1))
   (fun _ => (.exit 2, [(1, .ptr s.length 16 0), (2, .ptr s.length 32 0), (5, .sl .no 1 (es cBools (maysS (⟨⟨⟨n0, n1⟩, ⟨n2, n3⟩, n4, n5, n6⟩, ⟨⟨n7, n8⟩, n9, n10⟩, n11, n12, n13, n14⟩ : Season)))), (6, .sl .no 1 (es cInts L)), (7, .ptr s.length 112 0), (8, i64 i), (9, i64 L[i].length), (50, .bool false)], [(16, .cell [i64 n0, i64 n1, i64 n2, i64 n3, .sl .no 2 (es cSp n4), .sl .no 2 (es cAnc n5), .sl .no 5 (es cWal n6), i64 n7, i64 n8, .sl .no 2 (es cSp n9), .sl .no 2 (es cBoat n10), .sl .no 4 (es cSky n11), .sl .no 1 (es cInts n12), .sl .no 1 (es cInt n13), .sl .no 2 (es cSp n14)]), (32, .cell [i64 0, i64 0]), (112, .cell [i64 u, i64 v])] :: s)) l' j =
   (.exit 2, [(1, .ptr s.length 16 0), (2, .ptr s.length 32 0), (5, .sl .no 1 (es cBools (maysS (⟨⟨⟨n0, n1⟩, ⟨n2, n3⟩, n4, n5, n6⟩, ⟨⟨n7, n8⟩, n9, n10⟩, n11, n12, n13, n14⟩ : Season)))), (6, .sl .no 1 (es cInts L)), (7, .ptr s.length 112 0), (8, i64 i), (9, i64 ((firstMay (⟨⟨⟨n0, n1⟩, ⟨n2, n3⟩, n4, n5, n6⟩, ⟨⟨n7, n8⟩, n9, n10⟩, n11, n12, n13, n14⟩ : Season) j l').getD L[i].length : Nat)), (50, .bool false)], [(16, .cell [i64 n0, i64 n1, i64 n2, i64 n3, .sl .no 2 (es cSp n4), .sl .no 2 (es cAnc n5), .sl .no 5 (es cWal n6), i64 n7, i64 n8, .sl .no 2 (es cSp n9), .sl .no 2 (es cBoat n10), .sl .no 4 (es cSky n11), .sl .no 1 (es cInts n12), .sl .no 1 (es cInt n13), .sl .no 2 (es cSp n14)]), (32, .cell [i64 0, i64 0]), (112, .cell [i64 u, i64 v])] :: s) := by
   intro l'
   induction l' with
   | nil => intro j; rfl
   | cons x l' ih =>
     intro j
     simp only [foldS, firstMay]
     by_cases h : mayS (⟨⟨⟨n0, n1⟩, ⟨n2, n3⟩, n4, n5, n6⟩, ⟨⟨n7, n8⟩, n9, n10⟩, n11, n12, n13, n14⟩ : Season) j x.toNat = true
     ·simp only [h, if_true]; rfl
     ·simp only [h]; exact ih (j + 1)
  rw [e] at key
  exact key
 ·intro k j hk hj
  subst hj
  obtain ⟨h0, h1⟩ := hc L[i][j] (List.getElem_mem hk)
  have hj : j < n14.length := by omega
  obtain ⟨m1, m2, m3⟩ := maysS_get (n := (⟨⟨⟨n0, n1⟩, ⟨n2, n3⟩, n4, n5, n6⟩, ⟨⟨n7, n8⟩, n9, n10⟩, n11, n12, n13, n14⟩ : Season)) (day := j) (sky := L[i][j].toNat) hj (by simp only; omega)
  cases c0 : mayS (⟨⟨⟨n0, n1⟩, ⟨n2, n3⟩, n4, n5, n6⟩, ⟨⟨n7, n8⟩, n9, n10⟩, n11, n12, n13, n14⟩ : Season) j L[i][j].toNat
  ·rw [c0] at m3
   simp (maxSteps := 1000000) (disch := first | omega | assumption | decide +kernel | (simp; done) | (simp; omega) | fail) [run_drawnK, hL, hk, hj, h0, m1, m2, m3, c0, wk j (by omega)]
  ·rw [c0] at m3
   simp (maxSteps := 1000000) (disch := first | omega | assumption | decide +kernel | (simp; done) | (simp; omega) | fail) [run_drawnK, hL, hk, hj, h0, m1, m2, m3, c0]
 ·intro j hj
  simp (maxSteps := 1000000) (disch := first | omega | assumption | decide +kernel | (simp; done) | (simp; omega) | fail) [run_drawnK, hcl]
theorem offDay_none {n : Season} {c : List Int} (h : firstMay n 0 c = none) : offDay n c = c.length := by simp [offDay, h]
theorem offDay_some {n : Season} {c : List Int} {k : Nat} (h : firstMay n 0 c = some k) : offDay n c = k ∧ k < c.length := by
 have := firstMay_lt n c 0 k h
 exact ⟨by simp [offDay, h], by omega⟩
theorem e_Off13_l0 (n0 : Int) (n1 : Int) (n2 : Int) (n3 : Int) (n4 : List Sp) (n5 : List Anc) (n6 : List Wal) (n7 : Int) (n8 : Int) (n9 : List Sp) (n10 : List Boat) (n11 : List Sky) (n12 : List (List Int)) (n13 : List Int) (n14 : List Sp) (hok : seasonOk (⟨⟨⟨n0, n1⟩, ⟨n2, n3⟩, n4, n5, n6⟩, ⟨⟨n7, n8⟩, n9, n10⟩, n11, n12, n13, n14⟩ : Season) = true) (L : List (List Int)) (hlen : L.length ≤ 1024) (hL : ∀ c ∈ L, c.length = n14.length ∧ ∀ x : Int, x ∈ c → 0 ≤ x ∧ x < (n11.length : Int)) (u v : Int) (s : Stk) :
 Run T b26l0 [(1, .ptr s.length 16 0), (2, .ptr s.length 32 0), (5, .sl .no 1 (es cBools (maysS (⟨⟨⟨n0, n1⟩, ⟨n2, n3⟩, n4, n5, n6⟩, ⟨⟨n7, n8⟩, n9, n10⟩, n11, n12, n13, n14⟩ : Season)))), (6, .sl .no 1 (es cInts L)), (7, .ptr s.length 112 0), (8, i64 0)] ([(16, .cell [i64 n0, i64 n1, i64 n2, i64 n3, .sl .no 2 (es cSp n4), .sl .no 2 (es cAnc n5), .sl .no 5 (es cWal n6), i64 n7, i64 n8, .sl .no 2 (es cSp n9), .sl .no 2 (es cBoat n10), .sl .no 4 (es cSky n11), .sl .no 1 (es cInts n12), .sl .no 1 (es cInt n13), .sl .no 2 (es cSp n14)]), (32, .cell [i64 0, i64 0]), (112, .cell [i64 u, i64 v])] :: s) =
  some (if (foldB (offY (⟨⟨⟨n0, n1⟩, ⟨n2, n3⟩, n4, n5, n6⟩, ⟨⟨n7, n8⟩, n9, n10⟩, n11, n12, n13, n14⟩ : Season)) L ((u, v), false)).2 = true then (.exit 0, [(1, .ptr s.length 16 0), (2, .ptr s.length 32 0), (5, .sl .no 1 (es cBools (maysS (⟨⟨⟨n0, n1⟩, ⟨n2, n3⟩, n4, n5, n6⟩, ⟨⟨n7, n8⟩, n9, n10⟩, n11, n12, n13, n14⟩ : Season)))), (6, .sl .no 1 (es cInts L)), (7, .ptr s.length 112 0), (8, i64 L.length), (27, .bool false)], [(16, .cell [i64 n0, i64 n1, i64 n2, i64 n3, .sl .no 2 (es cSp n4), .sl .no 2 (es cAnc n5), .sl .no 5 (es cWal n6), i64 n7, i64 n8, .sl .no 2 (es cSp n9), .sl .no 2 (es cBoat n10), .sl .no 4 (es cSky n11), .sl .no 1 (es cInts n12), .sl .no 1 (es cInt n13), .sl .no 2 (es cSp n14)]), (32, .cell [i64 0, i64 0]), (112, .cell [i64 (foldB (offY (⟨⟨⟨n0, n1⟩, ⟨n2, n3⟩, n4, n5, n6⟩, ⟨⟨n7, n8⟩, n9, n10⟩, n11, n12, n13, n14⟩ : Season)) L ((u, v), false)).1.1.1, i64 (foldB (offY (⟨⟨⟨n0, n1⟩, ⟨n2, n3⟩, n4, n5, n6⟩, ⟨⟨n7, n8⟩, n9, n10⟩, n11, n12, n13, n14⟩ : Season)) L ((u, v), false)).1.1.2])] :: s)
   else (.ret, [(2, .ptr s.length 32 0), (3, i64 3)], [(16, .cell [i64 n0, i64 n1, i64 n2, i64 n3, .sl .no 2 (es cSp n4), .sl .no 2 (es cAnc n5), .sl .no 5 (es cWal n6), i64 n7, i64 n8, .sl .no 2 (es cSp n9), .sl .no 2 (es cBoat n10), .sl .no 4 (es cSky n11), .sl .no 1 (es cInts n12), .sl .no 1 (es cInt n13), .sl .no 2 (es cSp n14)]), (32, .cell [i64 0, i64 0]), (112, .cell [i64 (foldB (offY (⟨⟨⟨n0, n1⟩, ⟨n2, n3⟩, n4, n5, n6⟩, ⟨⟨n7, n8⟩, n9, n10⟩, n11, n12, n13, n14⟩ : Season)) L ((u, v), false)).1.1.1, i64 (foldB (offY (⟨⟨⟨n0, n1⟩, ⟨n2, n3⟩, n4, n5, n6⟩, ⟨⟨n7, n8⟩, n9, n10⟩, n11, n12, n13, n14⟩ : Season)) L ((u, v), false)).1.1.2])] :: s)) := by
 have q7 := (seasonOk_iff.1 hok).2.2.2.2.2.2.1
 simp only at q7
 have key := loop_list (T := T) (live := [1, 2, 5, 6, 7, 8]) (keep := [16, 32, 112, 176, 272, 304]) (b := d26l0) L (fun _ (_ : Int × Int) => True)
  (fun k _ => [(1, .ptr s.length 16 0), (2, .ptr s.length 32 0), (5, .sl .no 1 (es cBools (maysS (⟨⟨⟨n0, n1⟩, ⟨n2, n3⟩, n4, n5, n6⟩, ⟨⟨n7, n8⟩, n9, n10⟩, n11, n12, n13, n14⟩ : Season)))), (6, .sl .no 1 (es cInts L)), (7, .ptr s.length 112 0), (8, i64 k)]) (fun _ a => [(16, .cell [i64 n0, i64 n1, i64 n2, i64 n3, .sl .no 2 (es cSp n4), .sl .no 2 (es cAnc n5), .sl .no 5 (es cWal n6), i64 n7, i64 n8, .sl .no 2 (es cSp n9), .sl .no 2 (es cBoat n10), .sl .no 4 (es cSky n11), .sl .no 1 (es cInts n12), .sl .no 1 (es cInt n13), .sl .no 2 (es cSp n14)]), (32, .cell [i64 0, i64 0]), (112, .cell [i64 a.1, i64 a.2])] :: s)
  (fun a (c : List Int) => match firstMay (⟨⟨⟨n0, n1⟩, ⟨n2, n3⟩, n4, n5, n6⟩, ⟨⟨n7, n8⟩, n9, n10⟩, n11, n12, n13, n14⟩ : Season) 0 c with
    | some k => .inl (min a.1 k, max a.2 k)
    | none => .inr (.ret, [(2, .ptr s.length 32 0), (3, i64 3)], [(16, .cell [i64 n0, i64 n1, i64 n2, i64 n3, .sl .no 2 (es cSp n4), .sl .no 2 (es cAnc n5), .sl .no 5 (es cWal n6), i64 n7, i64 n8, .sl .no 2 (es cSp n9), .sl .no 2 (es cBoat n10), .sl .no 4 (es cSky n11), .sl .no 1 (es cInts n12), .sl .no 1 (es cInt n13), .sl .no 2 (es cSp n14)]), (32, .cell [i64 0, i64 0]), (112, .cell [i64 a.1, i64 a.2])] :: s))
  (fun a => (.exit 0, [(1, .ptr s.length 16 0), (2, .ptr s.length 32 0), (5, .sl .no 1 (es cBools (maysS (⟨⟨⟨n0, n1⟩, ⟨n2, n3⟩, n4, n5, n6⟩, ⟨⟨n7, n8⟩, n9, n10⟩, n11, n12, n13, n14⟩ : Season)))), (6, .sl .no 1 (es cInts L)), (7, .ptr s.length 112 0), (8, i64 L.length), (27, .bool false)], [(16, .cell [i64 n0, i64 n1, i64 n2, i64 n3, .sl .no 2 (es cSp n4), .sl .no 2 (es cAnc n5), .sl .no 5 (es cWal n6), i64 n7, i64 n8, .sl .no 2 (es cSp n9), .sl .no 2 (es cBoat n10), .sl .no 4 (es cSky n11), .sl .no 1 (es cInts n12), .sl .no 1 (es cInt n13), .sl .no 2 (es cSp n14)]), (32, .cell [i64 0, i64 0]), (112, .cell [i64 a.1, i64 a.2])] :: s))
  ?_ (fun k j j' hk hj h => trivial) (fun k j q hk hj h => by split at h <;> simp_all; rw [← h]; simp) ?_ (by simp) (u, v) trivial
  [(1, .ptr s.length 16 0), (2, .ptr s.length 32 0), (5, .sl .no 1 (es cBools (maysS (⟨⟨⟨n0, n1⟩, ⟨n2, n3⟩, n4, n5, n6⟩, ⟨⟨n7, n8⟩, n9, n10⟩, n11, n12, n13, n14⟩ : Season)))), (6, .sl .no 1 (es cInts L)), (7, .ptr s.length 112 0), (8, i64 0)] ([(16, .cell [i64 n0, i64 n1, i64 n2, i64 n3, .sl .no 2 (es cSp n4), .sl .no 2 (es cAnc n5), .sl .no 5 (es cWal n6), i64 n7, i64 n8, .sl .no 2 (es cSp n9), .sl .no 2 (es cBoat n10), .sl .no 4 (es cSky n11), .sl .no 1 (es cInts n12), .sl .no 1 (es cInt n13), .sl .no 2 (es cSp n14)]), (32, .cell [i64 0, i64 0]), (112, .cell [i64 u, i64 v])] :: s) (by simp) (by simp)
 ·refine key.trans ?_
  clear key
  congr 1
  generalize L.length = len
  clear hL hlen
  generalize hX : (es cInts L) = X
  clear hX
  induction L generalizing u v with
  | nil => rfl
  | cons c l' ih =>
    rcases Option.eq_none_or_eq_some (firstMay (⟨⟨⟨n0, n1⟩, ⟨n2, n3⟩, n4, n5, n6⟩, ⟨⟨n7, n8⟩, n9, n10⟩, n11, n12, n13, n14⟩ : Season) 0 c) with h | ⟨k, h⟩
    ·simp only [foldS, foldB, offY, h, Bool.false_eq_true, if_false]
    ·simp only [foldS, foldB, offY, h, if_true]; exact ih _ _
 ·intro k a hk hj
  obtain ⟨c1, c2⟩ := hL L[k] (List.getElem_mem hk)
  have h1 := fun s => e_Off13_l1 n0 n1 n2 n3 n4 n5 n6 n7 n8 n9 n10 n11 n12 n13 n14 hok L k hk hlen c2 c1 a.1 a.2 s
  cases h : firstMay (⟨⟨⟨n0, n1⟩, ⟨n2, n3⟩, n4, n5, n6⟩, ⟨⟨n7, n8⟩, n9, n10⟩, n11, n12, n13, n14⟩ : Season) 0 L[k] with
  | none =>
    have e1 := offDay_none h
    rw [c1] at e1
    simp only [e1] at h1
    simp (maxSteps := 1000000) (disch := first | omega | assumption | decide +kernel | (simp; done) | (simp; omega) | fail) [run_drawnK, hk, h1]
  | some d =>
    obtain ⟨e1, e2⟩ := offDay_some h
    have e3 : ¬ (d : Int) = n14.length := by omega
    simp only [e1] at h1
    simp (maxSteps := 1000000) (disch := first | omega | assumption | decide +kernel | (simp; done) | (simp; omega) | fail) [run_drawnK, hk, h1, e3, wk k (by omega)]
 ·intro a hj
  simp
theorem e_Off13 (n0 : Int) (n1 : Int) (n2 : Int) (n3 : Int) (n4 : List Sp) (n5 : List Anc) (n6 : List Wal) (n7 : Int) (n8 : Int) (n9 : List Sp) (n10 : List Boat) (n11 : List Sky) (n12 : List (List Int)) (n13 : List Int) (n14 : List Sp) (hs : ShortC (⟨⟨⟨n0, n1⟩, ⟨n2, n3⟩, n4, n5, n6⟩, ⟨⟨n7, n8⟩, n9, n10⟩, n11, n12, n13, n14⟩ : Season)) (lab s) : den T 26 [.agg [i64 n0, i64 n1, i64 n2, i64 n3, .sl .no 2 (es cSp n4), .sl .no 2 (es cAnc n5), .sl .no 5 (es cWal n6), i64 n7, i64 n8, .sl .no 2 (es cSp n9), .sl .no 2 (es cBoat n10), .sl .no 4 (es cSky n11), .sl .no 1 (es cInts n12), .sl .no 1 (es cInt n13), .sl .no 2 (es cSp n14)]] lab s = some (.tup [.agg [i64 (offR (⟨⟨⟨n0, n1⟩, ⟨n2, n3⟩, n4, n5, n6⟩, ⟨⟨n7, n8⟩, n9, n10⟩, n11, n12, n13, n14⟩ : Season)).1.1, i64 (offR (⟨⟨⟨n0, n1⟩, ⟨n2, n3⟩, n4, n5, n6⟩, ⟨⟨n7, n8⟩, n9, n10⟩, n11, n12, n13, n14⟩ : Season)).1.2], i64 (offR (⟨⟨⟨n0, n1⟩, ⟨n2, n3⟩, n4, n5, n6⟩, ⟨⟨n7, n8⟩, n9, n10⟩, n11, n12, n13, n14⟩ : Season)).2], s) := by
 have hs1 : Short (⟨⟨⟨n0, n1⟩, ⟨n2, n3⟩, n4, n5, n6⟩, ⟨⟨n7, n8⟩, n9, n10⟩, n11, n12, n13, n14⟩ : Season) := hs.short
 have hc := fun lab s => e_Check13 n0 n1 n2 n3 n4 n5 n6 n7 n8 n9 n10 n11 n12 n13 n14 hs1.skies hs1.first hs1.days hs1.each lab s
 rw [den_fn t26 _ _ _ rfl]
 simp only [b26]
 cases c0 : seasonOk (⟨⟨⟨n0, n1⟩, ⟨n2, n3⟩, n4, n5, n6⟩, ⟨⟨n7, n8⟩, n9, n10⟩, n11, n12, n13, n14⟩ : Season)
 ·simp (maxSteps := 1000000) (disch := first | omega | assumption | decide +kernel | (simp; done) | (simp; omega) | fail) [hc, c0, offR]
 have hM := fun lab s => e_Mays n0 n1 n2 n3 n4 n5 n6 n7 n8 n9 n10 n11 n12 n13 n14 hs c0 lab s
 have hC := fun lab s => e_allCourses n0 n1 n2 n3 n4 n5 n6 n7 n8 n9 n10 n11 n12 n13 n14 hs1 c0 lab s
 obtain ⟨k1, k2, k3⟩ := allCourses_ok c0
 have key := fun s => e_Off13_l0 n0 n1 n2 n3 n4 n5 n6 n7 n8 n9 n10 n11 n12 n13 n14 c0 (allCourses (⟨⟨⟨n0, n1⟩, ⟨n2, n3⟩, n4, n5, n6⟩, ⟨⟨n7, n8⟩, n9, n10⟩, n11, n12, n13, n14⟩ : Season)) k1 k3 n14.length (-1) s
 have hr : offR (⟨⟨⟨n0, n1⟩, ⟨n2, n3⟩, n4, n5, n6⟩, ⟨⟨n7, n8⟩, n9, n10⟩, n11, n12, n13, n14⟩ : Season) = if (offQ (⟨⟨⟨n0, n1⟩, ⟨n2, n3⟩, n4, n5, n6⟩, ⟨⟨n7, n8⟩, n9, n10⟩, n11, n12, n13, n14⟩ : Season)).2 = true then ((offQ (⟨⟨⟨n0, n1⟩, ⟨n2, n3⟩, n4, n5, n6⟩, ⟨⟨n7, n8⟩, n9, n10⟩, n11, n12, n13, n14⟩ : Season)).1.1, 0) else ((0, 0), 3) := by rw [offR, if_pos c0]
 rw [hr]
 change ∀ s : Stk, Run T _ _ _ = some (if (offQ (⟨⟨⟨n0, n1⟩, ⟨n2, n3⟩, n4, n5, n6⟩, ⟨⟨n7, n8⟩, n9, n10⟩, n11, n12, n13, n14⟩ : Season)).2 = true then (Ex.exit 0, _, [_, _, (_, Entry.cell [i64 (offQ (⟨⟨⟨n0, n1⟩, ⟨n2, n3⟩, n4, n5, n6⟩, ⟨⟨n7, n8⟩, n9, n10⟩, n11, n12, n13, n14⟩ : Season)).1.1.1, i64 (offQ (⟨⟨⟨n0, n1⟩, ⟨n2, n3⟩, n4, n5, n6⟩, ⟨⟨n7, n8⟩, n9, n10⟩, n11, n12, n13, n14⟩ : Season)).1.1.2])] :: s) else (Ex.ret, _, [_, _, (_, Entry.cell [i64 (offQ (⟨⟨⟨n0, n1⟩, ⟨n2, n3⟩, n4, n5, n6⟩, ⟨⟨n7, n8⟩, n9, n10⟩, n11, n12, n13, n14⟩ : Season)).1.1.1, i64 (offQ (⟨⟨⟨n0, n1⟩, ⟨n2, n3⟩, n4, n5, n6⟩, ⟨⟨n7, n8⟩, n9, n10⟩, n11, n12, n13, n14⟩ : Season)).1.1.2])] :: s)) at key
 generalize offQ (⟨⟨⟨n0, n1⟩, ⟨n2, n3⟩, n4, n5, n6⟩, ⟨⟨n7, n8⟩, n9, n10⟩, n11, n12, n13, n14⟩ : Season) = q at key
 obtain ⟨⟨⟨u, v⟩, b1⟩, b2⟩ := q
 cases b2
 ·simp only [Bool.false_eq_true, if_false] at key
  simp (maxSteps := 1000000) (disch := first | omega | assumption | decide +kernel | (simp; done) | (simp; omega) | fail) [run_drawnK, hc, hM, hC, c0, key]
 ·simp only [if_true] at key
  simp (maxSteps := 1000000) (disch := first | omega | assumption | decide +kernel | (simp; done) | (simp; omega) | fail) [run_drawnK, hc, hM, hC, c0, key]
theorem regretL_fold (n : Season) (b : Int) : ∀ (l : List Int) (j : Nat) (a : Int), (l.foldl (fun (a : Nat × Int) (x : Int) => (a.1 + 1, if mayS n a.1 x.toNat = true then max a.2 (dayLo n a.1 - b) else a.2)) (j, a)).2 = regretL n b j a l
 | [], _, _ => rfl
 | x :: l, j, a => by simp only [List.foldl_cons, regretL]; exact regretL_fold n b l _ _
theorem e_Regret13_l1 (n0 : Int) (n1 : Int) (n2 : Int) (n3 : Int) (n4 : List Sp) (n5 : List Anc) (n6 : List Wal) (n7 : Int) (n8 : Int) (n9 : List Sp) (n10 : List Boat) (n11 : List Sky) (n12 : List (List Int)) (n13 : List Int) (n14 : List Sp) (hok : seasonOk (⟨⟨⟨n0, n1⟩, ⟨n2, n3⟩, n4, n5, n6⟩, ⟨⟨n7, n8⟩, n9, n10⟩, n11, n12, n13, n14⟩ : Season) = true) (L : List (List Int)) (i : Nat) (hL : i < L.length) (hlen : L.length ≤ 1024) (hc : ∀ x : Int, x ∈ L[i] → 0 ≤ x ∧ x < (n11.length : Int)) (hcl : L[i].length = n14.length) (m b : Int) (hb : 0 ≤ b ∧ b ≤ 2000) (s : Stk) :
 Run T b28l1 [(1, .ptr s.length 16 0), (5, .sl .no 1 (es cBools (maysS (⟨⟨⟨n0, n1⟩, ⟨n2, n3⟩, n4, n5, n6⟩, ⟨⟨n7, n8⟩, n9, n10⟩, n11, n12, n13, n14⟩ : Season)))), (6, .sl .no 1 (es cInts L)), (7, i64 m), (8, i64 i), (9, i64 b), (10, i64 0)] ([(16, .cell [i64 n0, i64 n1, i64 n2, i64 n3, .sl .no 2 (es cSp n4), .sl .no 2 (es cAnc n5), .sl .no 5 (es cWal n6), i64 n7, i64 n8, .sl .no 2 (es cSp n9), .sl .no 2 (es cBoat n10), .sl .no 4 (es cSky n11), .sl .no 1 (es cInts n12), .sl .no 1 (es cInt n13), .sl .no 2 (es cSp n14)])] :: s) = some (.exit 2, [(1, .ptr s.length 16 0), (5, .sl .no 1 (es cBools (maysS (⟨⟨⟨n0, n1⟩, ⟨n2, n3⟩, n4, n5, n6⟩, ⟨⟨n7, n8⟩, n9, n10⟩, n11, n12, n13, n14⟩ : Season)))), (6, .sl .no 1 (es cInts L)), (7, i64 (((L[i]).foldl (fun (a : Nat × Int) (x : Int) => (a.1 + 1, if mayS (⟨⟨⟨n0, n1⟩, ⟨n2, n3⟩, n4, n5, n6⟩, ⟨⟨n7, n8⟩, n9, n10⟩, n11, n12, n13, n14⟩ : Season) a.1 x.toNat = true then max a.2 (dayLo (⟨⟨⟨n0, n1⟩, ⟨n2, n3⟩, n4, n5, n6⟩, ⟨⟨n7, n8⟩, n9, n10⟩, n11, n12, n13, n14⟩ : Season) a.1 - b) else a.2)) (0, m))).2), (8, i64 i), (9, i64 b), (10, i64 L[i].length), (37, .bool false)], [(16, .cell [i64 n0, i64 n1, i64 n2, i64 n3, .sl .no 2 (es cSp n4), .sl .no 2 (es cAnc n5), .sl .no 5 (es cWal n6), i64 n7, i64 n8, .sl .no 2 (es cSp n9), .sl .no 2 (es cBoat n10), .sl .no 4 (es cSky n11), .sl .no 1 (es cInts n12), .sl .no 1 (es cInt n13), .sl .no 2 (es cSp n14)])] :: s) := by
 have key := loop_fold (T := T) (live := [1, 5, 6, 7, 8, 9, 10]) (keep := [16, 192, 272, 304, 512]) (b := d28l1) (L[i]) (fun k (a : Nat × Int) => a.1 = k) (fun (a : Nat × Int) (x : Int) => (a.1 + 1, if mayS (⟨⟨⟨n0, n1⟩, ⟨n2, n3⟩, n4, n5, n6⟩, ⟨⟨n7, n8⟩, n9, n10⟩, n11, n12, n13, n14⟩ : Season) a.1 x.toNat = true then max a.2 (dayLo (⟨⟨⟨n0, n1⟩, ⟨n2, n3⟩, n4, n5, n6⟩, ⟨⟨n7, n8⟩, n9, n10⟩, n11, n12, n13, n14⟩ : Season) a.1 - b) else a.2)) (fun k (a : Nat × Int) => [(1, .ptr s.length 16 0), (5, .sl .no 1 (es cBools (maysS (⟨⟨⟨n0, n1⟩, ⟨n2, n3⟩, n4, n5, n6⟩, ⟨⟨n7, n8⟩, n9, n10⟩, n11, n12, n13, n14⟩ : Season)))), (6, .sl .no 1 (es cInts L)), (7, i64 (a).2), (8, i64 i), (9, i64 b), (10, i64 k)]) (fun k (a : Nat × Int) => [(16, .cell [i64 n0, i64 n1, i64 n2, i64 n3, .sl .no 2 (es cSp n4), .sl .no 2 (es cAnc n5), .sl .no 5 (es cWal n6), i64 n7, i64 n8, .sl .no 2 (es cSp n9), .sl .no 2 (es cBoat n10), .sl .no 4 (es cSky n11), .sl .no 1 (es cInts n12), .sl .no 1 (es cInt n13), .sl .no 2 (es cSp n14)])] :: s) (fun (a : Nat × Int) => (.exit 2, [(1, .ptr s.length 16 0), (5, .sl .no 1 (es cBools (maysS (⟨⟨⟨n0, n1⟩, ⟨n2, n3⟩, n4, n5, n6⟩, ⟨⟨n7, n8⟩, n9, n10⟩, n11, n12, n13, n14⟩ : Season)))), (6, .sl .no 1 (es cInts L)), (7, i64 (a).2), (8, i64 i), (9, i64 b), (10, i64 L[i].length), (37, .bool false)], [(16, .cell [i64 n0, i64 n1, i64 n2, i64 n3, .sl .no 2 (es cSp n4), .sl .no 2 (es cAnc n5), .sl .no 5 (es cWal n6), i64 n7, i64 n8, .sl .no 2 (es cSp n9), .sl .no 2 (es cBoat n10), .sl .no 4 (es cSky n11), .sl .no 1 (es cInts n12), .sl .no 1 (es cInt n13), .sl .no 2 (es cSp n14)])] :: s)) (by simp) ?_ ?_ ?_ (0, m) (by simp) [(1, .ptr s.length 16 0), (5, .sl .no 1 (es cBools (maysS (⟨⟨⟨n0, n1⟩, ⟨n2, n3⟩, n4, n5, n6⟩, ⟨⟨n7, n8⟩, n9, n10⟩, n11, n12, n13, n14⟩ : Season)))), (6, .sl .no 1 (es cInts L)), (7, i64 m), (8, i64 i), (9, i64 b), (10, i64 0)] ([(16, .cell [i64 n0, i64 n1, i64 n2, i64 n3, .sl .no 2 (es cSp n4), .sl .no 2 (es cAnc n5), .sl .no 5 (es cWal n6), i64 n7, i64 n8, .sl .no 2 (es cSp n9), .sl .no 2 (es cBoat n10), .sl .no 4 (es cSky n11), .sl .no 1 (es cInts n12), .sl .no 1 (es cInt n13), .sl .no 2 (es cSp n14)])] :: s) (by simp) (by simp)
 ·exact key
 ·intro k a hk hi
  have q7 := (seasonOk_iff.1 hok).2.2.2.2.2.2.1
  simp only at q7
  obtain ⟨j, a⟩ := a
  simp only at hi
  subst hi
  obtain ⟨h0, h1⟩ := hc L[i][j] (List.getElem_mem hk)
  have hj : j < n14.length := by omega
  have hlo : dayLo (⟨⟨⟨n0, n1⟩, ⟨n2, n3⟩, n4, n5, n6⟩, ⟨⟨n7, n8⟩, n9, n10⟩, n11, n12, n13, n14⟩ : Season) j = n14[j].lo := by simp [dayLo, hj]
  have hdo := days_ok hok (k := j) hj
  simp only at hdo
  obtain ⟨m1, m2, m3⟩ := maysS_get (n := (⟨⟨⟨n0, n1⟩, ⟨n2, n3⟩, n4, n5, n6⟩, ⟨⟨n7, n8⟩, n9, n10⟩, n11, n12, n13, n14⟩ : Season)) (day := j) (sky := L[i][j].toNat) hj (by simp only; omega)
  cases c0 : mayS (⟨⟨⟨n0, n1⟩, ⟨n2, n3⟩, n4, n5, n6⟩, ⟨⟨n7, n8⟩, n9, n10⟩, n11, n12, n13, n14⟩ : Season) j L[i][j].toNat
  ·rw [c0] at m3
   simp (maxSteps := 1000000) (disch := first | omega | assumption | decide +kernel | (simp; done) | (simp; omega) | fail) [run_drawnK, hL, hk, hj, h0, m1, m2, m3, c0, wk j (by omega)]
  ·rw [c0] at m3
   simp (maxSteps := 1000000) (disch := first | omega | assumption | decide +kernel | (simp; done) | (simp; omega) | fail) [run_drawnK, hL, hk, hj, h0, m1, m2, m3, c0, hlo, wi, wk j (by omega)]
 ·intro k a hk hi
  simp only [hi]
 ·intro a hi
  simp (maxSteps := 1000000) (disch := first | omega | assumption | decide +kernel | (simp; done) | (simp; omega) | fail) [hcl]
theorem e_Regret13_l0 (n0 : Int) (n1 : Int) (n2 : Int) (n3 : Int) (n4 : List Sp) (n5 : List Anc) (n6 : List Wal) (n7 : Int) (n8 : Int) (n9 : List Sp) (n10 : List Boat) (n11 : List Sky) (n12 : List (List Int)) (n13 : List Int) (n14 : List Sp) (hs : ShortC (⟨⟨⟨n0, n1⟩, ⟨n2, n3⟩, n4, n5, n6⟩, ⟨⟨n7, n8⟩, n9, n10⟩, n11, n12, n13, n14⟩ : Season)) (hok : seasonOk (⟨⟨⟨n0, n1⟩, ⟨n2, n3⟩, n4, n5, n6⟩, ⟨⟨n7, n8⟩, n9, n10⟩, n11, n12, n13, n14⟩ : Season) = true) (L : List (List Int)) (hlen : L.length ≤ 1024) (hL : ∀ c ∈ L, c.length = n14.length ∧ ∀ x : Int, x ∈ c → 0 ≤ x ∧ x < (n11.length : Int)) (s : Stk) :
 Run T b28l0 [(1, .ptr s.length 16 0), (5, .sl .no 1 (es cBools (maysS (⟨⟨⟨n0, n1⟩, ⟨n2, n3⟩, n4, n5, n6⟩, ⟨⟨n7, n8⟩, n9, n10⟩, n11, n12, n13, n14⟩ : Season)))), (6, .sl .no 1 (es cInts L)), (7, i64 0), (8, i64 0)] ([(16, .cell [i64 n0, i64 n1, i64 n2, i64 n3, .sl .no 2 (es cSp n4), .sl .no 2 (es cAnc n5), .sl .no 5 (es cWal n6), i64 n7, i64 n8, .sl .no 2 (es cSp n9), .sl .no 2 (es cBoat n10), .sl .no 4 (es cSky n11), .sl .no 1 (es cInts n12), .sl .no 1 (es cInt n13), .sl .no 2 (es cSp n14)])] :: s) = some (.exit 0, [(1, .ptr s.length 16 0), (5, .sl .no 1 (es cBools (maysS (⟨⟨⟨n0, n1⟩, ⟨n2, n3⟩, n4, n5, n6⟩, ⟨⟨n7, n8⟩, n9, n10⟩, n11, n12, n13, n14⟩ : Season)))), (6, .sl .no 1 (es cInts L)), (7, i64 ((L).foldl (regretY (⟨⟨⟨n0, n1⟩, ⟨n2, n3⟩, n4, n5, n6⟩, ⟨⟨n7, n8⟩, n9, n10⟩, n11, n12, n13, n14⟩ : Season)) 0)), (8, i64 L.length), (23, .bool false)], [(16, .cell [i64 n0, i64 n1, i64 n2, i64 n3, .sl .no 2 (es cSp n4), .sl .no 2 (es cAnc n5), .sl .no 5 (es cWal n6), i64 n7, i64 n8, .sl .no 2 (es cSp n9), .sl .no 2 (es cBoat n10), .sl .no 4 (es cSky n11), .sl .no 1 (es cInts n12), .sl .no 1 (es cInt n13), .sl .no 2 (es cSp n14)])] :: s) := by
 have key := loop_fold (T := T) (live := [1, 5, 6, 7, 8]) (keep := [16, 192, 272, 304]) (b := d28l0) (L) (fun _ _ => True) (regretY (⟨⟨⟨n0, n1⟩, ⟨n2, n3⟩, n4, n5, n6⟩, ⟨⟨n7, n8⟩, n9, n10⟩, n11, n12, n13, n14⟩ : Season)) (fun k (a : Int) => [(1, .ptr s.length 16 0), (5, .sl .no 1 (es cBools (maysS (⟨⟨⟨n0, n1⟩, ⟨n2, n3⟩, n4, n5, n6⟩, ⟨⟨n7, n8⟩, n9, n10⟩, n11, n12, n13, n14⟩ : Season)))), (6, .sl .no 1 (es cInts L)), (7, i64 a), (8, i64 k)]) (fun k (a : Int) => [(16, .cell [i64 n0, i64 n1, i64 n2, i64 n3, .sl .no 2 (es cSp n4), .sl .no 2 (es cAnc n5), .sl .no 5 (es cWal n6), i64 n7, i64 n8, .sl .no 2 (es cSp n9), .sl .no 2 (es cBoat n10), .sl .no 4 (es cSky n11), .sl .no 1 (es cInts n12), .sl .no 1 (es cInt n13), .sl .no 2 (es cSp n14)])] :: s) (fun (a : Int) => (.exit 0, [(1, .ptr s.length 16 0), (5, .sl .no 1 (es cBools (maysS (⟨⟨⟨n0, n1⟩, ⟨n2, n3⟩, n4, n5, n6⟩, ⟨⟨n7, n8⟩, n9, n10⟩, n11, n12, n13, n14⟩ : Season)))), (6, .sl .no 1 (es cInts L)), (7, i64 a), (8, i64 L.length), (23, .bool false)], [(16, .cell [i64 n0, i64 n1, i64 n2, i64 n3, .sl .no 2 (es cSp n4), .sl .no 2 (es cAnc n5), .sl .no 5 (es cWal n6), i64 n7, i64 n8, .sl .no 2 (es cSp n9), .sl .no 2 (es cBoat n10), .sl .no 4 (es cSky n11), .sl .no 1 (es cInts n12), .sl .no 1 (es cInt n13), .sl .no 2 (es cSp n14)])] :: s)) (by simp) ?_ ?_ ?_ 0 (by simp) [(1, .ptr s.length 16 0), (5, .sl .no 1 (es cBools (maysS (⟨⟨⟨n0, n1⟩, ⟨n2, n3⟩, n4, n5, n6⟩, ⟨⟨n7, n8⟩, n9, n10⟩, n11, n12, n13, n14⟩ : Season)))), (6, .sl .no 1 (es cInts L)), (7, i64 0), (8, i64 0)] ([(16, .cell [i64 n0, i64 n1, i64 n2, i64 n3, .sl .no 2 (es cSp n4), .sl .no 2 (es cAnc n5), .sl .no 5 (es cWal n6), i64 n7, i64 n8, .sl .no 2 (es cSp n9), .sl .no 2 (es cBoat n10), .sl .no 4 (es cSky n11), .sl .no 1 (es cInts n12), .sl .no 1 (es cInt n13), .sl .no 2 (es cSp n14)])] :: s) (by simp) (by simp)
 ·exact key
 ·intro k a hk hi
  obtain ⟨c1, c2⟩ := hL L[k] (List.getElem_mem hk)
  have hb := fun lab s => e_brings13r n0 n1 n2 n3 n4 n5 n6 n7 n8 n9 n10 n11 n12 n13 n14 hs hok L[k] c2 (by omega) lab s
  have hbk := brings_ok hok (c := L[k]) (by simp only; omega)
  have h1 := fun s => e_Regret13_l1 n0 n1 n2 n3 n4 n5 n6 n7 n8 n9 n10 n11 n12 n13 n14 hok L k hk hlen c2 c1 a (bringsS (⟨⟨⟨n0, n1⟩, ⟨n2, n3⟩, n4, n5, n6⟩, ⟨⟨n7, n8⟩, n9, n10⟩, n11, n12, n13, n14⟩ : Season) L[k]) hbk s
  simp only [regretL_fold] at h1
  simp (maxSteps := 1000000) (disch := first | omega | assumption | decide +kernel | (simp; done) | (simp; omega) | fail) [run_drawnK, hk, hb, h1, regretY, wk k (by omega)]
 ·intro k a hk hi
  try simp
 ·intro a hi
  simp
theorem e_Regret13 (n0 : Int) (n1 : Int) (n2 : Int) (n3 : Int) (n4 : List Sp) (n5 : List Anc) (n6 : List Wal) (n7 : Int) (n8 : Int) (n9 : List Sp) (n10 : List Boat) (n11 : List Sky) (n12 : List (List Int)) (n13 : List Int) (n14 : List Sp) (hs : ShortC (⟨⟨⟨n0, n1⟩, ⟨n2, n3⟩, n4, n5, n6⟩, ⟨⟨n7, n8⟩, n9, n10⟩, n11, n12, n13, n14⟩ : Season)) (lab s) : den T 28 [.agg [i64 n0, i64 n1, i64 n2, i64 n3, .sl .no 2 (es cSp n4), .sl .no 2 (es cAnc n5), .sl .no 5 (es cWal n6), i64 n7, i64 n8, .sl .no 2 (es cSp n9), .sl .no 2 (es cBoat n10), .sl .no 4 (es cSky n11), .sl .no 1 (es cInts n12), .sl .no 1 (es cInt n13), .sl .no 2 (es cSp n14)]] lab s = some (.tup [i64 (regretR (⟨⟨⟨n0, n1⟩, ⟨n2, n3⟩, n4, n5, n6⟩, ⟨⟨n7, n8⟩, n9, n10⟩, n11, n12, n13, n14⟩ : Season)).1, i64 (regretR (⟨⟨⟨n0, n1⟩, ⟨n2, n3⟩, n4, n5, n6⟩, ⟨⟨n7, n8⟩, n9, n10⟩, n11, n12, n13, n14⟩ : Season)).2], s) := by
 have hs1 : Short (⟨⟨⟨n0, n1⟩, ⟨n2, n3⟩, n4, n5, n6⟩, ⟨⟨n7, n8⟩, n9, n10⟩, n11, n12, n13, n14⟩ : Season) := hs.short
 have hc := fun lab s => e_Check13 n0 n1 n2 n3 n4 n5 n6 n7 n8 n9 n10 n11 n12 n13 n14 hs1.skies hs1.first hs1.days hs1.each lab s
 rw [den_fn t28 _ _ _ rfl]
 simp only [b28]
 cases c0 : seasonOk (⟨⟨⟨n0, n1⟩, ⟨n2, n3⟩, n4, n5, n6⟩, ⟨⟨n7, n8⟩, n9, n10⟩, n11, n12, n13, n14⟩ : Season)
 ·simp (maxSteps := 1000000) (disch := first | omega | assumption | decide +kernel | (simp; done) | (simp; omega) | fail) [hc, c0, regretR]
 have hM := fun lab s => e_Mays n0 n1 n2 n3 n4 n5 n6 n7 n8 n9 n10 n11 n12 n13 n14 hs c0 lab s
 have hC := fun lab s => e_allCourses n0 n1 n2 n3 n4 n5 n6 n7 n8 n9 n10 n11 n12 n13 n14 hs1 c0 lab s
 obtain ⟨k1, k2, k3⟩ := allCourses_ok c0
 have key := fun s => e_Regret13_l0 n0 n1 n2 n3 n4 n5 n6 n7 n8 n9 n10 n11 n12 n13 n14 hs c0 (allCourses (⟨⟨⟨n0, n1⟩, ⟨n2, n3⟩, n4, n5, n6⟩, ⟨⟨n7, n8⟩, n9, n10⟩, n11, n12, n13, n14⟩ : Season)) k1 k3 s
 have hr : regretR (⟨⟨⟨n0, n1⟩, ⟨n2, n3⟩, n4, n5, n6⟩, ⟨⟨n7, n8⟩, n9, n10⟩, n11, n12, n13, n14⟩ : Season) = ((allCourses (⟨⟨⟨n0, n1⟩, ⟨n2, n3⟩, n4, n5, n6⟩, ⟨⟨n7, n8⟩, n9, n10⟩, n11, n12, n13, n14⟩ : Season)).foldl (regretY (⟨⟨⟨n0, n1⟩, ⟨n2, n3⟩, n4, n5, n6⟩, ⟨⟨n7, n8⟩, n9, n10⟩, n11, n12, n13, n14⟩ : Season)) 0, 0) := by rw [regretR, if_pos c0]; rfl
 rw [hr]
 generalize allCourses (⟨⟨⟨n0, n1⟩, ⟨n2, n3⟩, n4, n5, n6⟩, ⟨⟨n7, n8⟩, n9, n10⟩, n11, n12, n13, n14⟩ : Season) = L at *
 simp (maxSteps := 1000000) (disch := first | omega | assumption | decide +kernel | (simp; done) | (simp; omega) | fail) [run_drawnK, hc, hM, hC, c0, key]
end Go.Proofs.YtekgicoibcgecaaGreat

/-
  Chapter 13: Best of the reference; Help of both.
-/
namespace Go.Proofs.YtekgicoibcgecaaGreat
open Go.Ab
theorem e_BestOf (n0 : Int) (n1 : Int) (n2 : Int) (n3 : Int) (n4 : List Sp) (n5 : List Anc) (n6 : List Wal) (n7 : Int) (n8 : Int) (n9 : List Sp) (n10 : List Boat) (n11 : List Sky) (n12 : List (List Int)) (n13 : List Int) (n14 : List Sp) (hs : ShortC (⟨⟨⟨n0, n1⟩, ⟨n2, n3⟩, n4, n5, n6⟩, ⟨⟨n7, n8⟩, n9, n10⟩, n11, n12, n13, n14⟩ : Season)) (hok : seasonOk (⟨⟨⟨n0, n1⟩, ⟨n2, n3⟩, n4, n5, n6⟩, ⟨⟨n7, n8⟩, n9, n10⟩, n11, n12, n13, n14⟩ : Season) = true) (lab s) : den T 80 [.agg [i64 n0, i64 n1, i64 n2, i64 n3, .sl .no 2 (es cSp n4), .sl .no 2 (es cAnc n5), .sl .no 5 (es cWal n6), i64 n7, i64 n8, .sl .no 2 (es cSp n9), .sl .no 2 (es cBoat n10), .sl .no 4 (es cSky n11), .sl .no 1 (es cInts n12), .sl .no 1 (es cInt n13), .sl .no 2 (es cSp n14)]] lab s = some (i64 (bestS (⟨⟨⟨n0, n1⟩, ⟨n2, n3⟩, n4, n5, n6⟩, ⟨⟨n7, n8⟩, n9, n10⟩, n11, n12, n13, n14⟩ : Season)), s) := by
 have hM := fun lab s => e_Mays n0 n1 n2 n3 n4 n5 n6 n7 n8 n9 n10 n11 n12 n13 n14 hs hok lab s
 obtain ⟨f1, f2⟩ := first_ok hok
 simp only at f1 f2
 have hw := fun lab s => e_worst13 n0 n1 n2 n3 n4 n5 n6 n7 n8 n9 n10 n11 n12 n13 n14 0 (worthS (⟨⟨⟨n0, n1⟩, ⟨n2, n3⟩, n4, n5, n6⟩, ⟨⟨n7, n8⟩, n9, n10⟩, n11, n12, n13, n14⟩ : Season) n14.length) n13 f1 (by have := hs.first; simp only at this; omega) (fun x hx => (worthS_range hok n14.length x (Nat.le_refl _) (f2 x hx).1 (f2 x hx).2).2)
  (fun x hx lab s => e_worth13r n0 n1 n2 n3 n4 n5 n6 n7 n8 n9 n10 n11 n12 n13 n14 hs hok n14.length 0 x (by omega) (f2 x hx).1 (f2 x hx).2 lab s) lab s
 change ∀ lab s, den T _ [_, _, i64 0, _] lab s = _ at hw
 have hr : bestS (⟨⟨⟨n0, n1⟩, ⟨n2, n3⟩, n4, n5, n6⟩, ⟨⟨n7, n8⟩, n9, n10⟩, n11, n12, n13, n14⟩ : Season) = leastL (worthS (⟨⟨⟨n0, n1⟩, ⟨n2, n3⟩, n4, n5, n6⟩, ⟨⟨n7, n8⟩, n9, n10⟩, n11, n12, n13, n14⟩ : Season) n14.length) n13 := rfl
 rw [hr]
 rw [den_fn t80 _ _ _ rfl]
 simp only [b80]
 simp (maxSteps := 1000000) (disch := first | omega | assumption | decide +kernel | (simp; done) | (simp; omega) | fail) [run_drawnK, hM, hw]
@[simp] theorem take_set_lenz {α : Type} (l : List α) (i : Nat) (x : α) : (l.set i x).take l.length = l.set i x := List.take_of_length_le (by simp)
theorem e_Heavier02z (n0 : Int) (n1 : Int) (n2 : Int) (n3 : Int) (n4 : List Sp) (n5 : List Anc) (n6 : List Wal) (h4 : n4.length < 8796093022208) (h5 : n5.length < 8796093022208) (h6 : n6.length < 3518437208884) (a : Nat) (ha : a < n5.length) (hw : IntKind.i64.wrap (n5[a].weight + 1) = n5[a].weight + 1) (lab) (s : Stk) :
 den T 118 [.agg [i64 n0, i64 n1, i64 n2, i64 n3, .sl .no 2 (es cSp n4), .sl .no 2 (es cAnc n5), .sl .no 5 (es cWal n6)], i64 a, i64 1] lab s = some (.agg [i64 n0, i64 n1, i64 n2, i64 n3, .sl .no 2 (es cSp n4), .sl .no 2 (es cAnc (n5.set a ⟨n5[a].weight + 1, n5[a].bottom⟩)), .sl .no 5 (es cWal n6)], s) := by
 have hc := fun lab loc s => e_Copy02 n0 n1 n2 n3 n4 n5 n6 h4 h5 h6 lab loc s
 have hset : (es cAnc n5).set a [i64 (n5[a].weight + 1), i64 n5[a].bottom] = es cAnc (n5.set a ⟨n5[a].weight + 1, n5[a].bottom⟩) := by simp [es, List.map_set]
 have ha2 : (a : Int) < n5.length := by omega
 rw [den_fn t118 _ _ _ rfl]
 simp only [b118]
 simp (maxSteps := 1000000) (disch := first | omega | assumption | decide +kernel | (simp; done) | (simp; omega) | fail) [hc, ha, ha2, hw, hset]
set_option maxHeartbeats 4000000 in
theorem e_Heavier13z (n0 : Int) (n1 : Int) (n2 : Int) (n3 : Int) (n4 : List Sp) (n5 : List Anc) (n6 : List Wal) (n7 : Int) (n8 : Int) (n9 : List Sp) (n10 : List Boat) (n11 : List Sky) (n12 : List (List Int)) (n13 : List Int) (n14 : List Sp) (hs : ShortC (⟨⟨⟨n0, n1⟩, ⟨n2, n3⟩, n4, n5, n6⟩, ⟨⟨n7, n8⟩, n9, n10⟩, n11, n12, n13, n14⟩ : Season)) (a : Nat) (ha : a < n5.length) (hw : IntKind.i64.wrap (n5[a].weight + 1) = n5[a].weight + 1) (lab) (s : Stk) :
 den T 81 [.agg [i64 n0, i64 n1, i64 n2, i64 n3, .sl .no 2 (es cSp n4), .sl .no 2 (es cAnc n5), .sl .no 5 (es cWal n6), i64 n7, i64 n8, .sl .no 2 (es cSp n9), .sl .no 2 (es cBoat n10), .sl .no 4 (es cSky n11), .sl .no 1 (es cInts n12), .sl .no 1 (es cInt n13), .sl .no 2 (es cSp n14)], i64 a] lab s = some (.agg [i64 n0, i64 n1, i64 n2, i64 n3, .sl .no 2 (es cSp n4), .sl .no 2 (es cAnc (n5.set a ⟨n5[a].weight + 1, n5[a].bottom⟩)), .sl .no 5 (es cWal n6), i64 n7, i64 n8, .sl .no 2 (es cSp n9), .sl .no 2 (es cBoat n10), .sl .no 4 (es cSky n11), .sl .no 1 (es cInts n12), .sl .no 1 (es cInt n13), .sl .no 2 (es cSp n14)], s) := by
 have h5 := hs.anch
 have h4 := hs.grips
 have h6 := hs.walls
 simp only at h4 h5 h6
 have hc := fun lab loc s => e_Copy13 n0 n1 n2 n3 n4 n5 n6 n7 n8 n9 n10 n11 n12 n13 n14 hs lab loc s
 have hh := fun lab s => e_Heavier02z n0 n1 n2 n3 n4 n5 n6 h4 h5 h6 a ha hw lab s
 rw [den_fn t81 _ _ _ rfl]
 simp only [b81]
 simp (maxSteps := 6000000) (disch := first | omega | assumption | decide +kernel | (simp; done) | (simp; omega) | fail) [run_drawnK, hc, copyCells, hh]
def heavierS (n : Season) (a : Nat) : Season := { n with net := { n.net with anch := n.net.anch.set a ⟨(n.net.anch.getD a default).weight + 1, (n.net.anch.getD a default).bottom⟩ } }
theorem heavierS_ok {n : Season} (hok : seasonOk n = true) {a : Nat} (ha : a < n.net.anch.length) (hw : n.net.anch[a].weight ≠ 20) : seasonOk (heavierS n a) = true ∧ 0 ≤ n.net.anch[a].weight ∧ n.net.anch[a].weight < 20 := by
 obtain ⟨h1, h2, h3, h4, h5, h6, h7, h8, h9⟩ := seasonOk_iff.1 hok
 obtain ⟨a1, a2, a3, a4, a5, a6, a7, a8⟩ := netOk_iff.1 h1
 have g := ancOk_iff.1 (allB_iff.1 a7 _ (List.getElem_mem ha))
 refine ⟨seasonOk_iff.2 ⟨netOk_iff.2 ⟨a1, a2, a3, by simpa [heavierS] using a4, by simpa [heavierS] using a5, a6, ?_, a8⟩, h2, h3, h4, h5, h6, h7, h8, h9⟩, by omega, by omega⟩
 refine allB_iff.2 fun x hx => ?_
 rcases List.mem_or_eq_of_mem_set hx with h | h
 ·exact allB_iff.1 a7 x h
 ·subst h
  have e : n.net.anch.getD a default = n.net.anch[a] := by simp [List.getD, ha]
  rw [e]
  exact ancOk_iff.2 ⟨by simp only; omega, g.2⟩
theorem heavierS_short {n : Season} (hs : ShortC n) (a : Nat) : ShortC (heavierS n a) := by
 obtain ⟨h1, h2, h3, h4, h5, h6, h7, h8, h9, h10⟩ := hs
 exact ⟨h1, by simpa [heavierS] using h2, h3, h4, h5, h6, h7, h8, h9, h10⟩
structure Hq where
 c : Nat
 w : Option Nat
 best : Int
def helpG (n : Season) (q : Hq) (k : Nat) : Hq := if (n.net.anch.getD k default).weight = 20 then q else ⟨q.c + 1, if q.best < bestS (heavierS n k) then some k else q.w, if q.best < bestS (heavierS n k) then bestS (heavierS n k) else q.best⟩
def helpQ (n : Season) : Hq := (List.range n.net.anch.length).foldl (helpG n) ⟨0, none, bestS n⟩
def helpA (q : Hq) : Int × Int := if q.c = 0 then (0, 2) else match q.w with
 | some k => ((k : Int), 0)
 | none => (0, 3)
def helpR (n : Season) : Int × Int := if seasonOk n = true then helpA (helpQ n) else (0, 130)
def atI : Option Nat → Int
 | some k => k
 | none => -1
def atZ : Option Nat → Int
 | some k => k
 | none => 0
@[simp] theorem atI_none : atI none = -1 := rfl
@[simp] theorem atI_some (k : Nat) : atI (some k) = k := rfl
@[simp] theorem atZ_none : atZ none = 0 := rfl
@[simp] theorem atZ_some (k : Nat) : atZ (some k) = k := rfl
theorem help_inv (n : Season) : ∀ (l : List Nat) (q : Hq) (b : Int), (b ≤ q.best) → (q.w = none ↔ q.best = b) → (b ≤ (l.foldl (helpG n) q).best) ∧ ((l.foldl (helpG n) q).w = none ↔ (l.foldl (helpG n) q).best = b)
 | [], q, b, h1, h2 => ⟨h1, h2⟩
 | k :: l, q, b, h1, h2 => by
   rw [List.foldl_cons]
   refine help_inv n l _ b ?_ ?_
   ·unfold helpG; split
    ·exact h1
    ·simp only; split <;> omega
   ·unfold helpG; split
    ·exact h2
    ·simp only
     split
     ·simp; omega
     ·exact h2
theorem bestS_range {n : Season} (hok : seasonOk n = true) : 0 ≤ bestS n ∧ bestS n ≤ 2000 := by
 obtain ⟨f1, f2⟩ := first_ok hok
 exact ⟨leastL_ge _ _ 2000 (fun x hx => (worthS_range hok n.days.length x (Nat.le_refl _) (f2 x hx).1 (f2 x hx).2).1) (by omega), leastL_le0 _ _ _⟩
theorem e_Clone7 (l : List Anc) (hne : l ≠ []) (hl : l.length < 8796093022208) (lab) (loc : Ab.Loc) (s : Stk) (k0 : loc.get lab = none) :
 den T 79 [.sl .no 2 (es cAnc l)] lab (loc :: s) = some (.asl s.length lab 2 l.length 0 l.length, loc.put lab (.arr 2 (es cAnc l)) :: s) := by
 have h0 : es cAnc l ≠ [] := by simpa using hne
 rw [den_fn t79 _ _ _ rfl]
 simp only [b79]
 simp (maxSteps := 1000000) (disch := first | omega | assumption | decide +kernel | (simp; done) | (simp; omega) | fail) [h0, appmK_es, k0]
set_option maxHeartbeats 4000000 in
theorem e_Help_l0 (n0 : Int) (n1 : Int) (n2 : Int) (n3 : Int) (n4 : List Sp) (n5 : List Anc) (n6 : List Wal) (n7 : Int) (n8 : Int) (n9 : List Sp) (n10 : List Boat) (n11 : List Sky) (n12 : List (List Int)) (n13 : List Int) (n14 : List Sp) (hs : ShortC (⟨⟨⟨n0, n1⟩, ⟨n2, n3⟩, n4, n5, n6⟩, ⟨⟨n7, n8⟩, n9, n10⟩, n11, n12, n13, n14⟩ : Season)) (hok : seasonOk (⟨⟨⟨n0, n1⟩, ⟨n2, n3⟩, n4, n5, n6⟩, ⟨⟨n7, n8⟩, n9, n10⟩, n11, n12, n13, n14⟩ : Season) = true) (s : Stk) :
 Run T b29l0 [(1, .ptr s.length 16 0), (4, i64 (bestS (⟨⟨⟨n0, n1⟩, ⟨n2, n3⟩, n4, n5, n6⟩, ⟨⟨n7, n8⟩, n9, n10⟩, n11, n12, n13, n14⟩ : Season))), (6, i64 (-1)), (7, i64 0), (23, .sl .no 2 (es cAnc n5)), (24, i64 n5.length), (25, i64 0)] ([(16, .cell [i64 n0, i64 n1, i64 n2, i64 n3, .sl .no 2 (es cSp n4), .sl .no 2 (es cAnc n5), .sl .no 5 (es cWal n6), i64 n7, i64 n8, .sl .no 2 (es cSp n9), .sl .no 2 (es cBoat n10), .sl .no 4 (es cSky n11), .sl .no 1 (es cInts n12), .sl .no 1 (es cInt n13), .sl .no 2 (es cSp n14)])] :: s) = some (.exit 0, [(1, .ptr s.length 16 0), (4, i64 (((List.range n5.length).foldl (helpG (⟨⟨⟨n0, n1⟩, ⟨n2, n3⟩, n4, n5, n6⟩, ⟨⟨n7, n8⟩, n9, n10⟩, n11, n12, n13, n14⟩ : Season)) ⟨0, none, bestS (⟨⟨⟨n0, n1⟩, ⟨n2, n3⟩, n4, n5, n6⟩, ⟨⟨n7, n8⟩, n9, n10⟩, n11, n12, n13, n14⟩ : Season)⟩)).best), (6, i64 (atI (((List.range n5.length).foldl (helpG (⟨⟨⟨n0, n1⟩, ⟨n2, n3⟩, n4, n5, n6⟩, ⟨⟨n7, n8⟩, n9, n10⟩, n11, n12, n13, n14⟩ : Season)) ⟨0, none, bestS (⟨⟨⟨n0, n1⟩, ⟨n2, n3⟩, n4, n5, n6⟩, ⟨⟨n7, n8⟩, n9, n10⟩, n11, n12, n13, n14⟩ : Season)⟩)).w)), (7, i64 ((((List.range n5.length).foldl (helpG (⟨⟨⟨n0, n1⟩, ⟨n2, n3⟩, n4, n5, n6⟩, ⟨⟨n7, n8⟩, n9, n10⟩, n11, n12, n13, n14⟩ : Season)) ⟨0, none, bestS (⟨⟨⟨n0, n1⟩, ⟨n2, n3⟩, n4, n5, n6⟩, ⟨⟨n7, n8⟩, n9, n10⟩, n11, n12, n13, n14⟩ : Season)⟩)).c : Nat)), (23, .sl .no 2 (es cAnc n5)), (24, i64 n5.length), (25, i64 n5.length), (26, .bool false)], [(16, .cell [i64 n0, i64 n1, i64 n2, i64 n3, .sl .no 2 (es cSp n4), .sl .no 2 (es cAnc n5), .sl .no 5 (es cWal n6), i64 n7, i64 n8, .sl .no 2 (es cSp n9), .sl .no 2 (es cBoat n10), .sl .no 4 (es cSky n11), .sl .no 1 (es cInts n12), .sl .no 1 (es cInt n13), .sl .no 2 (es cSp n14)])] :: s) := by
 have key := loop_fold (T := T) (live := [1, 4, 6, 7, 23, 24, 25]) (keep := [16, 240]) (b := d29l0) (List.range n5.length) (fun k (q : Hq) => q.c ≤ k) (helpG (⟨⟨⟨n0, n1⟩, ⟨n2, n3⟩, n4, n5, n6⟩, ⟨⟨n7, n8⟩, n9, n10⟩, n11, n12, n13, n14⟩ : Season)) (fun k (a : Hq) => [(1, .ptr s.length 16 0), (4, i64 (a).best), (6, i64 (atI (a).w)), (7, i64 ((a).c : Nat)), (23, .sl .no 2 (es cAnc n5)), (24, i64 n5.length), (25, i64 k)]) (fun k (a : Hq) => [(16, .cell [i64 n0, i64 n1, i64 n2, i64 n3, .sl .no 2 (es cSp n4), .sl .no 2 (es cAnc n5), .sl .no 5 (es cWal n6), i64 n7, i64 n8, .sl .no 2 (es cSp n9), .sl .no 2 (es cBoat n10), .sl .no 4 (es cSky n11), .sl .no 1 (es cInts n12), .sl .no 1 (es cInt n13), .sl .no 2 (es cSp n14)])] :: s) (fun (a : Hq) => (.exit 0, [(1, .ptr s.length 16 0), (4, i64 (a).best), (6, i64 (atI (a).w)), (7, i64 ((a).c : Nat)), (23, .sl .no 2 (es cAnc n5)), (24, i64 n5.length), (25, i64 n5.length), (26, .bool false)], [(16, .cell [i64 n0, i64 n1, i64 n2, i64 n3, .sl .no 2 (es cSp n4), .sl .no 2 (es cAnc n5), .sl .no 5 (es cWal n6), i64 n7, i64 n8, .sl .no 2 (es cSp n9), .sl .no 2 (es cBoat n10), .sl .no 4 (es cSky n11), .sl .no 1 (es cInts n12), .sl .no 1 (es cInt n13), .sl .no 2 (es cSp n14)])] :: s)) (by simp) ?_ ?_ ?_ ⟨0, none, bestS (⟨⟨⟨n0, n1⟩, ⟨n2, n3⟩, n4, n5, n6⟩, ⟨⟨n7, n8⟩, n9, n10⟩, n11, n12, n13, n14⟩ : Season)⟩ (by simp) [(1, .ptr s.length 16 0), (4, i64 (bestS (⟨⟨⟨n0, n1⟩, ⟨n2, n3⟩, n4, n5, n6⟩, ⟨⟨n7, n8⟩, n9, n10⟩, n11, n12, n13, n14⟩ : Season))), (6, i64 (-1)), (7, i64 0), (23, .sl .no 2 (es cAnc n5)), (24, i64 n5.length), (25, i64 0)] ([(16, .cell [i64 n0, i64 n1, i64 n2, i64 n3, .sl .no 2 (es cSp n4), .sl .no 2 (es cAnc n5), .sl .no 5 (es cWal n6), i64 n7, i64 n8, .sl .no 2 (es cSp n9), .sl .no 2 (es cBoat n10), .sl .no 4 (es cSky n11), .sl .no 1 (es cInts n12), .sl .no 1 (es cInt n13), .sl .no 2 (es cSp n14)])] :: s) (by simp) (by simp)
 ·exact key
 ·intro k a hk hi
  try simp only [List.length_range] at hk
  try simp only [List.getElem_range]
  have h5 := hs.anch
  simp only at h5
  have hgd : n5.getD k default = n5[k] := by simp [List.getD, hk]
  have hset : (es cAnc n5).set k [i64 (n5[k].weight + 1), i64 n5[k].bottom] = es cAnc (n5.set k ⟨n5[k].weight + 1, n5[k].bottom⟩) := by simp [es, List.map_set]
  have hk2 : (k : Int) < n5.length := by omega
  obtain ⟨c, w, b⟩ := a
  simp only at hi
  by_cases x0 : n5[k].weight = 20
  ·have e1 : helpG (⟨⟨⟨n0, n1⟩, ⟨n2, n3⟩, n4, n5, n6⟩, ⟨⟨n7, n8⟩, n9, n10⟩, n11, n12, n13, n14⟩ : Season) ⟨c, w, b⟩ k = ⟨c, w, b⟩ := by simp only [helpG, hgd, x0, if_true]
   rw [e1]
   simp (maxSteps := 6000000) (disch := first | omega | assumption | decide +kernel | (simp; done) | (simp; omega) | fail) [run_drawnK, hk, hk2, x0, wk k (by omega)]
  ·obtain ⟨p1, p2, p3⟩ := heavierS_ok hok (a := k) hk x0
   simp only at p2 p3
   have hne : n5 ≠ [] := by intro h; subst h; simp at hk
   have hcl := fun lab loc s => e_Clone7 n5 hne h5 lab loc s
   have hsh := (heavierS_short hs k).short
   have hv : heavierS (⟨⟨⟨n0, n1⟩, ⟨n2, n3⟩, n4, n5, n6⟩, ⟨⟨n7, n8⟩, n9, n10⟩, n11, n12, n13, n14⟩ : Season) k = ⟨⟨⟨n0, n1⟩, ⟨n2, n3⟩, n4, n5.set k ⟨n5[k].weight + 1, n5[k].bottom⟩, n6⟩, ⟨⟨n7, n8⟩, n9, n10⟩, n11, n12, n13, n14⟩ := by simp only [heavierS, hgd]
   have hbr := bestS_range p1
   have hB := fun lab s => e_Best n0 n1 n2 n3 n4 (n5.set k ⟨n5[k].weight + 1, n5[k].bottom⟩) n6 n7 n8 n9 n10 n11 n12 n13 n14 (hv ▸ hsh) lab s
   rw [← hv] at hB
   have hB1 : bestR (heavierS (⟨⟨⟨n0, n1⟩, ⟨n2, n3⟩, n4, n5, n6⟩, ⟨⟨n7, n8⟩, n9, n10⟩, n11, n12, n13, n14⟩ : Season) k) = (bestS (heavierS (⟨⟨⟨n0, n1⟩, ⟨n2, n3⟩, n4, n5, n6⟩, ⟨⟨n7, n8⟩, n9, n10⟩, n11, n12, n13, n14⟩ : Season) k), 0) := by rw [bestR, if_pos p1]
   simp only [hB1] at hB
   by_cases x1 : b < bestS (heavierS (⟨⟨⟨n0, n1⟩, ⟨n2, n3⟩, n4, n5, n6⟩, ⟨⟨n7, n8⟩, n9, n10⟩, n11, n12, n13, n14⟩ : Season) k)
   ·have e1 : helpG (⟨⟨⟨n0, n1⟩, ⟨n2, n3⟩, n4, n5, n6⟩, ⟨⟨n7, n8⟩, n9, n10⟩, n11, n12, n13, n14⟩ : Season) ⟨c, w, b⟩ k = ⟨c + 1, some k, bestS (heavierS (⟨⟨⟨n0, n1⟩, ⟨n2, n3⟩, n4, n5, n6⟩, ⟨⟨n7, n8⟩, n9, n10⟩, n11, n12, n13, n14⟩ : Season) k)⟩ := by simp only [helpG, hgd, x0, if_false, x1, if_true]
    rw [e1]
    simp (maxSteps := 6000000) (disch := first | omega | assumption | decide +kernel | (simp; done) | (simp; omega) | fail) [run_drawnK, hk, hk2, x0, x1, hcl, hset, hB, wi, wk k (by omega), wk c (by omega)]
   ·have e1 : helpG (⟨⟨⟨n0, n1⟩, ⟨n2, n3⟩, n4, n5, n6⟩, ⟨⟨n7, n8⟩, n9, n10⟩, n11, n12, n13, n14⟩ : Season) ⟨c, w, b⟩ k = ⟨c + 1, w, b⟩ := by simp only [helpG, hgd, x0, if_false, x1]
    rw [e1]
    simp (maxSteps := 6000000) (disch := first | omega | assumption | decide +kernel | (simp; done) | (simp; omega) | fail) [run_drawnK, hk, hk2, x0, x1, hcl, hset, hB, wi, wk k (by omega), wk c (by omega)]
 ·intro k a hk hi
  try simp only [List.length_range] at hk
  try simp only [List.getElem_range]
  unfold helpG
  split <;> (try simp only) <;> omega
 ·intro a hi
  simp
set_option maxHeartbeats 4000000 in
theorem e_Help13_l0 (n0 : Int) (n1 : Int) (n2 : Int) (n3 : Int) (n4 : List Sp) (n5 : List Anc) (n6 : List Wal) (n7 : Int) (n8 : Int) (n9 : List Sp) (n10 : List Boat) (n11 : List Sky) (n12 : List (List Int)) (n13 : List Int) (n14 : List Sp) (hs : ShortC (⟨⟨⟨n0, n1⟩, ⟨n2, n3⟩, n4, n5, n6⟩, ⟨⟨n7, n8⟩, n9, n10⟩, n11, n12, n13, n14⟩ : Season)) (hok : seasonOk (⟨⟨⟨n0, n1⟩, ⟨n2, n3⟩, n4, n5, n6⟩, ⟨⟨n7, n8⟩, n9, n10⟩, n11, n12, n13, n14⟩ : Season) = true) (s : Stk) :
 Run T b30l0 [(1, .ptr s.length 16 0), (5, .bool false), (6, i64 0), (7, i64 (bestS (⟨⟨⟨n0, n1⟩, ⟨n2, n3⟩, n4, n5, n6⟩, ⟨⟨n7, n8⟩, n9, n10⟩, n11, n12, n13, n14⟩ : Season))), (8, i64 (bestS (⟨⟨⟨n0, n1⟩, ⟨n2, n3⟩, n4, n5, n6⟩, ⟨⟨n7, n8⟩, n9, n10⟩, n11, n12, n13, n14⟩ : Season))), (9, i64 0)] ([(16, .cell [i64 n0, i64 n1, i64 n2, i64 n3, .sl .no 2 (es cSp n4), .sl .no 2 (es cAnc n5), .sl .no 5 (es cWal n6), i64 n7, i64 n8, .sl .no 2 (es cSp n9), .sl .no 2 (es cBoat n10), .sl .no 4 (es cSky n11), .sl .no 1 (es cInts n12), .sl .no 1 (es cInt n13), .sl .no 2 (es cSp n14)])] :: s) = some (.exit 0, [(1, .ptr s.length 16 0), (5, .bool (decide ((((List.range n5.length).foldl (helpG (⟨⟨⟨n0, n1⟩, ⟨n2, n3⟩, n4, n5, n6⟩, ⟨⟨n7, n8⟩, n9, n10⟩, n11, n12, n13, n14⟩ : Season)) ⟨0, none, bestS (⟨⟨⟨n0, n1⟩, ⟨n2, n3⟩, n4, n5, n6⟩, ⟨⟨n7, n8⟩, n9, n10⟩, n11, n12, n13, n14⟩ : Season)⟩)).c ≠ 0))), (6, i64 (atZ (((List.range n5.length).foldl (helpG (⟨⟨⟨n0, n1⟩, ⟨n2, n3⟩, n4, n5, n6⟩, ⟨⟨n7, n8⟩, n9, n10⟩, n11, n12, n13, n14⟩ : Season)) ⟨0, none, bestS (⟨⟨⟨n0, n1⟩, ⟨n2, n3⟩, n4, n5, n6⟩, ⟨⟨n7, n8⟩, n9, n10⟩, n11, n12, n13, n14⟩ : Season)⟩)).w)), (7, i64 (((List.range n5.length).foldl (helpG (⟨⟨⟨n0, n1⟩, ⟨n2, n3⟩, n4, n5, n6⟩, ⟨⟨n7, n8⟩, n9, n10⟩, n11, n12, n13, n14⟩ : Season)) ⟨0, none, bestS (⟨⟨⟨n0, n1⟩, ⟨n2, n3⟩, n4, n5, n6⟩, ⟨⟨n7, n8⟩, n9, n10⟩, n11, n12, n13, n14⟩ : Season)⟩)).best), (8, i64 (bestS (⟨⟨⟨n0, n1⟩, ⟨n2, n3⟩, n4, n5, n6⟩, ⟨⟨n7, n8⟩, n9, n10⟩, n11, n12, n13, n14⟩ : Season))), (9, i64 n5.length), (24, .bool false)], [(16, .cell [i64 n0, i64 n1, i64 n2, i64 n3, .sl .no 2 (es cSp n4), .sl .no 2 (es cAnc n5), .sl .no 5 (es cWal n6), i64 n7, i64 n8, .sl .no 2 (es cSp n9), .sl .no 2 (es cBoat n10), .sl .no 4 (es cSky n11), .sl .no 1 (es cInts n12), .sl .no 1 (es cInt n13), .sl .no 2 (es cSp n14)])] :: s) := by
 have key := loop_fold (T := T) (live := [1, 5, 6, 7, 8, 9]) (keep := [16, 192, 272]) (b := d30l0) (List.range n5.length) (fun _ _ => True) (helpG (⟨⟨⟨n0, n1⟩, ⟨n2, n3⟩, n4, n5, n6⟩, ⟨⟨n7, n8⟩, n9, n10⟩, n11, n12, n13, n14⟩ : Season)) (fun k (a : Hq) => [(1, .ptr s.length 16 0), (5, .bool (decide ((a).c ≠ 0))), (6, i64 (atZ (a).w)), (7, i64 (a).best), (8, i64 (bestS (⟨⟨⟨n0, n1⟩, ⟨n2, n3⟩, n4, n5, n6⟩, ⟨⟨n7, n8⟩, n9, n10⟩, n11, n12, n13, n14⟩ : Season))), (9, i64 k)]) (fun k (a : Hq) => [(16, .cell [i64 n0, i64 n1, i64 n2, i64 n3, .sl .no 2 (es cSp n4), .sl .no 2 (es cAnc n5), .sl .no 5 (es cWal n6), i64 n7, i64 n8, .sl .no 2 (es cSp n9), .sl .no 2 (es cBoat n10), .sl .no 4 (es cSky n11), .sl .no 1 (es cInts n12), .sl .no 1 (es cInt n13), .sl .no 2 (es cSp n14)])] :: s) (fun (a : Hq) => (.exit 0, [(1, .ptr s.length 16 0), (5, .bool (decide ((a).c ≠ 0))), (6, i64 (atZ (a).w)), (7, i64 (a).best), (8, i64 (bestS (⟨⟨⟨n0, n1⟩, ⟨n2, n3⟩, n4, n5, n6⟩, ⟨⟨n7, n8⟩, n9, n10⟩, n11, n12, n13, n14⟩ : Season))), (9, i64 n5.length), (24, .bool false)], [(16, .cell [i64 n0, i64 n1, i64 n2, i64 n3, .sl .no 2 (es cSp n4), .sl .no 2 (es cAnc n5), .sl .no 5 (es cWal n6), i64 n7, i64 n8, .sl .no 2 (es cSp n9), .sl .no 2 (es cBoat n10), .sl .no 4 (es cSky n11), .sl .no 1 (es cInts n12), .sl .no 1 (es cInt n13), .sl .no 2 (es cSp n14)])] :: s)) (by simp) ?_ ?_ ?_ ⟨0, none, bestS (⟨⟨⟨n0, n1⟩, ⟨n2, n3⟩, n4, n5, n6⟩, ⟨⟨n7, n8⟩, n9, n10⟩, n11, n12, n13, n14⟩ : Season)⟩ (by simp) [(1, .ptr s.length 16 0), (5, .bool false), (6, i64 0), (7, i64 (bestS (⟨⟨⟨n0, n1⟩, ⟨n2, n3⟩, n4, n5, n6⟩, ⟨⟨n7, n8⟩, n9, n10⟩, n11, n12, n13, n14⟩ : Season))), (8, i64 (bestS (⟨⟨⟨n0, n1⟩, ⟨n2, n3⟩, n4, n5, n6⟩, ⟨⟨n7, n8⟩, n9, n10⟩, n11, n12, n13, n14⟩ : Season))), (9, i64 0)] ([(16, .cell [i64 n0, i64 n1, i64 n2, i64 n3, .sl .no 2 (es cSp n4), .sl .no 2 (es cAnc n5), .sl .no 5 (es cWal n6), i64 n7, i64 n8, .sl .no 2 (es cSp n9), .sl .no 2 (es cBoat n10), .sl .no 4 (es cSky n11), .sl .no 1 (es cInts n12), .sl .no 1 (es cInt n13), .sl .no 2 (es cSp n14)])] :: s) (by simp) (by simp)
 ·exact key
 ·intro k a hk hi
  try simp only [List.length_range] at hk
  try simp only [List.getElem_range]
  have h5 := hs.anch
  simp only at h5
  have hgd : n5.getD k default = n5[k] := by simp [List.getD, hk]
  have hk2 : (k : Int) < n5.length := by omega
  obtain ⟨c, w, b⟩ := a
  by_cases x0 : n5[k].weight = 20
  ·have e1 : helpG (⟨⟨⟨n0, n1⟩, ⟨n2, n3⟩, n4, n5, n6⟩, ⟨⟨n7, n8⟩, n9, n10⟩, n11, n12, n13, n14⟩ : Season) ⟨c, w, b⟩ k = ⟨c, w, b⟩ := by simp only [helpG, hgd, x0, if_true]
   rw [e1]
   simp (maxSteps := 6000000) (disch := first | omega | assumption | decide +kernel | (simp; done) | (simp; omega) | fail) [run_drawnK, hk, hk2, x0, wk k (by omega)]
  ·obtain ⟨p1, p2, p3⟩ := heavierS_ok hok (a := k) hk x0
   simp only at p2 p3
   have hh := fun lab s => e_Heavier13z n0 n1 n2 n3 n4 n5 n6 n7 n8 n9 n10 n11 n12 n13 n14 hs k hk (wi _ (by omega) (by omega)) lab s
   have hsh := heavierS_short hs k
   have hv : heavierS (⟨⟨⟨n0, n1⟩, ⟨n2, n3⟩, n4, n5, n6⟩, ⟨⟨n7, n8⟩, n9, n10⟩, n11, n12, n13, n14⟩ : Season) k = ⟨⟨⟨n0, n1⟩, ⟨n2, n3⟩, n4, n5.set k ⟨n5[k].weight + 1, n5[k].bottom⟩, n6⟩, ⟨⟨n7, n8⟩, n9, n10⟩, n11, n12, n13, n14⟩ := by simp only [heavierS, hgd]
   have hB := fun lab s => e_BestOf n0 n1 n2 n3 n4 (n5.set k ⟨n5[k].weight + 1, n5[k].bottom⟩) n6 n7 n8 n9 n10 n11 n12 n13 n14 (hv ▸ hsh) (hv ▸ p1) lab s
   rw [← hv] at hB
   by_cases x1 : b < bestS (heavierS (⟨⟨⟨n0, n1⟩, ⟨n2, n3⟩, n4, n5, n6⟩, ⟨⟨n7, n8⟩, n9, n10⟩, n11, n12, n13, n14⟩ : Season) k)
   ·have e1 : helpG (⟨⟨⟨n0, n1⟩, ⟨n2, n3⟩, n4, n5, n6⟩, ⟨⟨n7, n8⟩, n9, n10⟩, n11, n12, n13, n14⟩ : Season) ⟨c, w, b⟩ k = ⟨c + 1, some k, bestS (heavierS (⟨⟨⟨n0, n1⟩, ⟨n2, n3⟩, n4, n5, n6⟩, ⟨⟨n7, n8⟩, n9, n10⟩, n11, n12, n13, n14⟩ : Season) k)⟩ := by simp only [helpG, hgd, x0, if_false, x1, if_true]
    rw [e1]
    simp (maxSteps := 6000000) (disch := first | omega | assumption | decide +kernel | (simp; done) | (simp; omega) | fail) [run_drawnK, hk, hk2, x0, x1, hh, hB, wk k (by omega)]
   ·have e1 : helpG (⟨⟨⟨n0, n1⟩, ⟨n2, n3⟩, n4, n5, n6⟩, ⟨⟨n7, n8⟩, n9, n10⟩, n11, n12, n13, n14⟩ : Season) ⟨c, w, b⟩ k = ⟨c + 1, w, b⟩ := by simp only [helpG, hgd, x0, if_false, x1]
    rw [e1]
    simp (maxSteps := 6000000) (disch := first | omega | assumption | decide +kernel | (simp; done) | (simp; omega) | fail) [run_drawnK, hk, hk2, x0, x1, hh, hB, wk k (by omega)]
 ·intro k a hk hi
  try simp only [List.length_range] at hk
  try simp only [List.getElem_range]
  try simp
 ·intro a hi
  simp
theorem e_Help (n0 : Int) (n1 : Int) (n2 : Int) (n3 : Int) (n4 : List Sp) (n5 : List Anc) (n6 : List Wal) (n7 : Int) (n8 : Int) (n9 : List Sp) (n10 : List Boat) (n11 : List Sky) (n12 : List (List Int)) (n13 : List Int) (n14 : List Sp) (hs : ShortC (⟨⟨⟨n0, n1⟩, ⟨n2, n3⟩, n4, n5, n6⟩, ⟨⟨n7, n8⟩, n9, n10⟩, n11, n12, n13, n14⟩ : Season)) (lab s) : den T 29 [.agg [i64 n0, i64 n1, i64 n2, i64 n3, .sl .no 2 (es cSp n4), .sl .no 2 (es cAnc n5), .sl .no 5 (es cWal n6), i64 n7, i64 n8, .sl .no 2 (es cSp n9), .sl .no 2 (es cBoat n10), .sl .no 4 (es cSky n11), .sl .no 1 (es cInts n12), .sl .no 1 (es cInt n13), .sl .no 2 (es cSp n14)]] lab s = some (.tup [i64 (helpR (⟨⟨⟨n0, n1⟩, ⟨n2, n3⟩, n4, n5, n6⟩, ⟨⟨n7, n8⟩, n9, n10⟩, n11, n12, n13, n14⟩ : Season)).1, i64 (helpR (⟨⟨⟨n0, n1⟩, ⟨n2, n3⟩, n4, n5, n6⟩, ⟨⟨n7, n8⟩, n9, n10⟩, n11, n12, n13, n14⟩ : Season)).2], s) := by
 have hs1 : Short (⟨⟨⟨n0, n1⟩, ⟨n2, n3⟩, n4, n5, n6⟩, ⟨⟨n7, n8⟩, n9, n10⟩, n11, n12, n13, n14⟩ : Season) := hs.short
 have hB := fun lab s => e_Best n0 n1 n2 n3 n4 n5 n6 n7 n8 n9 n10 n11 n12 n13 n14 hs1 lab s
 rw [den_fn t29 _ _ _ rfl]
 simp only [b29]
 cases c0 : seasonOk (⟨⟨⟨n0, n1⟩, ⟨n2, n3⟩, n4, n5, n6⟩, ⟨⟨n7, n8⟩, n9, n10⟩, n11, n12, n13, n14⟩ : Season)
 ·simp (maxSteps := 1000000) (disch := first | omega | assumption | decide +kernel | (simp; done) | (simp; omega) | fail) [hB, c0, bestR, helpR]
 have key := fun s => e_Help_l0 n0 n1 n2 n3 n4 n5 n6 n7 n8 n9 n10 n11 n12 n13 n14 hs c0 s
 have hB1 : bestR (⟨⟨⟨n0, n1⟩, ⟨n2, n3⟩, n4, n5, n6⟩, ⟨⟨n7, n8⟩, n9, n10⟩, n11, n12, n13, n14⟩ : Season) = (bestS (⟨⟨⟨n0, n1⟩, ⟨n2, n3⟩, n4, n5, n6⟩, ⟨⟨n7, n8⟩, n9, n10⟩, n11, n12, n13, n14⟩ : Season), 0) := by rw [bestR, if_pos c0]
 simp only [hB1] at hB
 change ∀ s : Stk, Run T _ _ _ = some (Ex.exit 0, [_, (4, i64 (helpQ (⟨⟨⟨n0, n1⟩, ⟨n2, n3⟩, n4, n5, n6⟩, ⟨⟨n7, n8⟩, n9, n10⟩, n11, n12, n13, n14⟩ : Season)).best), (6, i64 (atI (helpQ (⟨⟨⟨n0, n1⟩, ⟨n2, n3⟩, n4, n5, n6⟩, ⟨⟨n7, n8⟩, n9, n10⟩, n11, n12, n13, n14⟩ : Season)).w)), (7, i64 ((helpQ (⟨⟨⟨n0, n1⟩, ⟨n2, n3⟩, n4, n5, n6⟩, ⟨⟨n7, n8⟩, n9, n10⟩, n11, n12, n13, n14⟩ : Season)).c : Nat)), _, _, _, _], _) at key
 have hr : helpR (⟨⟨⟨n0, n1⟩, ⟨n2, n3⟩, n4, n5, n6⟩, ⟨⟨n7, n8⟩, n9, n10⟩, n11, n12, n13, n14⟩ : Season) = helpA (helpQ (⟨⟨⟨n0, n1⟩, ⟨n2, n3⟩, n4, n5, n6⟩, ⟨⟨n7, n8⟩, n9, n10⟩, n11, n12, n13, n14⟩ : Season)) := by rw [helpR, if_pos c0]
 rw [hr]
 generalize helpQ (⟨⟨⟨n0, n1⟩, ⟨n2, n3⟩, n4, n5, n6⟩, ⟨⟨n7, n8⟩, n9, n10⟩, n11, n12, n13, n14⟩ : Season) = q at key
 obtain ⟨c, w, b⟩ := q
 simp only at key
 by_cases x0 : c = 0
 ·subst x0
  simp (maxSteps := 1000000) (disch := first | omega | assumption | decide +kernel | (simp; done) | (simp; omega) | fail) [run_drawnK, hB, c0, key, helpA]
 ·have x1 : ¬ (c : Int) = 0 := by omega
  cases w with
  | none => simp (maxSteps := 1000000) (disch := first | omega | assumption | decide +kernel | (simp; done) | (simp; omega) | fail) [run_drawnK, hB, c0, key, x0, x1, helpA]
  | some k =>
    have x2 : ¬ (k : Int) < 0 := by omega
    simp (maxSteps := 1000000) (disch := first | omega | assumption | decide +kernel | (simp; done) | (simp; omega) | fail) [run_drawnK, hB, c0, key, x0, x1, x2, helpA]
theorem e_Help13 (n0 : Int) (n1 : Int) (n2 : Int) (n3 : Int) (n4 : List Sp) (n5 : List Anc) (n6 : List Wal) (n7 : Int) (n8 : Int) (n9 : List Sp) (n10 : List Boat) (n11 : List Sky) (n12 : List (List Int)) (n13 : List Int) (n14 : List Sp) (hs : ShortC (⟨⟨⟨n0, n1⟩, ⟨n2, n3⟩, n4, n5, n6⟩, ⟨⟨n7, n8⟩, n9, n10⟩, n11, n12, n13, n14⟩ : Season)) (lab s) : den T 30 [.agg [i64 n0, i64 n1, i64 n2, i64 n3, .sl .no 2 (es cSp n4), .sl .no 2 (es cAnc n5), .sl .no 5 (es cWal n6), i64 n7, i64 n8, .sl .no 2 (es cSp n9), .sl .no 2 (es cBoat n10), .sl .no 4 (es cSky n11), .sl .no 1 (es cInts n12), .sl .no 1 (es cInt n13), .sl .no 2 (es cSp n14)]] lab s = some (.tup [i64 (helpR (⟨⟨⟨n0, n1⟩, ⟨n2, n3⟩, n4, n5, n6⟩, ⟨⟨n7, n8⟩, n9, n10⟩, n11, n12, n13, n14⟩ : Season)).1, i64 (helpR (⟨⟨⟨n0, n1⟩, ⟨n2, n3⟩, n4, n5, n6⟩, ⟨⟨n7, n8⟩, n9, n10⟩, n11, n12, n13, n14⟩ : Season)).2], s) := by
 have hs1 : Short (⟨⟨⟨n0, n1⟩, ⟨n2, n3⟩, n4, n5, n6⟩, ⟨⟨n7, n8⟩, n9, n10⟩, n11, n12, n13, n14⟩ : Season) := hs.short
 have hc := fun lab s => e_Check13 n0 n1 n2 n3 n4 n5 n6 n7 n8 n9 n10 n11 n12 n13 n14 hs1.skies hs1.first hs1.days hs1.each lab s
 rw [den_fn t30 _ _ _ rfl]
 simp only [b30]
 cases c0 : seasonOk (⟨⟨⟨n0, n1⟩, ⟨n2, n3⟩, n4, n5, n6⟩, ⟨⟨n7, n8⟩, n9, n10⟩, n11, n12, n13, n14⟩ : Season)
 ·simp (maxSteps := 1000000) (disch := first | omega | assumption | decide +kernel | (simp; done) | (simp; omega) | fail) [hc, c0, helpR]
 have hB := fun lab s => e_BestOf n0 n1 n2 n3 n4 n5 n6 n7 n8 n9 n10 n11 n12 n13 n14 hs c0 lab s
 have key := fun s => e_Help13_l0 n0 n1 n2 n3 n4 n5 n6 n7 n8 n9 n10 n11 n12 n13 n14 hs c0 s
 change ∀ s : Stk, Run T _ _ _ = some (Ex.exit 0, [_, (5, .bool (decide ((helpQ (⟨⟨⟨n0, n1⟩, ⟨n2, n3⟩, n4, n5, n6⟩, ⟨⟨n7, n8⟩, n9, n10⟩, n11, n12, n13, n14⟩ : Season)).c ≠ 0))), (6, i64 (atZ (helpQ (⟨⟨⟨n0, n1⟩, ⟨n2, n3⟩, n4, n5, n6⟩, ⟨⟨n7, n8⟩, n9, n10⟩, n11, n12, n13, n14⟩ : Season)).w)), (7, i64 (helpQ (⟨⟨⟨n0, n1⟩, ⟨n2, n3⟩, n4, n5, n6⟩, ⟨⟨n7, n8⟩, n9, n10⟩, n11, n12, n13, n14⟩ : Season)).best), _, _, _], _) at key
 have hr : helpR (⟨⟨⟨n0, n1⟩, ⟨n2, n3⟩, n4, n5, n6⟩, ⟨⟨n7, n8⟩, n9, n10⟩, n11, n12, n13, n14⟩ : Season) = helpA (helpQ (⟨⟨⟨n0, n1⟩, ⟨n2, n3⟩, n4, n5, n6⟩, ⟨⟨n7, n8⟩, n9, n10⟩, n11, n12, n13, n14⟩ : Season)) := by rw [helpR, if_pos c0]
 rw [hr]
 obtain ⟨i1, i2⟩ := help_inv (⟨⟨⟨n0, n1⟩, ⟨n2, n3⟩, n4, n5, n6⟩, ⟨⟨n7, n8⟩, n9, n10⟩, n11, n12, n13, n14⟩ : Season) (List.range n5.length) ⟨0, none, bestS (⟨⟨⟨n0, n1⟩, ⟨n2, n3⟩, n4, n5, n6⟩, ⟨⟨n7, n8⟩, n9, n10⟩, n11, n12, n13, n14⟩ : Season)⟩ (bestS (⟨⟨⟨n0, n1⟩, ⟨n2, n3⟩, n4, n5, n6⟩, ⟨⟨n7, n8⟩, n9, n10⟩, n11, n12, n13, n14⟩ : Season)) (Int.le_refl _) (by simp)
 change ((helpQ (⟨⟨⟨n0, n1⟩, ⟨n2, n3⟩, n4, n5, n6⟩, ⟨⟨n7, n8⟩, n9, n10⟩, n11, n12, n13, n14⟩ : Season)).w = none ↔ (helpQ (⟨⟨⟨n0, n1⟩, ⟨n2, n3⟩, n4, n5, n6⟩, ⟨⟨n7, n8⟩, n9, n10⟩, n11, n12, n13, n14⟩ : Season)).best = bestS (⟨⟨⟨n0, n1⟩, ⟨n2, n3⟩, n4, n5, n6⟩, ⟨⟨n7, n8⟩, n9, n10⟩, n11, n12, n13, n14⟩ : Season)) at i2
 generalize helpQ (⟨⟨⟨n0, n1⟩, ⟨n2, n3⟩, n4, n5, n6⟩, ⟨⟨n7, n8⟩, n9, n10⟩, n11, n12, n13, n14⟩ : Season) = q at key i2
 obtain ⟨c, w, b⟩ := q
 simp only at key i2
 by_cases x0 : c = 0
 ·subst x0
  simp (maxSteps := 1000000) (disch := first | omega | assumption | decide +kernel | (simp; done) | (simp; omega) | fail) [run_drawnK, hc, hB, c0, key, helpA]
 ·cases w with
  | none =>
    have x2 : b = bestS (⟨⟨⟨n0, n1⟩, ⟨n2, n3⟩, n4, n5, n6⟩, ⟨⟨n7, n8⟩, n9, n10⟩, n11, n12, n13, n14⟩ : Season) := i2.1 rfl
    simp (maxSteps := 1000000) (disch := first | omega | assumption | decide +kernel | (simp; done) | (simp; omega) | fail) [run_drawnK, hc, hB, c0, key, x0, x2, helpA]
  | some k =>
    have x2 : ¬ b = bestS (⟨⟨⟨n0, n1⟩, ⟨n2, n3⟩, n4, n5, n6⟩, ⟨⟨n7, n8⟩, n9, n10⟩, n11, n12, n13, n14⟩ : Season) := fun h => by simpa using i2.2 h
    simp (maxSteps := 1000000) (disch := first | omega | assumption | decide +kernel | (simp; done) | (simp; omega) | fail) [run_drawnK, hc, hB, c0, key, x0, x2, helpA]
set_option maxHeartbeats 4000000 in
theorem e_SkiesOff (n0 : Int) (n1 : Int) (n2 : Int) (n3 : Int) (n4 : List Sp) (n5 : List Anc) (n6 : List Wal) (n7 : Int) (n8 : Int) (n9 : List Sp) (n10 : List Boat) (n11 : List Sky) (n12 : List (List Int)) (n13 : List Int) (n14 : List Sp) (hs : ShortC (⟨⟨⟨n0, n1⟩, ⟨n2, n3⟩, n4, n5, n6⟩, ⟨⟨n7, n8⟩, n9, n10⟩, n11, n12, n13, n14⟩ : Season)) (lab s) : den T 5 [.agg [i64 n0, i64 n1, i64 n2, i64 n3, .sl .no 2 (es cSp n4), .sl .no 2 (es cAnc n5), .sl .no 5 (es cWal n6), i64 n7, i64 n8, .sl .no 2 (es cSp n9), .sl .no 2 (es cBoat n10), .sl .no 4 (es cSky n11), .sl .no 1 (es cInts n12), .sl .no 1 (es cInt n13), .sl .no 2 (es cSp n14)]] lab s = some (.bool true, s) := by
 have hs1 : Short (⟨⟨⟨n0, n1⟩, ⟨n2, n3⟩, n4, n5, n6⟩, ⟨⟨n7, n8⟩, n9, n10⟩, n11, n12, n13, n14⟩ : Season) := hs.short
 have hfar := fun lab s => e_Far13 n0 n1 n2 n3 n4 n5 n6 n7 n8 n9 n10 n11 n12 n13 n14 hs1.skies hs1.follows hs1.first hs1.days hs1.each lab s
 have hx := e_works
 have hc := fun lab loc s => e_Copy13 n0 n1 n2 n3 n4 n5 n6 n7 n8 n9 n10 n11 n12 n13 n14 hs lab loc s
 have a1 := fun lab s => e_Off n0 n1 n2 n3 n4 n5 n6 n7 n8 n9 n10 n11 n12 n13 n14 hs1 lab s
 have a2 := fun lab s => e_Off13 n0 n1 n2 n3 n4 n5 n6 n7 n8 n9 n10 n11 n12 n13 n14 hs lab s
 have a3 := fun lab s => e_Regret n0 n1 n2 n3 n4 n5 n6 n7 n8 n9 n10 n11 n12 n13 n14 hs1 lab s
 have a4 := fun lab s => e_Regret13 n0 n1 n2 n3 n4 n5 n6 n7 n8 n9 n10 n11 n12 n13 n14 hs lab s
 have a5 := fun lab s => e_Help n0 n1 n2 n3 n4 n5 n6 n7 n8 n9 n10 n11 n12 n13 n14 hs lab s
 have a6 := fun lab s => e_Help13 n0 n1 n2 n3 n4 n5 n6 n7 n8 n9 n10 n11 n12 n13 n14 hs lab s
 have hsame := fun lab s => e_Same13 n0 n1 n2 n3 n4 n5 n6 n7 n8 n9 n10 n11 n12 n13 n14 hs lab s
 rw [den_fn t5 _ _ _ rfl]
 simp only [b5]
 cases c0 : farSeason (⟨⟨⟨n0, n1⟩, ⟨n2, n3⟩, n4, n5, n6⟩, ⟨⟨n7, n8⟩, n9, n10⟩, n11, n12, n13, n14⟩ : Season)
 ·simp (maxSteps := 6000000) (disch := first | omega | assumption | decide +kernel | (simp; done) | (simp; omega) | fail) [run_drawnK, hfar, c0, hx, hc, copyCells, a1, a2, a3, a4, a5, a6, hsame]
 ·simp (maxSteps := 6000000) (disch := first | omega | assumption | decide +kernel | (simp; done) | (simp; omega) | fail) [run_drawnK, hfar, c0, hx]
end Go.Proofs.YtekgicoibcgecaaGreat
