/-
  Chapter 13: worth, lift, brings, courses, Worst of the reference; Brings and Worst of the program.
-/
import Derived.Test.YtekgicoibcgecaaGreatEq4
set_option linter.unusedSimpArgs false
set_option linter.unusedVariables false
namespace Go.Proofs.YtekgicoibcgecaaGreat
open Go.Ab
theorem leastL_tail (f : Int → Int) (x : Int) (r : List Int) (h : f x ≤ 2000) : r.foldl (fun a y => min a (f y)) (f x) = leastL f (x :: r) := by
  rw [leastL, List.foldl_cons, show min 2000 (f x) = f x by omega]
theorem e_worst13_l (n0 : Int) (n1 : Int) (n2 : Int) (n3 : Int) (n4 : List Sp) (n5 : List Anc) (n6 : List Wal) (n7 : Int) (n8 : Int) (n9 : List Sp) (n10 : List Boat) (n11 : List Sky) (n12 : List (List Int)) (n13 : List Int) (n14 : List Sp) (day : Nat) (f : Int → Int) (l : List Int) (hl : l.length < 4611686018427387904) (hf : ∀ x, x ∈ l → ∀ lab s, den T 87 [.agg [i64 n0, i64 n1, i64 n2, i64 n3, .sl .no 2 (es cSp n4), .sl .no 2 (es cAnc n5), .sl .no 5 (es cWal n6), i64 n7, i64 n8, .sl .no 2 (es cSp n9), .sl .no 2 (es cBoat n10), .sl .no 4 (es cSky n11), .sl .no 1 (es cInts n12), .sl .no 1 (es cInt n13), .sl .no 2 (es cSp n14)], .sl .no 1 (es cBools (maysS (⟨⟨⟨n0, n1⟩, ⟨n2, n3⟩, n4, n5, n6⟩, ⟨⟨n7, n8⟩, n9, n10⟩, n11, n12, n13, n14⟩ : Season))), i64 day, i64 x] lab s = some (i64 (f x), s)) (x0 : Int) (s : Stk) :
    Run T b117l0 [(1, .sl .no 1 (es cBools (maysS (⟨⟨⟨n0, n1⟩, ⟨n2, n3⟩, n4, n5, n6⟩, ⟨⟨n7, n8⟩, n9, n10⟩, n11, n12, n13, n14⟩ : Season)))), (2, i64 day), (3, .sl .no 1 (es cInt l)), (4, .ptr s.length 64 0), (9, i64 x0), (10, i64 1)] ([(64, .cell [i64 n0, i64 n1, i64 n2, i64 n3, .sl .no 2 (es cSp n4), .sl .no 2 (es cAnc n5), .sl .no 5 (es cWal n6), i64 n7, i64 n8, .sl .no 2 (es cSp n9), .sl .no 2 (es cBoat n10), .sl .no 4 (es cSky n11), .sl .no 1 (es cInts n12), .sl .no 1 (es cInt n13), .sl .no 2 (es cSp n14)])] :: s) = some (.exit 0, [(1, .sl .no 1 (es cBools (maysS (⟨⟨⟨n0, n1⟩, ⟨n2, n3⟩, n4, n5, n6⟩, ⟨⟨n7, n8⟩, n9, n10⟩, n11, n12, n13, n14⟩ : Season)))), (2, i64 day), (3, .sl .no 1 (es cInt l)), (4, .ptr s.length 64 0), (9, i64 ((l.tail).foldl (fun (a : Int) (y : Int) => min a (f y)) x0)), (10, i64 (1 + (l.tail.length : Nat))), (21, .bool false)], [(64, .cell [i64 n0, i64 n1, i64 n2, i64 n3, .sl .no 2 (es cSp n4), .sl .no 2 (es cAnc n5), .sl .no 5 (es cWal n6), i64 n7, i64 n8, .sl .no 2 (es cSp n9), .sl .no 2 (es cBoat n10), .sl .no 4 (es cSky n11), .sl .no 1 (es cInts n12), .sl .no 1 (es cInt n13), .sl .no 2 (es cSp n14)])] :: s) := by
  have key := loop_fold (T := T) (live := [1, 2, 3, 4, 9, 10]) (keep := [64, 272]) (b := d117l0) (l.tail) (fun _ _ => True) (fun (a : Int) (y : Int) => min a (f y)) (fun k (a : Int) => [(1, .sl .no 1 (es cBools (maysS (⟨⟨⟨n0, n1⟩, ⟨n2, n3⟩, n4, n5, n6⟩, ⟨⟨n7, n8⟩, n9, n10⟩, n11, n12, n13, n14⟩ : Season)))), (2, i64 day), (3, .sl .no 1 (es cInt l)), (4, .ptr s.length 64 0), (9, i64 a), (10, i64 (1 + (k : Nat)))]) (fun k (a : Int) => [(64, .cell [i64 n0, i64 n1, i64 n2, i64 n3, .sl .no 2 (es cSp n4), .sl .no 2 (es cAnc n5), .sl .no 5 (es cWal n6), i64 n7, i64 n8, .sl .no 2 (es cSp n9), .sl .no 2 (es cBoat n10), .sl .no 4 (es cSky n11), .sl .no 1 (es cInts n12), .sl .no 1 (es cInt n13), .sl .no 2 (es cSp n14)])] :: s) (fun (a : Int) => (.exit 0, [(1, .sl .no 1 (es cBools (maysS (⟨⟨⟨n0, n1⟩, ⟨n2, n3⟩, n4, n5, n6⟩, ⟨⟨n7, n8⟩, n9, n10⟩, n11, n12, n13, n14⟩ : Season)))), (2, i64 day), (3, .sl .no 1 (es cInt l)), (4, .ptr s.length 64 0), (9, i64 a), (10, i64 (1 + (l.tail.length : Nat))), (21, .bool false)], [(64, .cell [i64 n0, i64 n1, i64 n2, i64 n3, .sl .no 2 (es cSp n4), .sl .no 2 (es cAnc n5), .sl .no 5 (es cWal n6), i64 n7, i64 n8, .sl .no 2 (es cSp n9), .sl .no 2 (es cBoat n10), .sl .no 4 (es cSky n11), .sl .no 1 (es cInts n12), .sl .no 1 (es cInt n13), .sl .no 2 (es cSp n14)])] :: s)) (by simp) ?_ ?_ ?_ x0 (by simp) [(1, .sl .no 1 (es cBools (maysS (⟨⟨⟨n0, n1⟩, ⟨n2, n3⟩, n4, n5, n6⟩, ⟨⟨n7, n8⟩, n9, n10⟩, n11, n12, n13, n14⟩ : Season)))), (2, i64 day), (3, .sl .no 1 (es cInt l)), (4, .ptr s.length 64 0), (9, i64 x0), (10, i64 1)] ([(64, .cell [i64 n0, i64 n1, i64 n2, i64 n3, .sl .no 2 (es cSp n4), .sl .no 2 (es cAnc n5), .sl .no 5 (es cWal n6), i64 n7, i64 n8, .sl .no 2 (es cSp n9), .sl .no 2 (es cBoat n10), .sl .no 4 (es cSky n11), .sl .no 1 (es cInts n12), .sl .no 1 (es cInt n13), .sl .no 2 (es cSp n14)])] :: s) (by simp) (by simp)
  · exact key
  · intro k a hk hi
    have hk0 : k + 1 < l.length := by simp at hk; omega
    have hn : (1 + (k : Int)).toNat = k + 1 := by omega
    have h0 : (0 : Int) ≤ 1 + k := by omega
    have hlt : 1 + (k : Int) < l.length := by omega
    have hw : IntKind.i64.wrap (1 + (k : Int) + 1) = 1 + ((k : Int) + 1) := by rw [wi _ (by omega) (by omega)]; omega
    have ht : l.tail[k] = l[k + 1] := by simp
    rw [ht]
    have h1 := hf l[k + 1] (List.getElem_mem hk0)
    simp (maxSteps := 1000000) (disch := first | omega | assumption | decide +kernel | (simp; done) | (simp; omega) | fail) [run_drawnK, hk0, hn, h0, hlt, hw, h1]
  · intro k a hk hi
    try simp
  · intro a hi
    have hlt : ¬ 1 + ((l.length - 1 : Nat) : Int) < l.length := by omega
    simp (maxSteps := 1000000) (disch := first | omega | assumption | decide +kernel | (simp; done) | (simp; omega) | fail) [hlt]
theorem e_worst13 (n0 : Int) (n1 : Int) (n2 : Int) (n3 : Int) (n4 : List Sp) (n5 : List Anc) (n6 : List Wal) (n7 : Int) (n8 : Int) (n9 : List Sp) (n10 : List Boat) (n11 : List Sky) (n12 : List (List Int)) (n13 : List Int) (n14 : List Sp) (day : Nat) (f : Int → Int) (l : List Int) (hne : l ≠ []) (hl : l.length < 4611686018427387904) (h2 : ∀ x ∈ l, f x ≤ 2000) (hf : ∀ x, x ∈ l → ∀ lab s, den T 87 [.agg [i64 n0, i64 n1, i64 n2, i64 n3, .sl .no 2 (es cSp n4), .sl .no 2 (es cAnc n5), .sl .no 5 (es cWal n6), i64 n7, i64 n8, .sl .no 2 (es cSp n9), .sl .no 2 (es cBoat n10), .sl .no 4 (es cSky n11), .sl .no 1 (es cInts n12), .sl .no 1 (es cInt n13), .sl .no 2 (es cSp n14)], .sl .no 1 (es cBools (maysS (⟨⟨⟨n0, n1⟩, ⟨n2, n3⟩, n4, n5, n6⟩, ⟨⟨n7, n8⟩, n9, n10⟩, n11, n12, n13, n14⟩ : Season))), i64 day, i64 x] lab s = some (i64 (f x), s)) (lab s) :
    den T 117 [.agg [i64 n0, i64 n1, i64 n2, i64 n3, .sl .no 2 (es cSp n4), .sl .no 2 (es cAnc n5), .sl .no 5 (es cWal n6), i64 n7, i64 n8, .sl .no 2 (es cSp n9), .sl .no 2 (es cBoat n10), .sl .no 4 (es cSky n11), .sl .no 1 (es cInts n12), .sl .no 1 (es cInt n13), .sl .no 2 (es cSp n14)], .sl .no 1 (es cBools (maysS (⟨⟨⟨n0, n1⟩, ⟨n2, n3⟩, n4, n5, n6⟩, ⟨⟨n7, n8⟩, n9, n10⟩, n11, n12, n13, n14⟩ : Season))), i64 day, .sl .no 1 (es cInt l)] lab s = some (i64 (leastL f l), s) := by
  obtain ⟨x, r, rfl⟩ : ∃ x r, l = x :: r := by cases l with
    | nil => exact absurd rfl hne
    | cons x r => exact ⟨x, r, rfl⟩
  have key := e_worst13_l n0 n1 n2 n3 n4 n5 n6 n7 n8 n9 n10 n11 n12 n13 n14 day f (x :: r) hl hf (f x) s
  rw [List.tail_cons, leastL_tail f x r (h2 x (by simp))] at key
  have h1 := hf x (by simp)
  rw [den_fn t117 _ _ _ rfl]
  simp only [b117]
  simp (maxSteps := 1000000) (disch := first | omega | assumption | decide +kernel | (simp; done) | (simp; omega) | fail) [run_drawnK, h1, key]
theorem e_worth13r (n0 : Int) (n1 : Int) (n2 : Int) (n3 : Int) (n4 : List Sp) (n5 : List Anc) (n6 : List Wal) (n7 : Int) (n8 : Int) (n9 : List Sp) (n10 : List Boat) (n11 : List Sky) (n12 : List (List Int)) (n13 : List Int) (n14 : List Sp) (hs : ShortC (⟨⟨⟨n0, n1⟩, ⟨n2, n3⟩, n4, n5, n6⟩, ⟨⟨n7, n8⟩, n9, n10⟩, n11, n12, n13, n14⟩ : Season)) (hok : seasonOk (⟨⟨⟨n0, n1⟩, ⟨n2, n3⟩, n4, n5, n6⟩, ⟨⟨n7, n8⟩, n9, n10⟩, n11, n12, n13, n14⟩ : Season) = true) : ∀ (r day : Nat) (sky : Int), day + r = n14.length → 0 ≤ sky → sky < (n11.length : Int) → ∀ (lab s),
    den T 87 [.agg [i64 n0, i64 n1, i64 n2, i64 n3, .sl .no 2 (es cSp n4), .sl .no 2 (es cAnc n5), .sl .no 5 (es cWal n6), i64 n7, i64 n8, .sl .no 2 (es cSp n9), .sl .no 2 (es cBoat n10), .sl .no 4 (es cSky n11), .sl .no 1 (es cInts n12), .sl .no 1 (es cInt n13), .sl .no 2 (es cSp n14)], .sl .no 1 (es cBools (maysS (⟨⟨⟨n0, n1⟩, ⟨n2, n3⟩, n4, n5, n6⟩, ⟨⟨n7, n8⟩, n9, n10⟩, n11, n12, n13, n14⟩ : Season))), i64 day, i64 sky] lab s = some (i64 (worthS (⟨⟨⟨n0, n1⟩, ⟨n2, n3⟩, n4, n5, n6⟩, ⟨⟨n7, n8⟩, n9, n10⟩, n11, n12, n13, n14⟩ : Season) r sky), s) := by
  obtain ⟨_, _, q3, q4, q5, _, q7, _, _⟩ := seasonOk_iff.1 hok
  simp only at q3 q4 q5 q7
  intro r
  induction r with
  | zero =>
    intro day sky hday h0 h1 lab s
    have hdd : (day : Int) = n14.length := by omega
    rw [den_fn t87 _ _ _ rfl]
    simp only [b87]
    simp (maxSteps := 1000000) (disch := first | omega | assumption | decide +kernel | (simp; done) | (simp; omega) | fail) [hdd, worthS]
  | succ r ih =>
    intro day sky hday h0 h1 lab s
    have hdd : ¬ (day : Int) = n14.length := by omega
    have hk : sky.toNat < n11.length := by omega
    obtain ⟨hk2, hne, hf⟩ := follows_ok hok (k := sky.toNat) hk
    simp only at hk2 hne hf
    have hl := fun lab s => e_worst13 n0 n1 n2 n3 n4 n5 n6 n7 n8 n9 n10 n11 n12 n13 n14 (day + 1) (worthS (⟨⟨⟨n0, n1⟩, ⟨n2, n3⟩, n4, n5, n6⟩, ⟨⟨n7, n8⟩, n9, n10⟩, n11, n12, n13, n14⟩ : Season) r) n12[sky.toNat] hne (by have := hs.short.each _ (List.getElem_mem hk2); simpa using this) (fun x hx => (worthS_range hok r x (by simp only; omega) (hf x hx).1 (hf x hx).2).2) (fun x hx lab s => ih (day + 1) x (by omega) (hf x hx).1 (hf x hx).2 lab s) lab s
    have hc : ((day + 1 : Nat) : Int) = (day : Int) + 1 := rfl
    rw [hc] at hl
    have hdk : day < n14.length := by omega
    obtain ⟨m1, m2, m3⟩ := maysS_get (n := (⟨⟨⟨n0, n1⟩, ⟨n2, n3⟩, n4, n5, n6⟩, ⟨⟨n7, n8⟩, n9, n10⟩, n11, n12, n13, n14⟩ : Season)) hdk hk
    have hrem : n14.length - (r + 1) = day := by omega
    have hlo : dayLo (⟨⟨⟨n0, n1⟩, ⟨n2, n3⟩, n4, n5, n6⟩, ⟨⟨n7, n8⟩, n9, n10⟩, n11, n12, n13, n14⟩ : Season) day = n14[day].lo := by simp [dayLo, hdk]
    have hfo : n12.getD sky.toNat [] = n12[sky.toNat] := by simp [List.getD, hk2]
    have hwv : worthS (⟨⟨⟨n0, n1⟩, ⟨n2, n3⟩, n4, n5, n6⟩, ⟨⟨n7, n8⟩, n9, n10⟩, n11, n12, n13, n14⟩ : Season) (r + 1) sky = if mayS (⟨⟨⟨n0, n1⟩, ⟨n2, n3⟩, n4, n5, n6⟩, ⟨⟨n7, n8⟩, n9, n10⟩, n11, n12, n13, n14⟩ : Season) day sky.toNat = true then max (leastL (worthS (⟨⟨⟨n0, n1⟩, ⟨n2, n3⟩, n4, n5, n6⟩, ⟨⟨n7, n8⟩, n9, n10⟩, n11, n12, n13, n14⟩ : Season) r) n12[sky.toNat]) n14[day].lo else leastL (worthS (⟨⟨⟨n0, n1⟩, ⟨n2, n3⟩, n4, n5, n6⟩, ⟨⟨n7, n8⟩, n9, n10⟩, n11, n12, n13, n14⟩ : Season) r) n12[sky.toNat] := by
      simp only [worthS, hrem, hlo, hfo]
    rw [hwv]
    rw [den_fn t87 _ _ _ rfl]
    simp only [b87]
    cases c0 : mayS (⟨⟨⟨n0, n1⟩, ⟨n2, n3⟩, n4, n5, n6⟩, ⟨⟨n7, n8⟩, n9, n10⟩, n11, n12, n13, n14⟩ : Season) day sky.toNat
    · rw [c0] at m3
      simp (maxSteps := 1000000) (disch := first | omega | assumption | decide +kernel | (simp; done) | (simp; omega) | fail) [run_drawnK, hdd, hk2, h0, hl, m1, m2, m3, wk day (by omega)]
    · rw [c0] at m3
      simp (maxSteps := 1000000) (disch := first | omega | assumption | decide +kernel | (simp; done) | (simp; omega) | fail) [run_drawnK, hdd, hk2, h0, hdk, hl, m1, m2, m3, wk day (by omega)]
theorem e_lift13r (n0 : Int) (n1 : Int) (n2 : Int) (n3 : Int) (n4 : List Sp) (n5 : List Anc) (n6 : List Wal) (n7 : Int) (n8 : Int) (n9 : List Sp) (n10 : List Boat) (n11 : List Sky) (n12 : List (List Int)) (n13 : List Int) (n14 : List Sp) (hs : ShortC (⟨⟨⟨n0, n1⟩, ⟨n2, n3⟩, n4, n5, n6⟩, ⟨⟨n7, n8⟩, n9, n10⟩, n11, n12, n13, n14⟩ : Season)) (hok : seasonOk (⟨⟨⟨n0, n1⟩, ⟨n2, n3⟩, n4, n5, n6⟩, ⟨⟨n7, n8⟩, n9, n10⟩, n11, n12, n13, n14⟩ : Season) = true) (day : Nat) (hday : day < n14.length) (sky : Int) (h0 : 0 ≤ sky) (h1 : sky < (n11.length : Int)) (lab s) :
    den T 90 [.agg [i64 n0, i64 n1, i64 n2, i64 n3, .sl .no 2 (es cSp n4), .sl .no 2 (es cAnc n5), .sl .no 5 (es cWal n6), i64 n7, i64 n8, .sl .no 2 (es cSp n9), .sl .no 2 (es cBoat n10), .sl .no 4 (es cSky n11), .sl .no 1 (es cInts n12), .sl .no 1 (es cInt n13), .sl .no 2 (es cSp n14)], .sl .no 1 (es cBools (maysS (⟨⟨⟨n0, n1⟩, ⟨n2, n3⟩, n4, n5, n6⟩, ⟨⟨n7, n8⟩, n9, n10⟩, n11, n12, n13, n14⟩ : Season))), i64 day, i64 sky] lab s = some (.bool (liftS (⟨⟨⟨n0, n1⟩, ⟨n2, n3⟩, n4, n5, n6⟩, ⟨⟨n7, n8⟩, n9, n10⟩, n11, n12, n13, n14⟩ : Season) day sky), s) := by
  have hk : sky.toNat < n11.length := by omega
  obtain ⟨m1, m2, m3⟩ := maysS_get (n := (⟨⟨⟨n0, n1⟩, ⟨n2, n3⟩, n4, n5, n6⟩, ⟨⟨n7, n8⟩, n9, n10⟩, n11, n12, n13, n14⟩ : Season)) hday hk
  have hw := fun lab s => e_worth13r n0 n1 n2 n3 n4 n5 n6 n7 n8 n9 n10 n11 n12 n13 n14 hs hok (n14.length - day) day sky (by omega) h0 h1 lab s
  have hlo : dayLo (⟨⟨⟨n0, n1⟩, ⟨n2, n3⟩, n4, n5, n6⟩, ⟨⟨n7, n8⟩, n9, n10⟩, n11, n12, n13, n14⟩ : Season) day = n14[day].lo := by simp [dayLo, hday]
  rw [den_fn t90 _ _ _ rfl]
  simp only [b90]
  cases c0 : mayS (⟨⟨⟨n0, n1⟩, ⟨n2, n3⟩, n4, n5, n6⟩, ⟨⟨n7, n8⟩, n9, n10⟩, n11, n12, n13, n14⟩ : Season) day sky.toNat
  · rw [c0] at m3
    simp (maxSteps := 1000000) (disch := first | omega | assumption | decide +kernel | (simp; done) | (simp; omega) | fail) [run_drawnK, h0, m1, m2, m3, c0, liftS]
  · rw [c0] at m3
    simp (maxSteps := 1000000) (disch := first | omega | assumption | decide +kernel | (simp; done) | (simp; omega) | fail) [run_drawnK, h0, hday, m1, m2, m3, hw, c0, liftS, hlo, ge_iff_le]
set_option maxHeartbeats 1000000 in
theorem e_brings13r (n0 : Int) (n1 : Int) (n2 : Int) (n3 : Int) (n4 : List Sp) (n5 : List Anc) (n6 : List Wal) (n7 : Int) (n8 : Int) (n9 : List Sp) (n10 : List Boat) (n11 : List Sky) (n12 : List (List Int)) (n13 : List Int) (n14 : List Sp) (hs : ShortC (⟨⟨⟨n0, n1⟩, ⟨n2, n3⟩, n4, n5, n6⟩, ⟨⟨n7, n8⟩, n9, n10⟩, n11, n12, n13, n14⟩ : Season)) (hok : seasonOk (⟨⟨⟨n0, n1⟩, ⟨n2, n3⟩, n4, n5, n6⟩, ⟨⟨n7, n8⟩, n9, n10⟩, n11, n12, n13, n14⟩ : Season) = true) (c : List Int) (hc : ∀ x : Int, x ∈ c → 0 ≤ x ∧ x < (n11.length : Int)) (hcl : c.length ≤ n14.length) (lab s) :
    den T 76 [.agg [i64 n0, i64 n1, i64 n2, i64 n3, .sl .no 2 (es cSp n4), .sl .no 2 (es cAnc n5), .sl .no 5 (es cWal n6), i64 n7, i64 n8, .sl .no 2 (es cSp n9), .sl .no 2 (es cBoat n10), .sl .no 4 (es cSky n11), .sl .no 1 (es cInts n12), .sl .no 1 (es cInt n13), .sl .no 2 (es cSp n14)], .sl .no 1 (es cBools (maysS (⟨⟨⟨n0, n1⟩, ⟨n2, n3⟩, n4, n5, n6⟩, ⟨⟨n7, n8⟩, n9, n10⟩, n11, n12, n13, n14⟩ : Season))), .sl .no 1 (es cInt c)] lab s = some (i64 (bringsS (⟨⟨⟨n0, n1⟩, ⟨n2, n3⟩, n4, n5, n6⟩, ⟨⟨n7, n8⟩, n9, n10⟩, n11, n12, n13, n14⟩ : Season) c), s) := by
  obtain ⟨_, _, q3, q4, q5, _, q7, _, _⟩ := seasonOk_iff.1 hok
  simp only at q7
  have key := loop_list (T := T) (live := [1, 2, 3, 7]) (keep := [48]) (b := d76l0) c (fun k (j : Nat) => j = k)
    (fun k _ => [(1, .sl .no 1 (es cBools (maysS (⟨⟨⟨n0, n1⟩, ⟨n2, n3⟩, n4, n5, n6⟩, ⟨⟨n7, n8⟩, n9, n10⟩, n11, n12, n13, n14⟩ : Season)))), (2, .sl .no 1 (es cInt c)), (3, .ptr s.length 48 0), (7, i64 k)]) (fun _ _ => [(48, .cell [i64 n0, i64 n1, i64 n2, i64 n3, .sl .no 2 (es cSp n4), .sl .no 2 (es cAnc n5), .sl .no 5 (es cWal n6), i64 n7, i64 n8, .sl .no 2 (es cSp n9), .sl .no 2 (es cBoat n10), .sl .no 4 (es cSky n11), .sl .no 1 (es cInts n12), .sl .no 1 (es cInt n13), .sl .no 2 (es cSp n14)])] :: s)
    (fun j x => if liftS (⟨⟨⟨n0, n1⟩, ⟨n2, n3⟩, n4, n5, n6⟩, ⟨⟨n7, n8⟩, n9, n10⟩, n11, n12, n13, n14⟩ : Season) j x = true then .inr (.ret, [(6, i64 (dayLo (⟨⟨⟨n0, n1⟩, ⟨n2, n3⟩, n4, n5, n6⟩, ⟨⟨n7, n8⟩, n9, n10⟩, n11, n12, n13, n14⟩ : Season) j))], [(48, .cell [i64 n0, i64 n1, i64 n2, i64 n3, .sl .no 2 (es cSp n4), .sl .no 2 (es cAnc n5), .sl .no 5 (es cWal n6), i64 n7, i64 n8, .sl .no 2 (es cSp n9), .sl .no 2 (es cBoat n10), .sl .no 4 (es cSky n11), .sl .no 1 (es cInts n12), .sl .no 1 (es cInt n13), .sl .no 2 (es cSp n14)])] :: s) else .inl (j + 1))
    (fun _ => (.exit 0, [(1, .sl .no 1 (es cBools (maysS (⟨⟨⟨n0, n1⟩, ⟨n2, n3⟩, n4, n5, n6⟩, ⟨⟨n7, n8⟩, n9, n10⟩, n11, n12, n13, n14⟩ : Season)))), (2, .sl .no 1 (es cInt c)), (3, .ptr s.length 48 0), (7, i64 c.length), (11, .bool false)], [(48, .cell [i64 n0, i64 n1, i64 n2, i64 n3, .sl .no 2 (es cSp n4), .sl .no 2 (es cAnc n5), .sl .no 5 (es cWal n6), i64 n7, i64 n8, .sl .no 2 (es cSp n9), .sl .no 2 (es cBoat n10), .sl .no 4 (es cSky n11), .sl .no 1 (es cInts n12), .sl .no 1 (es cInt n13), .sl .no 2 (es cSp n14)])] :: s))
    ?_ (fun k j j' hk hj h => by split at h <;> simp_all) (fun k j q hk hj h => by split at h <;> simp_all; rw [← h]; simp) ?_ (by simp) 0 rfl
    [(1, .sl .no 1 (es cBools (maysS (⟨⟨⟨n0, n1⟩, ⟨n2, n3⟩, n4, n5, n6⟩, ⟨⟨n7, n8⟩, n9, n10⟩, n11, n12, n13, n14⟩ : Season)))), (2, .sl .no 1 (es cInt c)), (3, .ptr s.length 48 0), (7, i64 0)] ([(48, .cell [i64 n0, i64 n1, i64 n2, i64 n3, .sl .no 2 (es cSp n4), .sl .no 2 (es cAnc n5), .sl .no 5 (es cWal n6), i64 n7, i64 n8, .sl .no 2 (es cSp n9), .sl .no 2 (es cBoat n10), .sl .no 4 (es cSky n11), .sl .no 1 (es cInts n12), .sl .no 1 (es cInt n13), .sl .no 2 (es cSp n14)])] :: s) (by simp) (by simp)
  · have e : ∀ (l' : List Int) (j : Nat), foldS (fun j (x : Int) => if liftS (⟨⟨⟨n0, n1⟩, ⟨n2, n3⟩, n4, n5, n6⟩, ⟨⟨n7, n8⟩, n9, n10⟩, n11, n12, n13, n14⟩ : Season) j x = true then (.inr (.ret, [(6, i64 (dayLo (⟨⟨⟨n0, n1⟩, ⟨n2, n3⟩, n4, n5, n6⟩, ⟨⟨n7, n8⟩, n9, n10⟩, n11, n12, n13, n14⟩ : Season) j))], [(48, .cell [i64 n0, i64 n1, i64 n2, i64 n3, .sl .no 2 (es cSp n4), .sl .no 2 (es cAnc n5), .sl .no 5 (es cWal n6), i64 n7, i64 n8, .sl .no 2 (es cSp n9), .sl .no 2 (es cBoat n10), .sl .no 4 (es cSky n11), .sl .no 1 (es cInts n12), .sl .no 1 (es cInt n13), .sl .no 2 (es cSp n14)])] :: s) : Nat ⊕ (Ex × Env × Stk)) else .inl (j + 1))
        (fun _ => (.exit 0, [(1, .sl .no 1 (es cBools (maysS (⟨⟨⟨n0, n1⟩, ⟨n2, n3⟩, n4, n5, n6⟩, ⟨⟨n7, n8⟩, n9, n10⟩, n11, n12, n13, n14⟩ : Season)))), (2, .sl .no 1 (es cInt c)), (3, .ptr s.length 48 0), (7, i64 c.length), (11, .bool false)], [(48, .cell [i64 n0, i64 n1, i64 n2, i64 n3, .sl .no 2 (es cSp n4), .sl .no 2 (es cAnc n5), .sl .no 5 (es cWal n6), i64 n7, i64 n8, .sl .no 2 (es cSp n9), .sl .no 2 (es cBoat n10), .sl .no 4 (es cSky n11), .sl .no 1 (es cInts n12), .sl .no 1 (es cInt n13), .sl .no 2 (es cSp n14)])] :: s)) l' j =
        match firstLift (⟨⟨⟨n0, n1⟩, ⟨n2, n3⟩, n4, n5, n6⟩, ⟨⟨n7, n8⟩, n9, n10⟩, n11, n12, n13, n14⟩ : Season) j l' with
        | some k => (.ret, [(6, i64 (dayLo (⟨⟨⟨n0, n1⟩, ⟨n2, n3⟩, n4, n5, n6⟩, ⟨⟨n7, n8⟩, n9, n10⟩, n11, n12, n13, n14⟩ : Season) k))], [(48, .cell [i64 n0, i64 n1, i64 n2, i64 n3, .sl .no 2 (es cSp n4), .sl .no 2 (es cAnc n5), .sl .no 5 (es cWal n6), i64 n7, i64 n8, .sl .no 2 (es cSp n9), .sl .no 2 (es cBoat n10), .sl .no 4 (es cSky n11), .sl .no 1 (es cInts n12), .sl .no 1 (es cInt n13), .sl .no 2 (es cSp n14)])] :: s)
        | none => (.exit 0, [(1, .sl .no 1 (es cBools (maysS (⟨⟨⟨n0, n1⟩, ⟨n2, n3⟩, n4, n5, n6⟩, ⟨⟨n7, n8⟩, n9, n10⟩, n11, n12, n13, n14⟩ : Season)))), (2, .sl .no 1 (es cInt c)), (3, .ptr s.length 48 0), (7, i64 c.length), (11, .bool false)], [(48, .cell [i64 n0, i64 n1, i64 n2, i64 n3, .sl .no 2 (es cSp n4), .sl .no 2 (es cAnc n5), .sl .no 5 (es cWal n6), i64 n7, i64 n8, .sl .no 2 (es cSp n9), .sl .no 2 (es cBoat n10), .sl .no 4 (es cSky n11), .sl .no 1 (es cInts n12), .sl .no 1 (es cInt n13), .sl .no 2 (es cSp n14)])] :: s) := by
      intro l'
      induction l' with
      | nil => intro j; rfl
      | cons x l' ih =>
        intro j
        simp only [foldS, firstLift]
        by_cases h : liftS (⟨⟨⟨n0, n1⟩, ⟨n2, n3⟩, n4, n5, n6⟩, ⟨⟨n7, n8⟩, n9, n10⟩, n11, n12, n13, n14⟩ : Season) j x = true
        · simp only [h, if_true]
        · simp only [h, if_false, ih]; rfl
    rw [e] at key
    change Run T b76l0 _ _ = _ at key
    rw [den_fn t76 _ _ _ rfl]
    simp only [b76]
    cases h2 : firstLift (⟨⟨⟨n0, n1⟩, ⟨n2, n3⟩, n4, n5, n6⟩, ⟨⟨n7, n8⟩, n9, n10⟩, n11, n12, n13, n14⟩ : Season) 0 c with
    | some k =>
      simp only [h2] at key
      have e1 : bringsS (⟨⟨⟨n0, n1⟩, ⟨n2, n3⟩, n4, n5, n6⟩, ⟨⟨n7, n8⟩, n9, n10⟩, n11, n12, n13, n14⟩ : Season) c = dayLo (⟨⟨⟨n0, n1⟩, ⟨n2, n3⟩, n4, n5, n6⟩, ⟨⟨n7, n8⟩, n9, n10⟩, n11, n12, n13, n14⟩ : Season) k := by simp only [bringsS, h2]
      rw [e1]
      simp (maxSteps := 1000000) (disch := first | omega | assumption | decide +kernel | (simp; done) | (simp; omega) | fail) [key]
    | none =>
      simp only [h2] at key
      have e1 : bringsS (⟨⟨⟨n0, n1⟩, ⟨n2, n3⟩, n4, n5, n6⟩, ⟨⟨n7, n8⟩, n9, n10⟩, n11, n12, n13, n14⟩ : Season) c = 0 := by simp only [bringsS, h2]
      rw [e1]
      simp (maxSteps := 1000000) (disch := first | omega | assumption | decide +kernel | (simp; done) | (simp; omega) | fail) [key]
  · intro k j hk hj
    subst hj
    obtain ⟨h0, h1⟩ := hc c[j] (List.getElem_mem hk)
    have hj : j < n14.length := by omega
    have hlo : dayLo (⟨⟨⟨n0, n1⟩, ⟨n2, n3⟩, n4, n5, n6⟩, ⟨⟨n7, n8⟩, n9, n10⟩, n11, n12, n13, n14⟩ : Season) j = n14[j].lo := by simp [dayLo, hj]
    have hm := fun lab s => e_lift13r n0 n1 n2 n3 n4 n5 n6 n7 n8 n9 n10 n11 n12 n13 n14 hs hok j hj c[j] h0 h1 lab s
    cases c0 : liftS (⟨⟨⟨n0, n1⟩, ⟨n2, n3⟩, n4, n5, n6⟩, ⟨⟨n7, n8⟩, n9, n10⟩, n11, n12, n13, n14⟩ : Season) j c[j]
    · simp (maxSteps := 1000000) (disch := first | omega | assumption | decide +kernel | (simp; done) | (simp; omega) | fail) [run_drawnK, hk, hm, c0, wk j (by omega)]
    · simp (maxSteps := 1000000) (disch := first | omega | assumption | decide +kernel | (simp; done) | (simp; omega) | fail) [run_drawnK, hk, hm, c0, hlo, hj]
  · intro j hj
    simp
theorem rising_len {l : List Int} {lo hi : Int} (h : rising l lo hi = true) (h0 : lo ≤ hi + 1) : (l.length : Int) ≤ hi - lo + 1 := by
  have key : ∀ k : Nat, ∀ hk : k < l.length, lo + (k : Int) ≤ l[k] := by
    intro k
    induction k with
    | zero =>
      intro hk
      have := (rising_mem h l[0] (List.getElem_mem hk)).1
      simpa using this
    | succ k ih =>
      intro hk
      have h1 := ih (by omega)
      have h2 := allB_iff.1 h (k + 1) (List.mem_range.2 hk)
      simp only [risingAt, Bool.and_eq_true, Nat.add_sub_cancel, Bool.or_eq_true, decide_eq_true_eq, List.getD, List.getElem?_eq_getElem hk, List.getElem?_eq_getElem (show k < l.length by omega), Option.getD_some] at h2
      rcases h2.2 with h3 | h3
      · simp at h3
      · omega
  by_cases hl : l = []
  · subst hl; simp; omega
  · have hp : 0 < l.length := List.length_pos_iff.2 hl
    have h1 := key (l.length - 1) (by omega)
    have h2 := (rising_mem h l[l.length - 1] (List.getElem_mem (by omega))).2
    omega
theorem follows_len {n : Season} (h : seasonOk n = true) {k : Nat} (hk : k < n.skies.length) (hk2 : k < n.follows.length) : n.follows[k].length ≤ 4 := by
  obtain ⟨_, _, _, h4, h5, _, _, h8, _⟩ := seasonOk_iff.1 h
  have h9 := allB_iff.1 h8 k (List.mem_range.2 hk)
  simp only [skyAt, List.getElem?_eq_getElem hk, List.getElem?_eq_getElem hk2, areSkies, Bool.and_eq_true, decide_eq_true_eq] at h9
  have := rising_len h9.2.2 (by omega)
  omega
theorem first_len {n : Season} (h : seasonOk n = true) : n.first.length ≤ 4 := by
  obtain ⟨_, _, _, h4, _, h6, _⟩ := seasonOk_iff.1 h
  simp only [areSkies, Bool.and_eq_true, decide_eq_true_eq] at h6
  have := rising_len h6.2 (by omega)
  omega
theorem courses_bound {n : Season} (hok : seasonOk n = true) : ∀ (r : Nat) (c nx : List Int), nx.length ≤ 4 → (∀ x : Int, x ∈ nx → 0 ≤ x ∧ x < (n.skies.length : Int)) → (coursesFrom n r c nx).length ≤ 4 ^ r
  | 0, c, nx, _, _ => by simp [coursesFrom]
  | r + 1, c, nx, hl, hx => by
    have h1 := flat_le (fun (x : Int) => coursesFrom n r (c ++ [x]) (n.follows.getD x.toNat [])) (4 ^ r) nx (fun x hxm => by
      obtain ⟨x0, x1⟩ := hx x hxm
      obtain ⟨hk2, hn, hf⟩ := follows_ok hok (k := x.toNat) (by omega)
      have hfo : n.follows.getD x.toNat [] = n.follows[x.toNat] := by simp [List.getD, hk2]
      simp only [hfo]
      exact courses_bound hok r _ _ (follows_len hok (by omega) hk2) hf)
    rw [coursesFrom, Nat.pow_succ, Nat.mul_comm]
    exact Nat.le_trans h1 (Nat.mul_le_mul_right _ hl)
/-- the skies that can come next -/
def nextS (n : Season) (c : List Int) : List Int := match c.getLast? with
  | some x => n.follows.getD x.toNat []
  | none => n.first
theorem nextS_ok {n : Season} (hok : seasonOk n = true) {c : List Int} (hc : ∀ x : Int, x ∈ c → 0 ≤ x ∧ x < (n.skies.length : Int)) : (nextS n c).length ≤ 4 ∧ ∀ x : Int, x ∈ nextS n c → 0 ≤ x ∧ x < (n.skies.length : Int) := by
  unfold nextS
  cases h : c.getLast? with
  | none => exact ⟨first_len hok, (first_ok hok).2⟩
  | some x =>
    obtain ⟨x0, x1⟩ := hc x (List.mem_of_getLast? h)
    obtain ⟨hk2, hn, hf⟩ := follows_ok hok (k := x.toNat) (by omega)
    have hfo : n.follows.getD x.toNat [] = n.follows[x.toNat] := by simp [List.getD, hk2]
    simp only [hfo]
    exact ⟨follows_len hok (by omega) hk2, hf⟩
set_option maxHeartbeats 8000000 in
theorem e_courses13r (n0 : Int) (n1 : Int) (n2 : Int) (n3 : Int) (n4 : List Sp) (n5 : List Anc) (n6 : List Wal) (n7 : Int) (n8 : Int) (n9 : List Sp) (n10 : List Boat) (n11 : List Sky) (n12 : List (List Int)) (n13 : List Int) (n14 : List Sp) (hs : Short (⟨⟨⟨n0, n1⟩, ⟨n2, n3⟩, n4, n5, n6⟩, ⟨⟨n7, n8⟩, n9, n10⟩, n11, n12, n13, n14⟩ : Season)) (hok : seasonOk (⟨⟨⟨n0, n1⟩, ⟨n2, n3⟩, n4, n5, n6⟩, ⟨⟨n7, n8⟩, n9, n10⟩, n11, n12, n13, n14⟩ : Season) = true) : ∀ (m : Nat) (c : List Int), c.length + m = n14.length → (∀ x : Int, x ∈ c → 0 ≤ x ∧ x < (n11.length : Int)) → ∀ (lab : Nat) (s : Stk),
    den T 78 [.agg [i64 n0, i64 n1, i64 n2, i64 n3, .sl .no 2 (es cSp n4), .sl .no 2 (es cAnc n5), .sl .no 5 (es cWal n6), i64 n7, i64 n8, .sl .no 2 (es cSp n9), .sl .no 2 (es cBoat n10), .sl .no 4 (es cSky n11), .sl .no 1 (es cInts n12), .sl .no 1 (es cInt n13), .sl .no 2 (es cSp n14)], .sl .no 1 (es cInt c)] lab s = some (.sl .no 1 (es cInts (coursesFrom (⟨⟨⟨n0, n1⟩, ⟨n2, n3⟩, n4, n5, n6⟩, ⟨⟨n7, n8⟩, n9, n10⟩, n11, n12, n13, n14⟩ : Season) m c (nextS (⟨⟨⟨n0, n1⟩, ⟨n2, n3⟩, n4, n5, n6⟩, ⟨⟨n7, n8⟩, n9, n10⟩, n11, n12, n13, n14⟩ : Season) c))), s) := by
  obtain ⟨_, _, q3, q4, q5, _, q7, _, _⟩ := seasonOk_iff.1 hok
  simp only at q3 q4 q5 q7
  intro m
  induction m with
  | zero =>
    intro c hf hc lab s
    have hf' : c.length = n14.length := by omega
    have hq : (c.length : Int) = n14.length := by omega
    rw [den_fn t78 _ _ _ rfl]
    simp only [b78]
    simp (maxSteps := 1000000) (disch := first | omega | assumption | decide +kernel | (simp; done) | (simp; omega) | fail) [hq, hf', es_ints_one, coursesFrom]
  | succ m ih =>
    intro c hf hc lab s
    have hk : c.length < n14.length := by omega
    have hq : ¬ c.length = n14.length := by omega
    have hq2 : ¬ (c.length : Int) = n14.length := by omega
    obtain ⟨hnl, hnx⟩ := nextS_ok hok hc
    have hnl' : (nextS (⟨⟨⟨n0, n1⟩, ⟨n2, n3⟩, n4, n5, n6⟩, ⟨⟨n7, n8⟩, n9, n10⟩, n11, n12, n13, n14⟩ : Season) c).length ≤ 4 := hnl
    have ih2 : ∀ x : Int, x ∈ nextS (⟨⟨⟨n0, n1⟩, ⟨n2, n3⟩, n4, n5, n6⟩, ⟨⟨n7, n8⟩, n9, n10⟩, n11, n12, n13, n14⟩ : Season) c → ∀ lab s, den T 78 [.agg [i64 n0, i64 n1, i64 n2, i64 n3, .sl .no 2 (es cSp n4), .sl .no 2 (es cAnc n5), .sl .no 5 (es cWal n6), i64 n7, i64 n8, .sl .no 2 (es cSp n9), .sl .no 2 (es cBoat n10), .sl .no 4 (es cSky n11), .sl .no 1 (es cInts n12), .sl .no 1 (es cInt n13), .sl .no 2 (es cSp n14)], .sl .no 1 (es cInt (c ++ [x]))] lab s = some (.sl .no 1 (es cInts (coursesFrom (⟨⟨⟨n0, n1⟩, ⟨n2, n3⟩, n4, n5, n6⟩, ⟨⟨n7, n8⟩, n9, n10⟩, n11, n12, n13, n14⟩ : Season) m (c ++ [x]) (n12.getD x.toNat []))), s) := by
      intro x hx lab s
      have := ih (c ++ [x]) (by simp; omega) (fun y hy => by
        rcases List.mem_append.1 hy with h | h
        · exact hc y h
        · simp only [List.mem_singleton] at h; subst h; exact hnx y hx) lab s
      have e : nextS (⟨⟨⟨n0, n1⟩, ⟨n2, n3⟩, n4, n5, n6⟩, ⟨⟨n7, n8⟩, n9, n10⟩, n11, n12, n13, n14⟩ : Season) (c ++ [x]) = n12.getD x.toNat [] := by simp [nextS]
      rw [e] at this
      exact this
    have hb : ∀ x : Int, x ∈ nextS (⟨⟨⟨n0, n1⟩, ⟨n2, n3⟩, n4, n5, n6⟩, ⟨⟨n7, n8⟩, n9, n10⟩, n11, n12, n13, n14⟩ : Season) c → (coursesFrom (⟨⟨⟨n0, n1⟩, ⟨n2, n3⟩, n4, n5, n6⟩, ⟨⟨n7, n8⟩, n9, n10⟩, n11, n12, n13, n14⟩ : Season) m (c ++ [x]) (n12.getD x.toNat [])).length ≤ 1024 := fun x hx => by
      obtain ⟨x0, x1⟩ := hnx x hx
      have x1 : x < (n11.length : Int) := x1
      obtain ⟨hk2, hn, hff⟩ := follows_ok hok (k := x.toNat) (show x.toNat < n11.length by omega)
      have hfo : n12.getD x.toNat [] = n12[x.toNat] := by simp [List.getD, hk2]
      rw [hfo]
      refine Nat.le_trans (courses_bound hok m _ _ (follows_len hok (show x.toNat < n11.length by omega) hk2) hff) ?_
      calc 4 ^ m ≤ 4 ^ 5 := Nat.pow_le_pow_right (by omega) (by omega)
        _ = 1024 := rfl
    generalize hN : nextS (⟨⟨⟨n0, n1⟩, ⟨n2, n3⟩, n4, n5, n6⟩, ⟨⟨n7, n8⟩, n9, n10⟩, n11, n12, n13, n14⟩ : Season) c = N at *
    have key := loop_fold (T := T) (live := [1, 2, 5, 6, 7]) (keep := [32, 97]) (b := d78l0) N (fun k (a : List (List Int)) => a.length ≤ k * 1024) (fun a (x : Int) => a ++ coursesFrom (⟨⟨⟨n0, n1⟩, ⟨n2, n3⟩, n4, n5, n6⟩, ⟨⟨n7, n8⟩, n9, n10⟩, n11, n12, n13, n14⟩ : Season) m (c ++ [x]) (n12.getD x.toNat []))
      (fun k a => [(1, .sl .no 1 (es cInt c)), (2, .ptr s.length 32 0), (5, .sl .no 1 (es cInt N)), (6, .sl (.own s.length 97) 1 (es cInts a)), (7, i64 k)])
      (fun _ a => [(32, .cell [i64 n0, i64 n1, i64 n2, i64 n3, .sl .no 2 (es cSp n4), .sl .no 2 (es cAnc n5), .sl .no 5 (es cWal n6), i64 n7, i64 n8, .sl .no 2 (es cSp n9), .sl .no 2 (es cBoat n10), .sl .no 4 (es cSky n11), .sl .no 1 (es cInts n12), .sl .no 1 (es cInt n13), .sl .no 2 (es cSp n14)]), (97, .tok a.length)] :: s)
      (fun a => (.exit 0, [(1, .sl .no 1 (es cInt c)), (2, .ptr s.length 32 0), (5, .sl .no 1 (es cInt N)), (6, .sl (.own s.length 97) 1 (es cInts a)), (7, i64 N.length), (34, .bool false)], [(32, .cell [i64 n0, i64 n1, i64 n2, i64 n3, .sl .no 2 (es cSp n4), .sl .no 2 (es cAnc n5), .sl .no 5 (es cWal n6), i64 n7, i64 n8, .sl .no 2 (es cSp n9), .sl .no 2 (es cBoat n10), .sl .no 4 (es cSky n11), .sl .no 1 (es cInts n12), .sl .no 1 (es cInt n13), .sl .no 2 (es cSp n14)]), (97, .tok a.length)] :: s))
      (by simp) ?_ ?_ ?_ [] (by simp) [(6, .sl (.own s.length 97) 1 []), (1, .sl .no 1 (es cInt c)), (2, .ptr s.length 32 0), (5, .sl .no 1 (es cInt N)), (6, .sl .full 1 []), (7, i64 0)] ([(32, .cell [i64 n0, i64 n1, i64 n2, i64 n3, .sl .no 2 (es cSp n4), .sl .no 2 (es cAnc n5), .sl .no 5 (es cWal n6), i64 n7, i64 n8, .sl .no 2 (es cSp n9), .sl .no 2 (es cBoat n10), .sl .no 4 (es cSky n11), .sl .no 1 (es cInts n12), .sl .no 1 (es cInt n13), .sl .no 2 (es cSp n14)]), (97, .tok 0)] :: s) (by simp) (by simp)
    · rw [fold_app2, List.nil_append] at key
      have e : N.flatMap (fun (x : Int) => coursesFrom (⟨⟨⟨n0, n1⟩, ⟨n2, n3⟩, n4, n5, n6⟩, ⟨⟨n7, n8⟩, n9, n10⟩, n11, n12, n13, n14⟩ : Season) m (c ++ [x]) (n12.getD x.toNat [])) = coursesFrom (⟨⟨⟨n0, n1⟩, ⟨n2, n3⟩, n4, n5, n6⟩, ⟨⟨n7, n8⟩, n9, n10⟩, n11, n12, n13, n14⟩ : Season) (m + 1) c N := rfl
      rw [e] at key
      change Run T b78l0 _ _ = _ at key
      rw [den_fn t78 _ _ _ rfl]
      simp only [b78]
      by_cases h0 : c = []
      · subst h0
        have hN2 : n13 = N := by rw [← hN]; rfl
        subst hN2
        have hz : ¬ (0 : Int) = n14.length := by simp at hk; omega
        simp only [es_nil] at key
        simp (maxSteps := 1000000) (disch := first | omega | assumption | decide +kernel | (simp; done) | (simp; omega) | fail) [run_drawnK, hz, key]
      · have hpos : 0 < c.length := List.length_pos_iff.2 h0
        have hposi : (0 : Int) < c.length := by omega
        have hl1 : c.length - 1 < c.length := by omega
        have hx := hc c[c.length - 1] (List.getElem_mem hl1)
        have hk2 : c[c.length - 1].toNat < n12.length := by omega
        have hn : ((c.length : Int) - 1).toNat = c.length - 1 := by omega
        have hn0 : (0 : Int) ≤ (c.length : Int) - 1 := by omega
        have hn1 : (1 : Int) ≤ (c.length : Int) := by omega
        have hN2 : n12[c[c.length - 1].toNat] = N := by
          rw [← hN, nextS, List.getLast?_eq_getElem?, List.getElem?_eq_getElem hl1]
          simp [List.getD, hk2]
        simp (maxSteps := 1000000) (disch := first | omega | assumption | decide +kernel | (simp; done) | (simp; omega) | fail) [run_drawnK, hk, hq, hq2, hpos, hposi, hl1, hx, hk2, hn, hn0, hn1, hN2, wi, key]
    · intro k a hk' hi
      have hmem := List.getElem_mem hk'
      have hgb := hb N[k] hmem
      have ih3 := ih2 N[k] hmem
      by_cases h0 : c = []
      · subst h0
        simp only [List.nil_append] at ih3 hgb ⊢
        simp only [es_int_one] at ih3
        generalize coursesFrom (⟨⟨⟨n0, n1⟩, ⟨n2, n3⟩, n4, n5, n6⟩, ⟨⟨n7, n8⟩, n9, n10⟩, n11, n12, n13, n14⟩ : Season) m [N[k]] (n12.getD N[k].toNat []) = L at *
        simp (maxSteps := 1000000) (disch := first | omega | assumption | decide +kernel | (simp; done) | (simp; omega) | fail) [run_drawnK, hk', ih3, appK_many, appD_full_nil, appD_full, wk k (by omega)]
      · generalize coursesFrom (⟨⟨⟨n0, n1⟩, ⟨n2, n3⟩, n4, n5, n6⟩, ⟨⟨n7, n8⟩, n9, n10⟩, n11, n12, n13, n14⟩ : Season) m (c ++ [N[k]]) (n12.getD N[k].toNat []) = L at *
        simp (maxSteps := 1000000) (disch := first | omega | assumption | decide +kernel | (simp; done) | (simp; omega) | fail) [run_drawnK, hk', ih3, h0, appK_many, appD_full_nil, appD_full, appD_own1, appK_own1, wk k (by omega)]
    · intro k a hk' hi
      have := hb N[k] (List.getElem_mem hk')
      rw [List.length_append]; omega
    · intro a hi
      simp
def allCourses (n : Season) : List (List Int) := coursesFrom n n.days.length [] n.first
theorem e_allCourses (n0 : Int) (n1 : Int) (n2 : Int) (n3 : Int) (n4 : List Sp) (n5 : List Anc) (n6 : List Wal) (n7 : Int) (n8 : Int) (n9 : List Sp) (n10 : List Boat) (n11 : List Sky) (n12 : List (List Int)) (n13 : List Int) (n14 : List Sp) (hs : Short (⟨⟨⟨n0, n1⟩, ⟨n2, n3⟩, n4, n5, n6⟩, ⟨⟨n7, n8⟩, n9, n10⟩, n11, n12, n13, n14⟩ : Season)) (hok : seasonOk (⟨⟨⟨n0, n1⟩, ⟨n2, n3⟩, n4, n5, n6⟩, ⟨⟨n7, n8⟩, n9, n10⟩, n11, n12, n13, n14⟩ : Season) = true) (lab s) : den T 78 [.agg [i64 n0, i64 n1, i64 n2, i64 n3, .sl .no 2 (es cSp n4), .sl .no 2 (es cAnc n5), .sl .no 5 (es cWal n6), i64 n7, i64 n8, .sl .no 2 (es cSp n9), .sl .no 2 (es cBoat n10), .sl .no 4 (es cSky n11), .sl .no 1 (es cInts n12), .sl .no 1 (es cInt n13), .sl .no 2 (es cSp n14)], .sl .no 1 []] lab s = some (.sl .no 1 (es cInts (allCourses (⟨⟨⟨n0, n1⟩, ⟨n2, n3⟩, n4, n5, n6⟩, ⟨⟨n7, n8⟩, n9, n10⟩, n11, n12, n13, n14⟩ : Season))), s) := by
  have := e_courses13r n0 n1 n2 n3 n4 n5 n6 n7 n8 n9 n10 n11 n12 n13 n14 hs hok n14.length [] (by simp) (by simp) lab s
  simpa [nextS, allCourses] using this
theorem allCourses_ok {n : Season} (hok : seasonOk n = true) : (allCourses n).length ≤ 1024 ∧ allCourses n ≠ [] ∧ ∀ c ∈ allCourses n, c.length = n.days.length ∧ ∀ x : Int, x ∈ c → 0 ≤ x ∧ x < (n.skies.length : Int) := by
  obtain ⟨_, _, q3, q4, q5, _, q7, _, _⟩ := seasonOk_iff.1 hok
  refine ⟨?_, courses_some hok _ _ _ (first_ok hok).1 (first_ok hok).2, coursesFrom_ok hok _ _ _ (by simp) (by simp) (first_ok hok).2⟩
  refine Nat.le_trans (courses_bound hok _ _ _ (first_len hok) (first_ok hok).2) ?_
  calc 4 ^ n.days.length ≤ 4 ^ 5 := Nat.pow_le_pow_right (by omega) (by omega)
    _ = 1024 := rfl
end Go.Proofs.YtekgicoibcgecaaGreat

/-
  Chapter 13: Brings and Worst, of both; SkiesBrings.
-/
namespace Go.Proofs.YtekgicoibcgecaaGreat
open Go.Ab
theorem e_isCourse_l (n0 : Int) (n1 : Int) (n2 : Int) (n3 : Int) (n4 : List Sp) (n5 : List Anc) (n6 : List Wal) (n7 : Int) (n8 : Int) (n9 : List Sp) (n10 : List Boat) (n11 : List Sky) (n12 : List (List Int)) (n13 : List Int) (n14 : List Sp) (hs : Short (⟨⟨⟨n0, n1⟩, ⟨n2, n3⟩, n4, n5, n6⟩, ⟨⟨n7, n8⟩, n9, n10⟩, n11, n12, n13, n14⟩ : Season)) (hok : seasonOk (⟨⟨⟨n0, n1⟩, ⟨n2, n3⟩, n4, n5, n6⟩, ⟨⟨n7, n8⟩, n9, n10⟩, n11, n12, n13, n14⟩ : Season) = true) (c : List Int) (hcl : c.length < 4611686018427387904) (s : Stk) :
    ∃ nx', Run T b74l0 [(1, .sl .no 1 (es cInt c)), (2, .ptr s.length 32 0), (5, .sl .no 1 (es cInt n13)), (10, .sl .no 1 (es cInt c)), (11, i64 c.length), (12, i64 0)] ([(32, .cell [i64 n0, i64 n1, i64 n2, i64 n3, .sl .no 2 (es cSp n4), .sl .no 2 (es cAnc n5), .sl .no 5 (es cWal n6), i64 n7, i64 n8, .sl .no 2 (es cSp n9), .sl .no 2 (es cBoat n10), .sl .no 4 (es cSky n11), .sl .no 1 (es cInts n12), .sl .no 1 (es cInt n13), .sl .no 2 (es cSp n14)])] :: s) =
      some (if courseL (⟨⟨⟨n0, n1⟩, ⟨n2, n3⟩, n4, n5, n6⟩, ⟨⟨n7, n8⟩, n9, n10⟩, n11, n12, n13, n14⟩ : Season) n13 c = true then (.exit 0, [(1, .sl .no 1 (es cInt c)), (2, .ptr s.length 32 0), (5, .sl .no 1 (es cInt nx')), (10, .sl .no 1 (es cInt c)), (11, i64 c.length), (12, i64 c.length), (13, .bool false)], [(32, .cell [i64 n0, i64 n1, i64 n2, i64 n3, .sl .no 2 (es cSp n4), .sl .no 2 (es cAnc n5), .sl .no 5 (es cWal n6), i64 n7, i64 n8, .sl .no 2 (es cSp n9), .sl .no 2 (es cBoat n10), .sl .no 4 (es cSky n11), .sl .no 1 (es cInts n12), .sl .no 1 (es cInt n13), .sl .no 2 (es cSp n14)])] :: s) else (.ret, [(4, .bool false)], [(32, .cell [i64 n0, i64 n1, i64 n2, i64 n3, .sl .no 2 (es cSp n4), .sl .no 2 (es cAnc n5), .sl .no 5 (es cWal n6), i64 n7, i64 n8, .sl .no 2 (es cSp n9), .sl .no 2 (es cBoat n10), .sl .no 4 (es cSky n11), .sl .no 1 (es cInts n12), .sl .no 1 (es cInt n13), .sl .no 2 (es cSp n14)])] :: s)) := by
  let P : List Int → Prop := fun nx => nx.length < 4611686018427387904 ∧ ∀ x : Int, x ∈ nx → 0 ≤ x ∧ x < (n11.length : Int)
  have key := loop_list (T := T) (live := [1, 2, 5, 10, 11, 12]) (keep := [32]) (b := d74l0) c (fun _ (nx : List Int) => P nx)
    (fun k nx => [(1, .sl .no 1 (es cInt c)), (2, .ptr s.length 32 0), (5, .sl .no 1 (es cInt nx)), (10, .sl .no 1 (es cInt c)), (11, i64 c.length), (12, i64 k)]) (fun _ _ => [(32, .cell [i64 n0, i64 n1, i64 n2, i64 n3, .sl .no 2 (es cSp n4), .sl .no 2 (es cAnc n5), .sl .no 5 (es cWal n6), i64 n7, i64 n8, .sl .no 2 (es cSp n9), .sl .no 2 (es cBoat n10), .sl .no 4 (es cSky n11), .sl .no 1 (es cInts n12), .sl .no 1 (es cInt n13), .sl .no 2 (es cSp n14)])] :: s)
    (fun nx x => if inB nx x = true then .inl (n12.getD x.toNat []) else .inr (.ret, [(4, .bool false)], [(32, .cell [i64 n0, i64 n1, i64 n2, i64 n3, .sl .no 2 (es cSp n4), .sl .no 2 (es cAnc n5), .sl .no 5 (es cWal n6), i64 n7, i64 n8, .sl .no 2 (es cSp n9), .sl .no 2 (es cBoat n10), .sl .no 4 (es cSky n11), .sl .no 1 (es cInts n12), .sl .no 1 (es cInt n13), .sl .no 2 (es cSp n14)])] :: s))
    (fun nx => (.exit 0, [(1, .sl .no 1 (es cInt c)), (2, .ptr s.length 32 0), (5, .sl .no 1 (es cInt nx)), (10, .sl .no 1 (es cInt c)), (11, i64 c.length), (12, i64 c.length), (13, .bool false)], [(32, .cell [i64 n0, i64 n1, i64 n2, i64 n3, .sl .no 2 (es cSp n4), .sl .no 2 (es cAnc n5), .sl .no 5 (es cWal n6), i64 n7, i64 n8, .sl .no 2 (es cSp n9), .sl .no 2 (es cBoat n10), .sl .no 4 (es cSky n11), .sl .no 1 (es cInts n12), .sl .no 1 (es cInt n13), .sl .no 2 (es cSp n14)])] :: s))
    ?_ ?_ (fun k j q hk hj h => by split at h <;> simp_all; rw [← h]; simp) ?_ (by simp) n13 ⟨hs.first, (first_ok hok).2⟩
    [(1, .sl .no 1 (es cInt c)), (2, .ptr s.length 32 0), (5, .sl .no 1 (es cInt n13)), (10, .sl .no 1 (es cInt c)), (11, i64 c.length), (12, i64 0)] ([(32, .cell [i64 n0, i64 n1, i64 n2, i64 n3, .sl .no 2 (es cSp n4), .sl .no 2 (es cAnc n5), .sl .no 5 (es cWal n6), i64 n7, i64 n8, .sl .no 2 (es cSp n9), .sl .no 2 (es cBoat n10), .sl .no 4 (es cSky n11), .sl .no 1 (es cInts n12), .sl .no 1 (es cInt n13), .sl .no 2 (es cSp n14)])] :: s) (by simp) (by simp)
  · have e : ∀ (l : List Int) (nx : List Int), ∃ nx', foldS (fun nx (x : Int) => if inB nx x = true then (.inl (n12.getD x.toNat []) : List Int ⊕ (Ex × Env × Stk)) else .inr (.ret, [(4, .bool false)], [(32, .cell [i64 n0, i64 n1, i64 n2, i64 n3, .sl .no 2 (es cSp n4), .sl .no 2 (es cAnc n5), .sl .no 5 (es cWal n6), i64 n7, i64 n8, .sl .no 2 (es cSp n9), .sl .no 2 (es cBoat n10), .sl .no 4 (es cSky n11), .sl .no 1 (es cInts n12), .sl .no 1 (es cInt n13), .sl .no 2 (es cSp n14)])] :: s))
        (fun nx => (.exit 0, [(1, .sl .no 1 (es cInt c)), (2, .ptr s.length 32 0), (5, .sl .no 1 (es cInt nx)), (10, .sl .no 1 (es cInt c)), (11, i64 c.length), (12, i64 c.length), (13, .bool false)], [(32, .cell [i64 n0, i64 n1, i64 n2, i64 n3, .sl .no 2 (es cSp n4), .sl .no 2 (es cAnc n5), .sl .no 5 (es cWal n6), i64 n7, i64 n8, .sl .no 2 (es cSp n9), .sl .no 2 (es cBoat n10), .sl .no 4 (es cSky n11), .sl .no 1 (es cInts n12), .sl .no 1 (es cInt n13), .sl .no 2 (es cSp n14)])] :: s)) l nx =
        if courseL (⟨⟨⟨n0, n1⟩, ⟨n2, n3⟩, n4, n5, n6⟩, ⟨⟨n7, n8⟩, n9, n10⟩, n11, n12, n13, n14⟩ : Season) nx l = true then (.exit 0, [(1, .sl .no 1 (es cInt c)), (2, .ptr s.length 32 0), (5, .sl .no 1 (es cInt nx')), (10, .sl .no 1 (es cInt c)), (11, i64 c.length), (12, i64 c.length), (13, .bool false)], [(32, .cell [i64 n0, i64 n1, i64 n2, i64 n3, .sl .no 2 (es cSp n4), .sl .no 2 (es cAnc n5), .sl .no 5 (es cWal n6), i64 n7, i64 n8, .sl .no 2 (es cSp n9), .sl .no 2 (es cBoat n10), .sl .no 4 (es cSky n11), .sl .no 1 (es cInts n12), .sl .no 1 (es cInt n13), .sl .no 2 (es cSp n14)])] :: s) else (.ret, [(4, .bool false)], [(32, .cell [i64 n0, i64 n1, i64 n2, i64 n3, .sl .no 2 (es cSp n4), .sl .no 2 (es cAnc n5), .sl .no 5 (es cWal n6), i64 n7, i64 n8, .sl .no 2 (es cSp n9), .sl .no 2 (es cBoat n10), .sl .no 4 (es cSky n11), .sl .no 1 (es cInts n12), .sl .no 1 (es cInt n13), .sl .no 2 (es cSp n14)])] :: s) := by
      intro l
      induction l with
      | nil => intro nx; exact ⟨nx, rfl⟩
      | cons x l ih =>
        intro nx
        by_cases h : inB nx x = true
        · obtain ⟨nx', h2⟩ := ih (n12.getD x.toNat [])
          exact ⟨nx', by simp only [foldS, courseL, h, if_true, Bool.true_and]; exact h2⟩
        · have h' : inB nx x = false := by simpa using h
          exact ⟨[], by simp [foldS, courseL, h']⟩
    obtain ⟨nx', h⟩ := e c n13
    rw [h] at key
    exact ⟨nx', key⟩
  · intro k nx hk hP
    obtain ⟨hP1, hP2⟩ := hP
    cases h : inB nx c[k]
    · have h' : anyB (fun y => decide (y = c[k])) nx = false := h
      simp (disch := first | omega | assumption | decide +kernel | (simp; done) | (simp; omega) | fail) [hk, h', wk k (by omega)]
    · have h' : anyB (fun y => decide (y = c[k])) nx = true := h
      obtain ⟨x0, x1⟩ := hP2 _ (inB_iff.1 h)
      obtain ⟨hk2, _, hf⟩ := follows_ok hok (k := c[k].toNat) (by simp only; omega)
      simp only at hk2
      have hfo : n12.getD c[k].toNat [] = n12[c[k].toNat] := by simp [List.getD, hk2]
      simp (maxSteps := 1000000) (disch := first | omega | assumption | decide +kernel | (simp; done) | (simp; omega) | fail) [run_drawnK, hk, h', x0, hk2, hfo, wk k (by omega)]
  · intro k nx nx' hk hP h
    cases h2 : inB nx c[k]
    · simp [h2] at h
    · simp only [h2, if_true, Sum.inl.injEq] at h
      subst h
      obtain ⟨x0, x1⟩ := hP.2 _ (inB_iff.1 h2)
      obtain ⟨hk2, _, hf⟩ := follows_ok hok (k := c[k].toNat) (by simp only; omega)
      simp only at hk2 hf
      have hfo : n12.getD c[k].toNat [] = n12[c[k].toNat] := by simp [List.getD, hk2]
      rw [hfo]
      exact ⟨hs.each _ (List.getElem_mem hk2), hf⟩
  · intro nx hP
    simp
theorem e_isCourse (n0 : Int) (n1 : Int) (n2 : Int) (n3 : Int) (n4 : List Sp) (n5 : List Anc) (n6 : List Wal) (n7 : Int) (n8 : Int) (n9 : List Sp) (n10 : List Boat) (n11 : List Sky) (n12 : List (List Int)) (n13 : List Int) (n14 : List Sp) (hs : Short (⟨⟨⟨n0, n1⟩, ⟨n2, n3⟩, n4, n5, n6⟩, ⟨⟨n7, n8⟩, n9, n10⟩, n11, n12, n13, n14⟩ : Season)) (hok : seasonOk (⟨⟨⟨n0, n1⟩, ⟨n2, n3⟩, n4, n5, n6⟩, ⟨⟨n7, n8⟩, n9, n10⟩, n11, n12, n13, n14⟩ : Season) = true) (c : List Int) (hcl : c.length < 4611686018427387904) (lab s) :
    den T 74 [.agg [i64 n0, i64 n1, i64 n2, i64 n3, .sl .no 2 (es cSp n4), .sl .no 2 (es cAnc n5), .sl .no 5 (es cWal n6), i64 n7, i64 n8, .sl .no 2 (es cSp n9), .sl .no 2 (es cBoat n10), .sl .no 4 (es cSky n11), .sl .no 1 (es cInts n12), .sl .no 1 (es cInt n13), .sl .no 2 (es cSp n14)], .sl .no 1 (es cInt c)] lab s = some (.bool (isCourse (⟨⟨⟨n0, n1⟩, ⟨n2, n3⟩, n4, n5, n6⟩, ⟨⟨n7, n8⟩, n9, n10⟩, n11, n12, n13, n14⟩ : Season) c), s) := by
  obtain ⟨nx', key⟩ := e_isCourse_l n0 n1 n2 n3 n4 n5 n6 n7 n8 n9 n10 n11 n12 n13 n14 hs hok c hcl s
  have hi : isCourse (⟨⟨⟨n0, n1⟩, ⟨n2, n3⟩, n4, n5, n6⟩, ⟨⟨n7, n8⟩, n9, n10⟩, n11, n12, n13, n14⟩ : Season) c = (decide ((c.length : Int) = n14.length) && courseL (⟨⟨⟨n0, n1⟩, ⟨n2, n3⟩, n4, n5, n6⟩, ⟨⟨n7, n8⟩, n9, n10⟩, n11, n12, n13, n14⟩ : Season) n13 c) := by
    have : ((c.length : Int) = n14.length) ↔ (c.length = n14.length) := by omega
    simp only [isCourse, this]
  rw [hi]
  rw [den_fn t74 _ _ _ rfl]
  simp only [b74]
  cases c1 : courseL (⟨⟨⟨n0, n1⟩, ⟨n2, n3⟩, n4, n5, n6⟩, ⟨⟨n7, n8⟩, n9, n10⟩, n11, n12, n13, n14⟩ : Season) n13 c
  · simp (disch := first | omega | assumption | decide +kernel | (simp; done) | (simp; omega) | fail) [c1, key]
  · simp (disch := first | omega | assumption | decide +kernel | (simp; done) | (simp; omega) | fail) [c1, key]
theorem isCourse_ok {n : Season} (hok : seasonOk n = true) {c : List Int} (h : isCourse n c = true) : c.length = n.days.length ∧ ∀ x : Int, x ∈ c → 0 ≤ x ∧ x < (n.skies.length : Int) := by
  simp only [isCourse, Bool.and_eq_true, decide_eq_true_eq] at h
  have := course_mem n c [] n.first h.2
  rw [List.nil_append] at this
  exact coursesFrom_ok hok _ [] n.first (by simpa using h.1) (by simp) (first_ok hok).2 c this
/-- what Brings answers -/
def bringsR (n : Season) (c : List Int) : Int × Int := if seasonOk n = true then (if isCourse n c = true then (bringsS n c, 0) else (0, 1)) else (0, 130)
set_option maxHeartbeats 1000000 in
theorem e_Brings (n0 : Int) (n1 : Int) (n2 : Int) (n3 : Int) (n4 : List Sp) (n5 : List Anc) (n6 : List Wal) (n7 : Int) (n8 : Int) (n9 : List Sp) (n10 : List Boat) (n11 : List Sky) (n12 : List (List Int)) (n13 : List Int) (n14 : List Sp) (hs : Short (⟨⟨⟨n0, n1⟩, ⟨n2, n3⟩, n4, n5, n6⟩, ⟨⟨n7, n8⟩, n9, n10⟩, n11, n12, n13, n14⟩ : Season)) (c : List Int) (hcl : c.length < 4611686018427387904) (lab s) : den T 20 [.agg [i64 n0, i64 n1, i64 n2, i64 n3, .sl .no 2 (es cSp n4), .sl .no 2 (es cAnc n5), .sl .no 5 (es cWal n6), i64 n7, i64 n8, .sl .no 2 (es cSp n9), .sl .no 2 (es cBoat n10), .sl .no 4 (es cSky n11), .sl .no 1 (es cInts n12), .sl .no 1 (es cInt n13), .sl .no 2 (es cSp n14)], .sl .no 1 (es cInt c)] lab s = some (.tup [i64 (bringsR (⟨⟨⟨n0, n1⟩, ⟨n2, n3⟩, n4, n5, n6⟩, ⟨⟨n7, n8⟩, n9, n10⟩, n11, n12, n13, n14⟩ : Season) c).1, i64 (bringsR (⟨⟨⟨n0, n1⟩, ⟨n2, n3⟩, n4, n5, n6⟩, ⟨⟨n7, n8⟩, n9, n10⟩, n11, n12, n13, n14⟩ : Season) c).2], s) := by
  have hc := fun lab s => e_Check13p n0 n1 n2 n3 n4 n5 n6 n7 n8 n9 n10 n11 n12 n13 n14 (by have := hs.grips; simp only at this; omega) (by have := hs.anch; simp only at this; omega) (by have := hs.walls; simp only at this; omega) hs.skies hs.first hs.days hs.each lab s
  rw [den_fn t20 _ _ _ rfl]
  simp only [b20]
  cases c0 : seasonOk (⟨⟨⟨n0, n1⟩, ⟨n2, n3⟩, n4, n5, n6⟩, ⟨⟨n7, n8⟩, n9, n10⟩, n11, n12, n13, n14⟩ : Season)
  · simp (maxSteps := 1000000) (disch := first | omega | assumption | decide +kernel | (simp; done) | (simp; omega) | fail) [hc, c0, bringsR]
  have hi := fun lab s => e_isCourse n0 n1 n2 n3 n4 n5 n6 n7 n8 n9 n10 n11 n12 n13 n14 hs c0 c hcl lab s
  cases c1 : isCourse (⟨⟨⟨n0, n1⟩, ⟨n2, n3⟩, n4, n5, n6⟩, ⟨⟨n7, n8⟩, n9, n10⟩, n11, n12, n13, n14⟩ : Season) c
  · have ho := fun lab loc s => e_open13_arg n0 n1 n2 n3 n4 n5 n6 n7 n8 n9 n10 n11 n12 n13 n14 hs c0 lab loc s
    simp (maxSteps := 1000000) (disch := first | omega | assumption | decide +kernel | (simp; done) | (simp; omega) | fail) [hc, hi, ho, c0, c1, bringsR]
  · obtain ⟨k1, k2⟩ := isCourse_ok c0 c1
    simp only at k1 k2
    have hp := fun lab loc s k0 => e_open13 n0 n1 n2 n3 n4 n5 n6 n7 n8 n9 n10 n11 n12 n13 n14 hs c0 lab loc s k0
    have hb := fun lab => e_brings13 (⟨⟨⟨n0, n1⟩, ⟨n2, n3⟩, n4, n5, n6⟩, ⟨⟨n7, n8⟩, n9, n10⟩, n11, n12, n13, n14⟩ : Season) c0 hs.each c k2 (by simp only; omega) s.length 304 ([(32, .cell [i64 n0, i64 n1, i64 n2, i64 n3, .sl .no 2 (es cSp n4), .sl .no 2 (es cAnc n5), .sl .no 5 (es cWal n6), i64 n7, i64 n8, .sl .no 2 (es cSp n9), .sl .no 2 (es cBoat n10), .sl .no 4 (es cSky n11), .sl .no 1 (es cInts n12), .sl .no 1 (es cInt n13), .sl .no 2 (es cSp n14)]), (304, .cell (seasonCell (⟨⟨⟨n0, n1⟩, ⟨n2, n3⟩, n4, n5, n6⟩, ⟨⟨n7, n8⟩, n9, n10⟩, n11, n12, n13, n14⟩ : Season)))] :: s) (by simp) ((sget_top _ _ _).trans rfl) lab
    have hr : bringsR (⟨⟨⟨n0, n1⟩, ⟨n2, n3⟩, n4, n5, n6⟩, ⟨⟨n7, n8⟩, n9, n10⟩, n11, n12, n13, n14⟩ : Season) c = (bringsS (⟨⟨⟨n0, n1⟩, ⟨n2, n3⟩, n4, n5, n6⟩, ⟨⟨n7, n8⟩, n9, n10⟩, n11, n12, n13, n14⟩ : Season) c, 0) := by simp [bringsR, c0, c1]
    rw [hr]
    simp (maxSteps := 1000000) (disch := first | omega | assumption | decide +kernel | (simp; done) | (simp; omega) | fail) [orSlow_none, hc, hi, hp, hb, c0, c1]
set_option maxHeartbeats 1000000 in
theorem e_Brings13 (n0 : Int) (n1 : Int) (n2 : Int) (n3 : Int) (n4 : List Sp) (n5 : List Anc) (n6 : List Wal) (n7 : Int) (n8 : Int) (n9 : List Sp) (n10 : List Boat) (n11 : List Sky) (n12 : List (List Int)) (n13 : List Int) (n14 : List Sp) (hs : ShortC (⟨⟨⟨n0, n1⟩, ⟨n2, n3⟩, n4, n5, n6⟩, ⟨⟨n7, n8⟩, n9, n10⟩, n11, n12, n13, n14⟩ : Season)) (c : List Int) (hcl : c.length < 4611686018427387904) (lab s) : den T 21 [.agg [i64 n0, i64 n1, i64 n2, i64 n3, .sl .no 2 (es cSp n4), .sl .no 2 (es cAnc n5), .sl .no 5 (es cWal n6), i64 n7, i64 n8, .sl .no 2 (es cSp n9), .sl .no 2 (es cBoat n10), .sl .no 4 (es cSky n11), .sl .no 1 (es cInts n12), .sl .no 1 (es cInt n13), .sl .no 2 (es cSp n14)], .sl .no 1 (es cInt c)] lab s = some (.tup [i64 (bringsR (⟨⟨⟨n0, n1⟩, ⟨n2, n3⟩, n4, n5, n6⟩, ⟨⟨n7, n8⟩, n9, n10⟩, n11, n12, n13, n14⟩ : Season) c).1, i64 (bringsR (⟨⟨⟨n0, n1⟩, ⟨n2, n3⟩, n4, n5, n6⟩, ⟨⟨n7, n8⟩, n9, n10⟩, n11, n12, n13, n14⟩ : Season) c).2], s) := by
  have hs1 : Short (⟨⟨⟨n0, n1⟩, ⟨n2, n3⟩, n4, n5, n6⟩, ⟨⟨n7, n8⟩, n9, n10⟩, n11, n12, n13, n14⟩ : Season) := hs.short
  have hc := fun lab s => e_Check13 n0 n1 n2 n3 n4 n5 n6 n7 n8 n9 n10 n11 n12 n13 n14 hs1.skies hs1.first hs1.days hs1.each lab s
  rw [den_fn t21 _ _ _ rfl]
  simp only [b21]
  cases c0 : seasonOk (⟨⟨⟨n0, n1⟩, ⟨n2, n3⟩, n4, n5, n6⟩, ⟨⟨n7, n8⟩, n9, n10⟩, n11, n12, n13, n14⟩ : Season)
  · simp (maxSteps := 1000000) (disch := first | omega | assumption | decide +kernel | (simp; done) | (simp; omega) | fail) [hc, c0, bringsR]
  have hi := fun lab s => e_IsCourse n0 n1 n2 n3 n4 n5 n6 n7 n8 n9 n10 n11 n12 n13 n14 hs1 c0 c hcl lab s
  cases c1 : isCourse (⟨⟨⟨n0, n1⟩, ⟨n2, n3⟩, n4, n5, n6⟩, ⟨⟨n7, n8⟩, n9, n10⟩, n11, n12, n13, n14⟩ : Season) c
  · simp (maxSteps := 1000000) (disch := first | omega | assumption | decide +kernel | (simp; done) | (simp; omega) | fail) [hc, hi, c0, c1, bringsR]
  · obtain ⟨k1, k2⟩ := isCourse_ok c0 c1
    simp only at k1 k2
    have hM := fun lab s => e_Mays n0 n1 n2 n3 n4 n5 n6 n7 n8 n9 n10 n11 n12 n13 n14 hs c0 lab s
    have hb := fun lab s => e_brings13r n0 n1 n2 n3 n4 n5 n6 n7 n8 n9 n10 n11 n12 n13 n14 hs c0 c k2 (by omega) lab s
    have hr : bringsR (⟨⟨⟨n0, n1⟩, ⟨n2, n3⟩, n4, n5, n6⟩, ⟨⟨n7, n8⟩, n9, n10⟩, n11, n12, n13, n14⟩ : Season) c = (bringsS (⟨⟨⟨n0, n1⟩, ⟨n2, n3⟩, n4, n5, n6⟩, ⟨⟨n7, n8⟩, n9, n10⟩, n11, n12, n13, n14⟩ : Season) c, 0) := by simp [bringsR, c0, c1]
    rw [hr]
    simp (maxSteps := 1000000) (disch := first | omega | assumption | decide +kernel | (simp; done) | (simp; omega) | fail) [hc, hi, hM, hb, c0, c1]
/-! Worst -/
def worstY (n : Season) (a : Option (List Int) × Int) (c : List Int) : Option (List Int) × Int := if a.2 < 0 ∨ bringsS n c < a.2 then (some c, bringsS n c) else a
def worstQ (n : Season) : Option (List Int) × Int := (allCourses n).foldl (worstY n) (none, -1)
def worstEnv (d : Nat) : Env := [(4, .ptr d 64 0), (6, .ptr d 96 0), (7, .ptr d 112 0), (19, .fn 77 [.ptr d 192 0] [])]
def worstF (n : Season) (d : Nat) (x : LoopState) (a : Option (List Int) × Int) : Ab.Loc := [(16, .cell (season0 n)), (192, .cell (seasonCell n)), (64, .cell [.ptr d 192 0]), (96, .cell [crewV a.1]), (112, .cell [i64 a.2]), (5639, .loop [20] b22l0 b22l1 (worstEnv d) x none)]
theorem worst_body (n : Season) (hok : seasonOk n = true) (hlen : ∀ l ∈ n.follows, l.length < 4611686018427387904) (c : List Int) (hc : ∀ x : Int, x ∈ c → 0 ≤ x ∧ x < (n.skies.length : Int)) (hcl : c.length = n.days.length) (d : Nat) (X : Option (List Int) × Int → Stk) (hd : ∀ a, d < (X a).length)
    (h64 : ∀ a, sget (X a) d 64 = some (.cell [.ptr d 192 0])) (hsea : ∀ a, sget (X a) d 192 = some (.cell (seasonCell n))) (h96 : ∀ a, sget (X a) d 96 = some (.cell [crewV a.1])) (h112 : ∀ a, sget (X a) d 112 = some (.cell [i64 a.2]))
    (p96 : ∀ a c, sput (X a) d 96 (.cell [.sl .no 1 (es cInt c)]) = X (some c, a.2)) (p112 : ∀ a m, sput (X a) d 112 (.cell [i64 m]) = X (a.1, m)) (a) :
    ∃ e, Run T b22l1 [(4, .ptr d 64 0), (6, .ptr d 96 0), (7, .ptr d 112 0), (8, .sl .no 1 (es cInt c))] ([] :: X a) = some (.normal, e, [] :: X (worstY n a c)) := by
  have hd' : ∀ a, ¬ d = (X a).length := fun a => by have := hd a; omega
  have hb := fun lab => e_brings13 n hok hlen c hc (by omega) d 192 ([] :: X a) (by have := hd a; simp; omega) (by rw [sget_cons, if_neg (hd' a), hsea a]) lab
  simp only [b22l1]
  by_cases x1 : a.2 < 0
  · refine ⟨[(6, .ptr d 96 0)], ?_⟩
    have e1 : worstY n a c = (some c, bringsS n c) := by simp [worstY, x1]
    rw [e1]
    simp (disch := first | omega | assumption | decide +kernel | (simp; done) | (simp; omega) | fail) [hd', h64, hb, x1, h112, h96, p96, p112]
  · by_cases x2 : bringsS n c < a.2
    · refine ⟨[(6, .ptr d 96 0)], ?_⟩
      have e1 : worstY n a c = (some c, bringsS n c) := by simp [worstY, x2]
      rw [e1]
      simp (disch := first | omega | assumption | decide +kernel | (simp; done) | (simp; omega) | fail) [hd', h64, hb, x1, x2, h112, h96, p96, p112]
    · refine ⟨[(6, .ptr d 96 0), (7, .ptr d 112 0), (8, .sl .no 1 (es cInt c)), (9, i64 (bringsS n c)), (30, .bool false)], ?_⟩
      have e1 : worstY n a c = a := by simp [worstY, x1, x2]
      rw [e1]
      simp (disch := first | omega | assumption | decide +kernel | (simp; done) | (simp; omega) | fail) [hd', h64, hb, x1, x2, h112]
def worstSt (n : Season) (S0 : Stk) (a : Option (List Int) × Int) : Stk := worstF n S0.length .ready a :: S0
theorem worst_yield (n : Season) (hok : seasonOk n = true) (hlen : ∀ l ∈ n.follows, l.length < 4611686018427387904) (S0 : Stk) :
    Yield13 n (Option (List Int) × Int) (fun _ => True) S0.length 5639 S0.length 192 (S0.length + 1) (worstSt n S0) (fun a c => (worstY n a c, true)) where
  len := fun a => by simp [worstSt]
  lt := by omega
  ltd := by omega
  sea := fun a => by rw [worstSt, sget_top]; rfl
  keep := fun a c ha hb => trivial
  yield := fun fr a c lab ha hc hcl => by
    have top : ∀ (x : LoopState) a l', sget (fr ++ worstF n S0.length x a :: S0) S0.length l' = (worstF n S0.length x a).get l' := fun x a l' => by
      rw [sget_append _ _ _ _ (by simp), sget_top]
    have put : ∀ (x : LoopState) a l' en, sput (fr ++ worstF n S0.length x a :: S0) S0.length l' en = fr ++ (worstF n S0.length x a).put l' en :: S0 := fun x a l' en => by
      rw [sput_append _ _ _ _ _ (by simp), sput_top]
    have hl : ∀ (x : LoopState) a, S0.length < (fr ++ worstF n S0.length x a :: S0).length := fun x a => by simp; omega
    obtain ⟨e, hB⟩ := worst_body n hok hlen c hc hcl S0.length (fun a => fr ++ worstF n S0.length .busy a :: S0) (fun a => hl _ _) (fun a => by rw [top]; rfl) (fun a => by rw [top]; rfl) (fun a => by rw [top]; rfl) (fun a => by rw [top]; rfl)
      (fun a c => by rw [put]; rfl) (fun a m => by rw [put]; rfl) a
    change denV T _ _ lab (fr ++ worstF n S0.length .ready a :: S0) = _
    refine (yld_run (ps := [20]) (A := b22l0) (B := b22l1) (env := worstEnv S0.length) (ex := .normal) (st := .busy) (p := none) (s3 := fr ++ worstF n S0.length .busy (worstY n a c) :: S0) (by rw [top]; rfl) rfl
      (e1 := [(4, .ptr S0.length 64 0), (6, .ptr S0.length 96 0), (7, .ptr S0.length 112 0), (8, .sl .no 1 (es cInt c))]) (fr1 := []) ?_ (hl _ _) (e2 := e) (fr2 := []) ?_ (by rw [top]; rfl)).trans ?_
    · simp [b22l0, worstEnv, bindEnv]
    · rw [put]; exact hB
    · rw [put]; rfl
/-- what Worst answers -/
def worstR (n : Season) : List Int × Int := if seasonOk n = true then ((worstQ n).1.getD [], 0) else ([], 130)
set_option maxHeartbeats 1000000 in
theorem e_Worst (n0 : Int) (n1 : Int) (n2 : Int) (n3 : Int) (n4 : List Sp) (n5 : List Anc) (n6 : List Wal) (n7 : Int) (n8 : Int) (n9 : List Sp) (n10 : List Boat) (n11 : List Sky) (n12 : List (List Int)) (n13 : List Int) (n14 : List Sp) (hs : Short (⟨⟨⟨n0, n1⟩, ⟨n2, n3⟩, n4, n5, n6⟩, ⟨⟨n7, n8⟩, n9, n10⟩, n11, n12, n13, n14⟩ : Season)) (lab s) : den T 22 [.agg [i64 n0, i64 n1, i64 n2, i64 n3, .sl .no 2 (es cSp n4), .sl .no 2 (es cAnc n5), .sl .no 5 (es cWal n6), i64 n7, i64 n8, .sl .no 2 (es cSp n9), .sl .no 2 (es cBoat n10), .sl .no 4 (es cSky n11), .sl .no 1 (es cInts n12), .sl .no 1 (es cInt n13), .sl .no 2 (es cSp n14)]] lab s = some (.tup [.sl .no 1 (es cInt (worstR (⟨⟨⟨n0, n1⟩, ⟨n2, n3⟩, n4, n5, n6⟩, ⟨⟨n7, n8⟩, n9, n10⟩, n11, n12, n13, n14⟩ : Season)).1), i64 (worstR (⟨⟨⟨n0, n1⟩, ⟨n2, n3⟩, n4, n5, n6⟩, ⟨⟨n7, n8⟩, n9, n10⟩, n11, n12, n13, n14⟩ : Season)).2], s) := by
  rw [den_fn t22 _ _ _ rfl]
  simp only [b22]
  cases c0 : seasonOk (⟨⟨⟨n0, n1⟩, ⟨n2, n3⟩, n4, n5, n6⟩, ⟨⟨n7, n8⟩, n9, n10⟩, n11, n12, n13, n14⟩ : Season)
  · have ho := fun b lab loc s => e_open13_bad n0 n1 n2 n3 n4 n5 n6 n7 n8 n9 n10 n11 n12 n13 n14 hs c0 b lab loc s
    simp (disch := first | omega | assumption | decide +kernel | (simp; done) | (simp; omega) | fail) [c0, ho, worstR]
  · have hp := fun lab loc s k0 => e_open13 n0 n1 n2 n3 n4 n5 n6 n7 n8 n9 n10 n11 n12 n13 n14 hs c0 lab loc s k0
    have h := fun lab => e_courses13 (⟨⟨⟨n0, n1⟩, ⟨n2, n3⟩, n4, n5, n6⟩, ⟨⟨n7, n8⟩, n9, n10⟩, n11, n12, n13, n14⟩ : Season) c0 hs.each hs.first (worst_yield (⟨⟨⟨n0, n1⟩, ⟨n2, n3⟩, n4, n5, n6⟩, ⟨⟨n7, n8⟩, n9, n10⟩, n11, n12, n13, n14⟩ : Season) c0 hs.each s) (none, -1) trivial lab
    have hr : worstR (⟨⟨⟨n0, n1⟩, ⟨n2, n3⟩, n4, n5, n6⟩, ⟨⟨n7, n8⟩, n9, n10⟩, n11, n12, n13, n14⟩ : Season) = ((worstQ (⟨⟨⟨n0, n1⟩, ⟨n2, n3⟩, n4, n5, n6⟩, ⟨⟨n7, n8⟩, n9, n10⟩, n11, n12, n13, n14⟩ : Season)).1.getD [], 0) := by rw [worstR, if_pos c0]
    rw [hr]
    rw [foldB_true] at h
    change ∀ lab, den T _ _ lab _ = some (_, worstSt _ s (worstQ (⟨⟨⟨n0, n1⟩, ⟨n2, n3⟩, n4, n5, n6⟩, ⟨⟨n7, n8⟩, n9, n10⟩, n11, n12, n13, n14⟩ : Season))) at h
    generalize worstQ (⟨⟨⟨n0, n1⟩, ⟨n2, n3⟩, n4, n5, n6⟩, ⟨⟨n7, n8⟩, n9, n10⟩, n11, n12, n13, n14⟩ : Season) = q at h
    obtain ⟨v, m⟩ := q
    simp only [worstSt, worstF, worstEnv, season0, crewV] at h
    cases v
    · simp only at h
      simp (maxSteps := 1000000) (disch := first | omega | assumption | decide +kernel | (simp; done) | (simp; omega) | fail) [run_drawnK, hp, h]
    · simp only at h
      simp (maxSteps := 1000000) (disch := first | omega | assumption | decide +kernel | (simp; done) | (simp; omega) | fail) [run_drawnK, hp, h]
theorem worst_len {n : Season} (hok : seasonOk n = true) : (worstR n).1.length ≤ 5 := by
  have q7 := (seasonOk_iff.1 hok).2.2.2.2.2.2.1
  have key : ∀ (l : List (List Int)) (a : Option (List Int) × Int), (∀ c ∈ l, c.length ≤ 5) → (a.1.getD []).length ≤ 5 → ((l.foldl (worstY n) a).1.getD []).length ≤ 5 := by
    intro l
    induction l with
    | nil => intro a _ h; exact h
    | cons c l ih =>
      intro a hl h
      refine ih _ (fun c hc => hl c (by simp [hc])) ?_
      unfold worstY
      split
      · exact hl c (by simp)
      · exact h
  rw [worstR, if_pos hok]
  exact key _ _ (fun c hc => by have := ((allCourses_ok hok).2.2 c hc).1; omega) (by simp)
/-- as the reference looks for it: by number -/
def worstG (n : Season) (a : Nat × (Nat × Int)) (c : List Int) : Nat × (Nat × Int) := (a.1 + 1, if bringsS n c < a.2.2 then (a.1, bringsS n c) else a.2)
theorem worst_law (n : Season) (L : List (List Int)) : ∀ (r pre : List (List Int)) (b : Nat) (m : Int), L = pre ++ r → b < pre.length → 0 ≤ m → (∀ c ∈ L, 0 ≤ bringsS n c) →
    ∃ q, r.foldl (worstY n) (L[b]?, m) = (L[q.2.1]?, q.2.2) ∧ r.foldl (worstG n) (pre.length, (b, m)) = q ∧ q.2.1 < L.length
  | [], pre, b, m, hL, hb, _, _ => ⟨(pre.length, (b, m)), rfl, rfl, by rw [hL, List.append_nil]; exact hb⟩
  | c :: r, pre, b, m, hL, hb, hm, hp => by
    have hc : L[pre.length]? = some c := by rw [hL]; simp
    have hL2 : L = (pre ++ [c]) ++ r := by rw [hL, List.append_assoc]; rfl
    have h0 : ¬ m < 0 := by omega
    rw [List.foldl_cons, List.foldl_cons]
    by_cases h1 : bringsS n c < m
    · obtain ⟨q, q1, q2, q3⟩ := worst_law n L r (pre ++ [c]) pre.length (bringsS n c) hL2 (by simp) (hp c (by rw [hL]; simp)) hp
      rw [hc] at q1
      rw [List.length_append, List.length_singleton] at q2
      refine ⟨q, ?_, ?_, q3⟩
      · rw [← q1]; simp [worstY, h1]
      · rw [← q2]; simp [worstG, h1]
    · obtain ⟨q, q1, q2, q3⟩ := worst_law n L r (pre ++ [c]) b m hL2 (by simp; omega) hm hp
      rw [List.length_append, List.length_singleton] at q2
      refine ⟨q, ?_, ?_, q3⟩
      · rw [← q1]; simp [worstY, h0, h1]
      · rw [← q2]; simp [worstG, h1]
set_option maxHeartbeats 1000000 in
theorem e_Worst13_l (n0 : Int) (n1 : Int) (n2 : Int) (n3 : Int) (n4 : List Sp) (n5 : List Anc) (n6 : List Wal) (n7 : Int) (n8 : Int) (n9 : List Sp) (n10 : List Boat) (n11 : List Sky) (n12 : List (List Int)) (n13 : List Int) (n14 : List Sp) (hs : ShortC (⟨⟨⟨n0, n1⟩, ⟨n2, n3⟩, n4, n5, n6⟩, ⟨⟨n7, n8⟩, n9, n10⟩, n11, n12, n13, n14⟩ : Season)) (hok : seasonOk (⟨⟨⟨n0, n1⟩, ⟨n2, n3⟩, n4, n5, n6⟩, ⟨⟨n7, n8⟩, n9, n10⟩, n11, n12, n13, n14⟩ : Season) = true) (L : List (List Int)) (hL : ∀ c ∈ L, c.length = n14.length ∧ ∀ x : Int, x ∈ c → 0 ≤ x ∧ x < (n11.length : Int)) (hlen : L.length ≤ 1024) (m : Int) (s : Stk) :
    Run T b23l0 [(1, .ptr s.length 16 0), (5, .sl .no 1 (es cBools (maysS (⟨⟨⟨n0, n1⟩, ⟨n2, n3⟩, n4, n5, n6⟩, ⟨⟨n7, n8⟩, n9, n10⟩, n11, n12, n13, n14⟩ : Season)))), (6, .sl .no 1 (es cInts L)), (7, i64 0), (8, i64 m), (9, i64 1)] ([(16, .cell [i64 n0, i64 n1, i64 n2, i64 n3, .sl .no 2 (es cSp n4), .sl .no 2 (es cAnc n5), .sl .no 5 (es cWal n6), i64 n7, i64 n8, .sl .no 2 (es cSp n9), .sl .no 2 (es cBoat n10), .sl .no 4 (es cSky n11), .sl .no 1 (es cInts n12), .sl .no 1 (es cInt n13), .sl .no 2 (es cSp n14)])] :: s) = some (.exit 0, [(1, .ptr s.length 16 0), (5, .sl .no 1 (es cBools (maysS (⟨⟨⟨n0, n1⟩, ⟨n2, n3⟩, n4, n5, n6⟩, ⟨⟨n7, n8⟩, n9, n10⟩, n11, n12, n13, n14⟩ : Season)))), (6, .sl .no 1 (es cInts L)), (7, i64 ((((L.tail).foldl (worstG (⟨⟨⟨n0, n1⟩, ⟨n2, n3⟩, n4, n5, n6⟩, ⟨⟨n7, n8⟩, n9, n10⟩, n11, n12, n13, n14⟩ : Season)) (1, (0, m)))).2.1 : Nat)), (8, i64 (((L.tail).foldl (worstG (⟨⟨⟨n0, n1⟩, ⟨n2, n3⟩, n4, n5, n6⟩, ⟨⟨n7, n8⟩, n9, n10⟩, n11, n12, n13, n14⟩ : Season)) (1, (0, m)))).2.2), (9, i64 (1 + (L.tail.length : Nat))), (29, .bool false)], [(16, .cell [i64 n0, i64 n1, i64 n2, i64 n3, .sl .no 2 (es cSp n4), .sl .no 2 (es cAnc n5), .sl .no 5 (es cWal n6), i64 n7, i64 n8, .sl .no 2 (es cSp n9), .sl .no 2 (es cBoat n10), .sl .no 4 (es cSky n11), .sl .no 1 (es cInts n12), .sl .no 1 (es cInt n13), .sl .no 2 (es cSp n14)])] :: s) := by
  have key := loop_fold (T := T) (live := [1, 5, 6, 7, 8, 9]) (keep := [16, 192, 272, 304, 400]) (b := d23l0) (L.tail) (fun k (a : Nat × (Nat × Int)) => a.1 = k + 1) (worstG (⟨⟨⟨n0, n1⟩, ⟨n2, n3⟩, n4, n5, n6⟩, ⟨⟨n7, n8⟩, n9, n10⟩, n11, n12, n13, n14⟩ : Season)) (fun k (a : Nat × (Nat × Int)) => [(1, .ptr s.length 16 0), (5, .sl .no 1 (es cBools (maysS (⟨⟨⟨n0, n1⟩, ⟨n2, n3⟩, n4, n5, n6⟩, ⟨⟨n7, n8⟩, n9, n10⟩, n11, n12, n13, n14⟩ : Season)))), (6, .sl .no 1 (es cInts L)), (7, i64 ((a).2.1 : Nat)), (8, i64 (a).2.2), (9, i64 (1 + (k : Nat)))]) (fun k (a : Nat × (Nat × Int)) => [(16, .cell [i64 n0, i64 n1, i64 n2, i64 n3, .sl .no 2 (es cSp n4), .sl .no 2 (es cAnc n5), .sl .no 5 (es cWal n6), i64 n7, i64 n8, .sl .no 2 (es cSp n9), .sl .no 2 (es cBoat n10), .sl .no 4 (es cSky n11), .sl .no 1 (es cInts n12), .sl .no 1 (es cInt n13), .sl .no 2 (es cSp n14)])] :: s) (fun (a : Nat × (Nat × Int)) => (.exit 0, [(1, .ptr s.length 16 0), (5, .sl .no 1 (es cBools (maysS (⟨⟨⟨n0, n1⟩, ⟨n2, n3⟩, n4, n5, n6⟩, ⟨⟨n7, n8⟩, n9, n10⟩, n11, n12, n13, n14⟩ : Season)))), (6, .sl .no 1 (es cInts L)), (7, i64 ((a).2.1 : Nat)), (8, i64 (a).2.2), (9, i64 (1 + (L.tail.length : Nat))), (29, .bool false)], [(16, .cell [i64 n0, i64 n1, i64 n2, i64 n3, .sl .no 2 (es cSp n4), .sl .no 2 (es cAnc n5), .sl .no 5 (es cWal n6), i64 n7, i64 n8, .sl .no 2 (es cSp n9), .sl .no 2 (es cBoat n10), .sl .no 4 (es cSky n11), .sl .no 1 (es cInts n12), .sl .no 1 (es cInt n13), .sl .no 2 (es cSp n14)])] :: s)) (by simp) ?_ ?_ ?_ (1, (0, m)) (by simp) [(1, .ptr s.length 16 0), (5, .sl .no 1 (es cBools (maysS (⟨⟨⟨n0, n1⟩, ⟨n2, n3⟩, n4, n5, n6⟩, ⟨⟨n7, n8⟩, n9, n10⟩, n11, n12, n13, n14⟩ : Season)))), (6, .sl .no 1 (es cInts L)), (7, i64 0), (8, i64 m), (9, i64 1)] ([(16, .cell [i64 n0, i64 n1, i64 n2, i64 n3, .sl .no 2 (es cSp n4), .sl .no 2 (es cAnc n5), .sl .no 5 (es cWal n6), i64 n7, i64 n8, .sl .no 2 (es cSp n9), .sl .no 2 (es cBoat n10), .sl .no 4 (es cSky n11), .sl .no 1 (es cInts n12), .sl .no 1 (es cInt n13), .sl .no 2 (es cSp n14)])] :: s) (by simp) (by simp)
  · exact key
  · intro k a hk hi
    have hk0 : k + 1 < L.length := by simp at hk; omega
    have hn : (1 + (k : Int)).toNat = k + 1 := by omega
    have h0 : (0 : Int) ≤ 1 + k := by omega
    have hlt : 1 + (k : Int) < L.length := by omega
    have hw : IntKind.i64.wrap (1 + (k : Int) + 1) = 1 + ((k : Int) + 1) := by rw [wi _ (by omega) (by omega)]; omega
    have ht : L.tail[k] = L[k + 1] := by simp
    rw [ht]
    obtain ⟨c1, c2⟩ := hL L[k + 1] (List.getElem_mem hk0)
    have h1 := fun lab s => e_brings13r n0 n1 n2 n3 n4 n5 n6 n7 n8 n9 n10 n11 n12 n13 n14 hs hok L[k + 1] c2 (by omega) lab s
    obtain ⟨i, b, m⟩ := a
    simp only at hi
    subst hi
    have hc1 : ((k + 1 : Nat) : Int) = 1 + (k : Int) := by omega
    by_cases x1 : bringsS (⟨⟨⟨n0, n1⟩, ⟨n2, n3⟩, n4, n5, n6⟩, ⟨⟨n7, n8⟩, n9, n10⟩, n11, n12, n13, n14⟩ : Season) L[k + 1] < m
    · simp (maxSteps := 1000000) (disch := first | omega | assumption | decide +kernel | (simp; done) | (simp; omega) | fail) [run_drawnK, worstG, hk0, hn, h0, hlt, hw, h1, x1, hc1]
      omega
    · simp (maxSteps := 1000000) (disch := first | omega | assumption | decide +kernel | (simp; done) | (simp; omega) | fail) [run_drawnK, worstG, hk0, hn, h0, hlt, hw, h1, x1, hc1]
      omega
  · intro k a hk hi
    simp only [worstG, hi]
  · intro a hi
    have hlt : ¬ 1 + ((L.length - 1 : Nat) : Int) < L.length := by omega
    simp (maxSteps := 1000000) (disch := first | omega | assumption | decide +kernel | (simp; done) | (simp; omega) | fail) [hlt]
set_option maxHeartbeats 1000000 in
theorem e_Worst13 (n0 : Int) (n1 : Int) (n2 : Int) (n3 : Int) (n4 : List Sp) (n5 : List Anc) (n6 : List Wal) (n7 : Int) (n8 : Int) (n9 : List Sp) (n10 : List Boat) (n11 : List Sky) (n12 : List (List Int)) (n13 : List Int) (n14 : List Sp) (hs : ShortC (⟨⟨⟨n0, n1⟩, ⟨n2, n3⟩, n4, n5, n6⟩, ⟨⟨n7, n8⟩, n9, n10⟩, n11, n12, n13, n14⟩ : Season)) (lab s) : den T 23 [.agg [i64 n0, i64 n1, i64 n2, i64 n3, .sl .no 2 (es cSp n4), .sl .no 2 (es cAnc n5), .sl .no 5 (es cWal n6), i64 n7, i64 n8, .sl .no 2 (es cSp n9), .sl .no 2 (es cBoat n10), .sl .no 4 (es cSky n11), .sl .no 1 (es cInts n12), .sl .no 1 (es cInt n13), .sl .no 2 (es cSp n14)]] lab s = some (.tup [.sl .no 1 (es cInt (worstR (⟨⟨⟨n0, n1⟩, ⟨n2, n3⟩, n4, n5, n6⟩, ⟨⟨n7, n8⟩, n9, n10⟩, n11, n12, n13, n14⟩ : Season)).1), i64 (worstR (⟨⟨⟨n0, n1⟩, ⟨n2, n3⟩, n4, n5, n6⟩, ⟨⟨n7, n8⟩, n9, n10⟩, n11, n12, n13, n14⟩ : Season)).2], s) := by
  have hs1 : Short (⟨⟨⟨n0, n1⟩, ⟨n2, n3⟩, n4, n5, n6⟩, ⟨⟨n7, n8⟩, n9, n10⟩, n11, n12, n13, n14⟩ : Season) := hs.short
  have hc := fun lab s => e_Check13 n0 n1 n2 n3 n4 n5 n6 n7 n8 n9 n10 n11 n12 n13 n14 hs1.skies hs1.first hs1.days hs1.each lab s
  rw [den_fn t23 _ _ _ rfl]
  simp only [b23]
  cases c0 : seasonOk (⟨⟨⟨n0, n1⟩, ⟨n2, n3⟩, n4, n5, n6⟩, ⟨⟨n7, n8⟩, n9, n10⟩, n11, n12, n13, n14⟩ : Season)
  · simp (maxSteps := 1000000) (disch := first | omega | assumption | decide +kernel | (simp; done) | (simp; omega) | fail) [hc, c0, worstR]
  have hM := fun lab s => e_Mays n0 n1 n2 n3 n4 n5 n6 n7 n8 n9 n10 n11 n12 n13 n14 hs c0 lab s
  have hC := fun lab s => e_allCourses n0 n1 n2 n3 n4 n5 n6 n7 n8 n9 n10 n11 n12 n13 n14 hs1 c0 lab s
  obtain ⟨k1, k2, k3⟩ := allCourses_ok c0
  simp only at k3
  have hpos : 0 < (allCourses (⟨⟨⟨n0, n1⟩, ⟨n2, n3⟩, n4, n5, n6⟩, ⟨⟨n7, n8⟩, n9, n10⟩, n11, n12, n13, n14⟩ : Season)).length := List.length_pos_iff.2 k2
  obtain ⟨x, r, hxr⟩ : ∃ x r, allCourses (⟨⟨⟨n0, n1⟩, ⟨n2, n3⟩, n4, n5, n6⟩, ⟨⟨n7, n8⟩, n9, n10⟩, n11, n12, n13, n14⟩ : Season) = x :: r := by cases h : allCourses (⟨⟨⟨n0, n1⟩, ⟨n2, n3⟩, n4, n5, n6⟩, ⟨⟨n7, n8⟩, n9, n10⟩, n11, n12, n13, n14⟩ : Season) with
    | nil => exact absurd h k2
    | cons x r => exact ⟨x, r, rfl⟩
  obtain ⟨d1, d2⟩ := k3 x (by rw [hxr]; simp)
  have hbx := fun lab s => e_brings13r n0 n1 n2 n3 n4 n5 n6 n7 n8 n9 n10 n11 n12 n13 n14 hs c0 x d2 (by omega) lab s
  have key := e_Worst13_l n0 n1 n2 n3 n4 n5 n6 n7 n8 n9 n10 n11 n12 n13 n14 hs c0 (allCourses (⟨⟨⟨n0, n1⟩, ⟨n2, n3⟩, n4, n5, n6⟩, ⟨⟨n7, n8⟩, n9, n10⟩, n11, n12, n13, n14⟩ : Season)) k3 k1 (bringsS (⟨⟨⟨n0, n1⟩, ⟨n2, n3⟩, n4, n5, n6⟩, ⟨⟨n7, n8⟩, n9, n10⟩, n11, n12, n13, n14⟩ : Season) x) s
  have hge : ∀ c ∈ allCourses (⟨⟨⟨n0, n1⟩, ⟨n2, n3⟩, n4, n5, n6⟩, ⟨⟨n7, n8⟩, n9, n10⟩, n11, n12, n13, n14⟩ : Season), 0 ≤ bringsS (⟨⟨⟨n0, n1⟩, ⟨n2, n3⟩, n4, n5, n6⟩, ⟨⟨n7, n8⟩, n9, n10⟩, n11, n12, n13, n14⟩ : Season) c := fun c hc => (brings_ok c0 (c := c) (by have := (k3 c hc).1; simp only; omega)).1
  obtain ⟨q, q1, q2, q3⟩ := worst_law (⟨⟨⟨n0, n1⟩, ⟨n2, n3⟩, n4, n5, n6⟩, ⟨⟨n7, n8⟩, n9, n10⟩, n11, n12, n13, n14⟩ : Season) (allCourses (⟨⟨⟨n0, n1⟩, ⟨n2, n3⟩, n4, n5, n6⟩, ⟨⟨n7, n8⟩, n9, n10⟩, n11, n12, n13, n14⟩ : Season)) r [x] 0 (bringsS (⟨⟨⟨n0, n1⟩, ⟨n2, n3⟩, n4, n5, n6⟩, ⟨⟨n7, n8⟩, n9, n10⟩, n11, n12, n13, n14⟩ : Season) x) hxr (by simp) (hge x (by rw [hxr]; simp)) hge
  have hq : worstQ (⟨⟨⟨n0, n1⟩, ⟨n2, n3⟩, n4, n5, n6⟩, ⟨⟨n7, n8⟩, n9, n10⟩, n11, n12, n13, n14⟩ : Season) = ((allCourses (⟨⟨⟨n0, n1⟩, ⟨n2, n3⟩, n4, n5, n6⟩, ⟨⟨n7, n8⟩, n9, n10⟩, n11, n12, n13, n14⟩ : Season))[q.2.1]?, q.2.2) := by
    rw [← q1, worstQ, hxr, List.foldl_cons]
    congr 1
  have ht : (allCourses (⟨⟨⟨n0, n1⟩, ⟨n2, n3⟩, n4, n5, n6⟩, ⟨⟨n7, n8⟩, n9, n10⟩, n11, n12, n13, n14⟩ : Season)).tail = r := by rw [hxr]; rfl
  have hr : worstR (⟨⟨⟨n0, n1⟩, ⟨n2, n3⟩, n4, n5, n6⟩, ⟨⟨n7, n8⟩, n9, n10⟩, n11, n12, n13, n14⟩ : Season) = ((allCourses (⟨⟨⟨n0, n1⟩, ⟨n2, n3⟩, n4, n5, n6⟩, ⟨⟨n7, n8⟩, n9, n10⟩, n11, n12, n13, n14⟩ : Season))[q.2.1]'q3, 0) := by
    rw [worstR, if_pos c0, hq, List.getElem?_eq_getElem q3]; rfl
  rw [hr]
  have h0 : (allCourses (⟨⟨⟨n0, n1⟩, ⟨n2, n3⟩, n4, n5, n6⟩, ⟨⟨n7, n8⟩, n9, n10⟩, n11, n12, n13, n14⟩ : Season))[0] = x := by simp [hxr]
  simp only [List.length_singleton] at q2
  rw [ht, q2] at key
  generalize allCourses (⟨⟨⟨n0, n1⟩, ⟨n2, n3⟩, n4, n5, n6⟩, ⟨⟨n7, n8⟩, n9, n10⟩, n11, n12, n13, n14⟩ : Season) = L at *
  simp (maxSteps := 1000000) (disch := first | omega | assumption | decide +kernel | (simp; done) | (simp; omega) | fail) [run_drawnK, hc, hM, hC, c0, hpos, h0, hbx, key, q3]
set_option maxHeartbeats 4000000 in
theorem e_SkiesBrings (n0 : Int) (n1 : Int) (n2 : Int) (n3 : Int) (n4 : List Sp) (n5 : List Anc) (n6 : List Wal) (n7 : Int) (n8 : Int) (n9 : List Sp) (n10 : List Boat) (n11 : List Sky) (n12 : List (List Int)) (n13 : List Int) (n14 : List Sp) (hs : ShortC (⟨⟨⟨n0, n1⟩, ⟨n2, n3⟩, n4, n5, n6⟩, ⟨⟨n7, n8⟩, n9, n10⟩, n11, n12, n13, n14⟩ : Season)) (c : List Int) (hcl : c.length < 17592186044416) (lab s) : den T 4 [.agg [i64 n0, i64 n1, i64 n2, i64 n3, .sl .no 2 (es cSp n4), .sl .no 2 (es cAnc n5), .sl .no 5 (es cWal n6), i64 n7, i64 n8, .sl .no 2 (es cSp n9), .sl .no 2 (es cBoat n10), .sl .no 4 (es cSky n11), .sl .no 1 (es cInts n12), .sl .no 1 (es cInt n13), .sl .no 2 (es cSp n14)], .sl .no 1 (es cInt c)] lab s = some (.bool true, s) := by
  have hs1 : Short (⟨⟨⟨n0, n1⟩, ⟨n2, n3⟩, n4, n5, n6⟩, ⟨⟨n7, n8⟩, n9, n10⟩, n11, n12, n13, n14⟩ : Season) := hs.short
  have hfar := fun lab s => e_Far13 n0 n1 n2 n3 n4 n5 n6 n7 n8 n9 n10 n11 n12 n13 n14 hs1.skies hs1.follows hs1.first hs1.days hs1.each lab s
  have hx := e_works
  have hc := fun lab loc s => e_Copy13 n0 n1 n2 n3 n4 n5 n6 n7 n8 n9 n10 n11 n12 n13 n14 hs lab loc s
  have a1 := fun lab s => e_Brings n0 n1 n2 n3 n4 n5 n6 n7 n8 n9 n10 n11 n12 n13 n14 hs1 c (by omega) lab s
  have a2 := fun lab s => e_Brings13 n0 n1 n2 n3 n4 n5 n6 n7 n8 n9 n10 n11 n12 n13 n14 hs c (by omega) lab s
  have a3 := fun lab s => e_Worst n0 n1 n2 n3 n4 n5 n6 n7 n8 n9 n10 n11 n12 n13 n14 hs1 lab s
  have a4 := fun lab s => e_Worst13 n0 n1 n2 n3 n4 n5 n6 n7 n8 n9 n10 n11 n12 n13 n14 hs lab s
  have hsame := fun lab s => e_Same13 n0 n1 n2 n3 n4 n5 n6 n7 n8 n9 n10 n11 n12 n13 n14 hs lab s
  have hwl : (worstR (⟨⟨⟨n0, n1⟩, ⟨n2, n3⟩, n4, n5, n6⟩, ⟨⟨n7, n8⟩, n9, n10⟩, n11, n12, n13, n14⟩ : Season)).1.length < 4611686018427387904 := by
    cases h : seasonOk (⟨⟨⟨n0, n1⟩, ⟨n2, n3⟩, n4, n5, n6⟩, ⟨⟨n7, n8⟩, n9, n10⟩, n11, n12, n13, n14⟩ : Season)
    · simp [worstR, h]
    · have := worst_len h; omega
  rw [den_fn t4 _ _ _ rfl]
  simp only [b4]
  cases c0 : farSeason (⟨⟨⟨n0, n1⟩, ⟨n2, n3⟩, n4, n5, n6⟩, ⟨⟨n7, n8⟩, n9, n10⟩, n11, n12, n13, n14⟩ : Season)
  rotate_left
  · simp (maxSteps := 6000000) (disch := first | omega | assumption | decide +kernel | (simp; done) | (simp; omega) | fail) [run_drawnK, hfar, c0, hx]
  by_cases c1 : (40 : Int) < c.length
  · simp (maxSteps := 6000000) (disch := first | omega | assumption | decide +kernel | (simp; done) | (simp; omega) | fail) [run_drawnK, hfar, c0, c1, hx]
  by_cases c2 : c = []
  · subst c2
    simp only [es_nil] at a1 a2
    have hs0 := fun lab s => e_SameInts [] (by simp) lab s
    simp only [es_nil] at hs0
    simp (maxSteps := 6000000) (disch := first | omega | assumption | decide +kernel | (simp; done) | (simp; omega) | fail) [run_drawnK, hfar, c0, c1, hx, hc, copyCells, a1, a2, a3, a4, hsame, hs0, appK_full_nil, appD_full_nil]
  · have c3 : es cInt c ≠ [] := by simpa using c2
    simp (maxSteps := 6000000) (disch := first | omega | assumption | decide +kernel | (simp; done) | (simp; omega) | fail) [run_drawnK, hfar, c0, c1, hx, hc, copyCells, a1, a2, a3, a4, hsame, appK_full, appD_full]
end Go.Proofs.YtekgicoibcgecaaGreat
