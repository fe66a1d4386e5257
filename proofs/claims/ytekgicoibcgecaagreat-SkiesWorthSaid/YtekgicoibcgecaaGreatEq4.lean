/-
  The reference of chapter 5: Sum, AreParts, partings, ShareOf, NeedOf, crews, Fits, CostOf, Crew.
-/
import Derived.Test.YtekgicoibcgecaaGreatEq3
set_option linter.unusedSimpArgs false
set_option linter.unusedVariables false
namespace Go.Proofs.YtekgicoibcgecaaGreat
open Go.Ab
theorem e_Sum_l (l : List Int) (hl : l.length ≤ 1000000) (hb : ∀ x : Int, x ∈ l → 0 ≤ x ∧ x ≤ 1000000) (s : Stk) :
 Run T b173l0 [(0, .sl .no 1 (es cInt l)), (3, i64 0), (4, i64 0)] ([] :: s) = some (.exit 0, [(0, .sl .no 1 (es cInt l)), (3, i64 ((l).foldl (fun (a x : Int) => a + x) 0)), (4, i64 l.length), (8, .bool false)], [] :: s) := by
 have key := loop_fold (T := T) (live := [0, 3, 4]) (keep := []) (b := d173l0) (l) (fun k (a : Int) => 0 ≤ a ∧ a ≤ 1000000 * k) (fun (a x : Int) => a + x) (fun k (a : Int) => [(0, .sl .no 1 (es cInt l)), (3, i64 a), (4, i64 k)]) (fun k (a : Int) => [] :: s) (fun (a : Int) => (.exit 0, [(0, .sl .no 1 (es cInt l)), (3, i64 a), (4, i64 l.length), (8, .bool false)], [] :: s)) (by simp) ?_ ?_ ?_ 0 (by simp) [(0, .sl .no 1 (es cInt l)), (3, i64 0), (4, i64 0)] ([] :: s) (by simp) (by simp)
 ·exact key
 ·intro k a hk hi
  have hx := hb l[k] (List.getElem_mem hk)
  have hwr : IntKind.i64.wrap (a + l[k]) = a + l[k] := wi _ (by omega) (by omega)
  simp (disch := first | omega | assumption | decide +kernel | (simp; done) | (simp; omega) | fail) [hk, hwr, wk k (by omega)]
 ·intro k a hk hi
  have hx := hb l[k] (List.getElem_mem hk)
  omega
 ·intro a hi
  simp
theorem fold_sum (l : List Int) (a : Int) : l.foldl (fun (a x : Int) => a + x) a = a + l.sum := by
 induction l generalizing a with
 | nil => simp
 | cons x l ih => rw [List.foldl_cons, ih, List.sum_cons, Int.add_assoc]
theorem e_Sum (l : List Int) (hl : l.length ≤ 1000000) (hb : ∀ x : Int, x ∈ l → 0 ≤ x ∧ x ≤ 1000000) (lab s) : den T 173 [.sl .no 1 (es cInt l)] lab s = some (i64 l.sum, s) := by
 have key := e_Sum_l l hl hb s
 rw [fold_sum, Int.zero_add] at key
 rw [den_fn t173 _ _ _ rfl]
 simp only [b173]
 simp (disch := first | omega | assumption | decide +kernel | (simp; done) | (simp; omega) | fail) [key]
theorem fitsG_mem {r : List Sp} {t : List Int} (h : fitsG r t) {m : Int} (hr : ∀ x ∈ r, spanOk x m = true) : ∀ x : Int, x ∈ t → 0 ≤ x ∧ x ≤ m := by
 intro x hx
 obtain ⟨i, hi, rfl⟩ := List.getElem_of_mem hx
 have hl := fitsG_len h
 have q := fitsG_get h i (by omega) hi
 have := spanOk_iff.1 (hr _ (List.getElem_mem (show i < r.length by omega)))
 omega
theorem fitsG_snoc : ∀ {r : List Sp} {t : List Int} {x : Sp} {g : Int}, fitsG r t → x.lo ≤ g → g ≤ x.hi → fitsG (r ++ [x]) (t ++ [g])
 | [], [], _, _, _, h1, h2 => ⟨⟨h1, h2⟩, trivial⟩
 | _ :: _, _ :: _, _, _, h, h1, h2 => ⟨h.1, fitsG_snoc h.2 h1 h2⟩
 | [], _ :: _, _, _, h, _, _ => h.elim
 | _ :: _, [], _, _, h, _, _ => h.elim
theorem e_AreParts_l (n0 : Int) (n1 : Int) (n2 : List Sp) (n3 : List Boat) (l : List Int) (hl : fitsG n2 l) (h2 : n2.length ≤ 4) (s : Stk) :
 Run T b172l0 [(1, .sl .no 1 (es cInt l)), (2, .ptr s.length 32 0), (5, i64 0)] ([(32, .cell [i64 n0, i64 n1, .sl .no 2 (es cSp n2), .sl .no 2 (es cBoat n3)])] :: s) = some (.exit 0, [(1, .sl .no 1 (es cInt l)), (2, .ptr s.length 32 0), (5, i64 l.length), (15, .bool false)], [(32, .cell [i64 n0, i64 n1, .sl .no 2 (es cSp n2), .sl .no 2 (es cBoat n3)])] :: s) := by
 have key := loop_fold (T := T) (live := [1, 2, 5]) (keep := [32, 592]) (b := d172l0) (List.range l.length) (fun _ _ => True) (fun (_ : Unit) (_ : Nat) => ()) (fun k (a : Unit) => [(1, .sl .no 1 (es cInt l)), (2, .ptr s.length 32 0), (5, i64 k)]) (fun k (a : Unit) => [(32, .cell [i64 n0, i64 n1, .sl .no 2 (es cSp n2), .sl .no 2 (es cBoat n3)])] :: s) (fun (a : Unit) => (.exit 0, [(1, .sl .no 1 (es cInt l)), (2, .ptr s.length 32 0), (5, i64 l.length), (15, .bool false)], [(32, .cell [i64 n0, i64 n1, .sl .no 2 (es cSp n2), .sl .no 2 (es cBoat n3)])] :: s)) (by simp) ?_ ?_ ?_ () (by simp) [(1, .sl .no 1 (es cInt l)), (2, .ptr s.length 32 0), (5, i64 0)] ([(32, .cell [i64 n0, i64 n1, .sl .no 2 (es cSp n2), .sl .no 2 (es cBoat n3)])] :: s) (by simp) (by simp)
 ·exact key
 ·intro k a hk hi
  try simp only [List.length_range] at hk
  try simp only [List.getElem_range]
  have hll := fitsG_len hl
  have hk2 : k < n2.length := by omega
  have hw : within l[k] n2[k].lo n2[k].hi = true := within_iff.2 (fitsG_get hl k hk2 hk)
  simp (disch := first | omega | assumption | decide +kernel | (simp; done) | (simp; omega) | fail) [hk, hk2, hw, wk k (by omega)]
 ·intro k a hk hi
  try simp only [List.length_range] at hk
  try simp only [List.getElem_range]
  try simp
 ·intro a hi
  simp
theorem e_AreParts (n0 : Int) (n1 : Int) (n2 : List Sp) (n3 : List Boat) (l : List Int) (hl : fitsG n2 l) (h2 : n2.length ≤ 4) (h12 : ∀ x ∈ n2, spanOk x 12 = true) (lab s) : den T 172 [.agg [i64 n0, i64 n1, .sl .no 2 (es cSp n2), .sl .no 2 (es cBoat n3)], .sl .no 1 (es cInt l)] lab s = some (.bool (decide (l.sum = 12)), s) := by
 have key := e_AreParts_l n0 n1 n2 n3 l hl h2 s
 have hll := fitsG_len hl
 have hs := fun lab s => e_Sum l (by omega) (fun x hx => by have := fitsG_mem hl h12 x hx; omega) lab s
 rw [den_fn t172 _ _ _ rfl]
 simp only [b172]
 simp (disch := first | omega | assumption | decide +kernel | (simp; done) | (simp; omega) | fail) [key, hll, hs]
theorem take_snoc {α : Type} {l : List α} {k : Nat} (h : k < l.length) : l.take (k + 1) = l.take k ++ [l[k]] := List.take_succ_eq_append_getElem h
set_option maxHeartbeats 4000000 in
theorem e_partings (n0 : Int) (n1 : Int) (n2 : List Sp) (n3 : List Boat) (hl : n2.length ≤ 4) (hg : ∀ x ∈ n2, spanOk x 12 = true) : ∀ (m : Nat) (first : List Int), first.length + m = n2.length → fitsG (n2.take first.length) first → ∀ (lab : Nat) (s : Stk),
 den T 171 [.agg [i64 n0, i64 n1, .sl .no 2 (es cSp n2), .sl .no 2 (es cBoat n3)], .sl .no 1 (es cInt first)] lab s = some (.sl .no 1 (es cInts (partingsFrom (n2.drop first.length) first)), s) := by
 intro m
 induction m with
 | zero =>
   intro first hf hfit lab s
   have hf' : first.length = n2.length := by omega
   rw [List.drop_of_length_le (by omega), partingsFrom]
   rw [List.take_of_length_le (by omega)] at hfit
   have hq : (first.length : Int) = n2.length := by omega
   have ha := fun lab s => e_AreParts n0 n1 n2 n3 first hfit hl hg lab s
   rw [den_fn t171 _ _ _ rfl]
   simp only [b171]
   by_cases hs : first.sum = 12
   ·simp (disch := first | omega | assumption | decide +kernel | (simp; done) | (simp; omega) | fail) [hq, hf, ha, hs, es_ints_one]
   ·simp (disch := first | omega | assumption | decide +kernel | (simp; done) | (simp; omega) | fail) [hq, hf, ha, hs]
 | succ m ih =>
   intro first hf hfit lab s
   have hk : first.length < n2.length := by omega
   have hk2 : (first.length : Int) < n2.length := by omega
   have hq : ¬ first.length = n2.length := by omega
   have hq2 : ¬ (first.length : Int) = n2.length := by omega
   have hx := spanOk_iff.1 (hg n2[first.length] (List.getElem_mem hk))
   have hlen := rng_len n2[first.length].lo n2[first.length].hi
   rw [List.drop_eq_getElem_cons hk, partingsFrom]
   have ih2 := fun (g : Int) (h1 : n2[first.length].lo ≤ g) (h2 : g ≤ n2[first.length].hi) lab s => ih (first ++ [g]) (by simp; omega) (by
    rw [List.length_append, List.length_singleton, take_snoc hk]
    exact fitsG_snoc hfit h1 h2) lab s
   have hdrop : ∀ g : Int, n2.drop (first ++ [g]).length = n2.drop (first.length + 1) := fun g => by simp
   simp only [hdrop] at ih2
   have hb : ∀ g : Int, (partingsFrom (n2.drop (first.length + 1)) (first ++ [g])).length ≤ 2197 := fun g => by
    refine Nat.le_trans (partings_bound 12 13 rfl _ (fun x hx => hg x (List.mem_of_mem_drop hx)) _) ?_
    rw [List.length_drop]
    calc 13 ^ (n2.length - (first.length + 1)) ≤ 13 ^ 3 := Nat.pow_le_pow_right (by omega) (by omega)
     _ = 2197 := rfl
   have key := loop_fold (T := T) (live := [1, 2, 5, 6, 7]) (keep := [32, 81, 96, 256]) (b := d171l0) (rng n2[first.length].lo n2[first.length].hi) (fun k (a : List (List Int)) => a.length ≤ k * 2197) (fun a g => a ++ partingsFrom (n2.drop (first.length + 1)) (first ++ [g]))
    (fun k a => [(1, .sl .no 1 (es cInt first)), (2, .ptr s.length 32 0), (5, .sl (.own s.length 81) 1 (es cInts a)), (6, .ptr s.length 96 0), (7, i64 (n2[first.length].lo + k))])
    (fun _ a => [(32, .cell [i64 n0, i64 n1, .sl .no 2 (es cSp n2), .sl .no 2 (es cBoat n3)]), (96, .cell [i64 n2[first.length].lo, i64 n2[first.length].hi]), (81, .tok a.length)] :: s)
    (fun a => (.exit 0, [(1, .sl .no 1 (es cInt first)), (2, .ptr s.length 32 0), (5, .sl (.own s.length 81) 1 (es cInts a)), (6, .ptr s.length 96 0), (7, i64 (n2[first.length].hi + 1)), (30, .bool false)], [(32, .cell [i64 n0, i64 n1, .sl .no 2 (es cSp n2), .sl .no 2 (es cBoat n3)]), (96, .cell [i64 n2[first.length].lo, i64 n2[first.length].hi]), (81, .tok a.length)] :: s))
    (by simp) ?_ ?_ ?_ [] (by simp) [(5, .sl (.own s.length 81) 1 []), (1, .sl .no 1 (es cInt first)), (2, .ptr s.length 32 0), (5, .sl .full 1 []), (6, .ptr s.length 96 0), (7, i64 n2[first.length].lo)] ([(32, .cell [i64 n0, i64 n1, .sl .no 2 (es cSp n2), .sl .no 2 (es cBoat n3)]), (96, .cell [i64 n2[first.length].lo, i64 n2[first.length].hi]), (81, .tok 0)] :: s) (by simp) (by simp)
   ·rw [fold_app2, List.nil_append] at key
    change Run T b171l0 _ _ = _ at key
    rw [den_fn t171 _ _ _ rfl]
    simp only [b171]
    simp (maxSteps := 1000000) (disch := first | omega | assumption | decide +kernel | (simp; done) | (simp; omega) | fail) [run_drawnK, hk, hk2, hq, hq2, key]
   ·intro k a hk' hi
    rw [hlen] at hk'
    have hle : n2[first.length].lo + (k : Int) ≤ n2[first.length].hi := by omega
    have hgb := hb (n2[first.length].lo + (k : Int))
    rw [rng_get]
    have ih3 := ih2 (n2[first.length].lo + (k : Int)) (by omega) hle
    have hwr : IntKind.i64.wrap (n2[first.length].lo + ((k : Int) + 1)) = n2[first.length].lo + ((k : Int) + 1) := wi _ (by omega) (by omega)
    have hk100 : k < 100 := by omega
    generalize partingsFrom (n2.drop (first.length + 1)) (first ++ [n2[first.length].lo + (k : Int)]) = L at *
    generalize n2[first.length] = p at *
    by_cases h0 : first = []
    ·subst h0
     simp only [List.nil_append, es_int_one] at ih3
     simp (maxSteps := 1000000) (disch := first | omega | assumption | decide +kernel | (simp; done) | (simp; omega) | fail) [run_drawnK, hle, ih3, hwr, appK_many, appD_full_nil, appD_full, Int.add_assoc]
    ·simp (maxSteps := 1000000) (disch := first | omega | assumption | decide +kernel | (simp; done) | (simp; omega) | fail) [run_drawnK, hle, ih3, hwr, h0, appK_many, appD_full_nil, appD_full, appD_own1, appK_own1, Int.add_assoc]
   ·intro k a hk' hi
    rw [rng_get, List.length_append]
    have := hb (n2[first.length].lo + (k : Int))
    omega
   ·intro a hi
    rw [hlen]
    have e : n2[first.length].lo + (((n2[first.length].hi + 1 - n2[first.length].lo).toNat : Nat) : Int) = n2[first.length].hi + 1 := by omega
    rw [e]
    generalize n2[first.length] = p at *
    have hle : ¬ p.hi + 1 ≤ p.hi := by omega
    simp [hle]
theorem partingsS_short {n : Sea} (hok : seaOk n = true) : (partingsS n).length ≤ 28561 := by
 obtain ⟨h1, h2, h3, h4, h5, h6, h7⟩ := seaOk_iff.1 hok
 refine Nat.le_trans (partings_bound 12 13 rfl _ h4 _) ?_
 calc 13 ^ n.places.length ≤ 13 ^ 4 := Nat.pow_le_pow_right (by omega) h2
  _ = 28561 := rfl
theorem e_partingsS (n0 : Int) (n1 : Int) (n2 : List Sp) (n3 : List Boat) (hok : seaOk (⟨⟨n0, n1⟩, n2, n3⟩ : Sea) = true) (lab s) : den T 171 [.agg [i64 n0, i64 n1, .sl .no 2 (es cSp n2), .sl .no 2 (es cBoat n3)], .sl .no 1 []] lab s = some (.sl .no 1 (es cInts (partingsS (⟨⟨n0, n1⟩, n2, n3⟩ : Sea))), s) := by
 obtain ⟨h1, h2, h3, h4, h5, h6, h7⟩ := seaOk_iff.1 hok
 simp only at h2 h4
 have := e_partings n0 n1 n2 n3 h2 h4 n2.length [] (by simp) (by simp [fitsG]) lab s
 simpa [partingsS] using this
def shareG (i : Nat) (a : Int × Int) (t : List Int) : Int × Int := (min a.1 (t.getD i 0), max a.2 (t.getD i 0))
def shareS (n : Sea) (i : Nat) : Int × Int := (partingsS n).foldl (shareG i) (((partingsS n).headD []).getD i 0, ((partingsS n).headD []).getD i 0)
theorem share_max (i : Nat) (M : Int) : ∀ (l : List (List Int)) (a : Int × Int), (∀ t ∈ l, t.getD i 0 ≤ M) → a.2 ≤ M → (a.2 = M ∨ ∃ t ∈ l, t.getD i 0 = M) → (l.foldl (shareG i) a).2 = M
 | [], a, _, h1, h2 => by
   rcases h2 with h2 | ⟨t, ht, _⟩
   ·exact h2
   ·simp at ht
 | t :: l, a, hl, h1, h2 => by
   rw [List.foldl_cons]
   have ht := hl t (by simp)
   refine share_max i M l _ (fun t h => hl t (by simp [h])) (by simp only [shareG]; omega) ?_
   simp only [shareG]
   rcases h2 with h2 | ⟨t', ht', h2⟩
   ·left; omega
   ·rcases List.mem_cons.1 ht' with rfl | ht'
    ·left; omega
    ·exact .inr ⟨t', ht', h2⟩
theorem share_law {n : Sea} (hok : seaOk n = true) {i : Nat} (hi : i < n.places.length) : (shareS n i).2 = (partS n i).hi := by
 obtain ⟨h1, t, ht, h2⟩ := part_greatest hok hi
 refine share_max i _ _ _ h1 ?_ (.inr ⟨t, ht, h2⟩)
 cases hl : partingsS n with
 | nil => rw [hl] at ht; simp at ht
 | cons x l => exact h1 x (by rw [hl]; simp)
theorem partings_get {n : Sea} {t : List Int} (h : t ∈ partingsS n) {i : Nat} (hi : i < n.places.length) : ∃ h2 : i < t.length, t.getD i 0 = t[i] := by
 have := fitsG_len (mem_partingsS.1 h).1
 have h2 : i < t.length := by omega
 exact ⟨h2, by simp [List.getD, h2]⟩
theorem e_ShareOf_l (n0 : Int) (n1 : Int) (n2 : List Sp) (n3 : List Boat) (i : Nat) (hil : i < n2.length) (L : List (List Int)) (hL : ∀ t ∈ L, t ∈ partingsS (⟨⟨n0, n1⟩, n2, n3⟩ : Sea)) (hlen : L.length ≤ 1000000) (x y : Int) (s : Stk) :
 Run T b167l0 [(1, i64 i), (4, .ptr s.length 64 0), (5, .sl .no 1 (es cInts L)), (6, .ptr s.length 96 0), (7, i64 0)] ([(32, .cell [i64 n0, i64 n1, .sl .no 2 (es cSp n2), .sl .no 2 (es cBoat n3)]), (64, .cell [i64 0, i64 0]), (96, .cell [i64 ((x, y)).1, i64 ((x, y)).2])] :: s) = some (.exit 0, [(1, i64 i), (4, .ptr s.length 64 0), (5, .sl .no 1 (es cInts L)), (6, .ptr s.length 96 0), (7, i64 L.length), (26, .bool false)], [(32, .cell [i64 n0, i64 n1, .sl .no 2 (es cSp n2), .sl .no 2 (es cBoat n3)]), (64, .cell [i64 0, i64 0]), (96, .cell [i64 (((L).foldl (shareG i) (x, y))).1, i64 (((L).foldl (shareG i) (x, y))).2])] :: s) := by
 have key := loop_fold (T := T) (live := [1, 4, 5, 6, 7]) (keep := [32, 64, 96, 144]) (b := d167l0) (L) (fun _ _ => True) (shareG i) (fun k (a : Int × Int) => [(1, i64 i), (4, .ptr s.length 64 0), (5, .sl .no 1 (es cInts L)), (6, .ptr s.length 96 0), (7, i64 k)]) (fun k (a : Int × Int) => [(32, .cell [i64 n0, i64 n1, .sl .no 2 (es cSp n2), .sl .no 2 (es cBoat n3)]), (64, .cell [i64 0, i64 0]), (96, .cell [i64 (a).1, i64 (a).2])] :: s) (fun (a : Int × Int) => (.exit 0, [(1, i64 i), (4, .ptr s.length 64 0), (5, .sl .no 1 (es cInts L)), (6, .ptr s.length 96 0), (7, i64 L.length), (26, .bool false)], [(32, .cell [i64 n0, i64 n1, .sl .no 2 (es cSp n2), .sl .no 2 (es cBoat n3)]), (64, .cell [i64 0, i64 0]), (96, .cell [i64 (a).1, i64 (a).2])] :: s)) (by simp) ?_ ?_ ?_ (x, y) (by simp) [(1, i64 i), (4, .ptr s.length 64 0), (5, .sl .no 1 (es cInts L)), (6, .ptr s.length 96 0), (7, i64 0)] ([(32, .cell [i64 n0, i64 n1, .sl .no 2 (es cSp n2), .sl .no 2 (es cBoat n3)]), (64, .cell [i64 0, i64 0]), (96, .cell [i64 ((x, y)).1, i64 ((x, y)).2])] :: s) (by simp) (by simp)
 ·exact key
 ·intro k a hk hi
  obtain ⟨h2, h3⟩ := partings_get (hL L[k] (List.getElem_mem hk)) (i := i) hil
  simp only [shareG, h3]
  simp (maxSteps := 1000000) (disch := first | omega | assumption | decide +kernel | (simp; done) | (simp; omega) | fail) [run_drawnK, hk, h2, wk k (by omega)]
 ·intro k a hk hi
  try simp
 ·intro a hi
  simp
theorem e_ShareOf (n0 : Int) (n1 : Int) (n2 : List Sp) (n3 : List Boat) (hok : seaOk (⟨⟨n0, n1⟩, n2, n3⟩ : Sea) = true) (i : Nat) (hi : i < n2.length) (lab s) : den T 167 [.agg [i64 n0, i64 n1, .sl .no 2 (es cSp n2), .sl .no 2 (es cBoat n3)], i64 i] lab s = some (.agg [i64 (shareS (⟨⟨n0, n1⟩, n2, n3⟩ : Sea) i).1, i64 (shareS (⟨⟨n0, n1⟩, n2, n3⟩ : Sea) i).2], s) := by
 have hp := fun lab s => e_partingsS n0 n1 n2 n3 hok lab s
 have hsh := partingsS_short hok
 obtain ⟨_, t, ht, _⟩ := part_greatest hok (i := i) hi
 have key := fun x y => e_ShareOf_l n0 n1 n2 n3 i hi (partingsS (⟨⟨n0, n1⟩, n2, n3⟩ : Sea)) (fun t h => h) (by omega) x y s
 have hne : 0 < (partingsS (⟨⟨n0, n1⟩, n2, n3⟩ : Sea)).length := List.length_pos_of_mem ht
 obtain ⟨h2, h3⟩ := partings_get (List.getElem_mem hne) (i := i) hi
 have hd : (partingsS (⟨⟨n0, n1⟩, n2, n3⟩ : Sea)).headD [] = (partingsS (⟨⟨n0, n1⟩, n2, n3⟩ : Sea))[0] := by
  rw [List.headD_eq_head?_getD, List.head?_eq_getElem?, List.getElem?_eq_getElem hne]; rfl
 have e : shareS (⟨⟨n0, n1⟩, n2, n3⟩ : Sea) i = (partingsS (⟨⟨n0, n1⟩, n2, n3⟩ : Sea)).foldl (shareG i) ((partingsS (⟨⟨n0, n1⟩, n2, n3⟩ : Sea))[0][i], (partingsS (⟨⟨n0, n1⟩, n2, n3⟩ : Sea))[0][i]) := by rw [shareS, hd, h3]
 rw [e]
 rw [den_fn t167 _ _ _ rfl]
 simp only [b167]
 simp (maxSteps := 1000000) (disch := first | omega | assumption | decide +kernel | (simp; done) | (simp; omega) | fail) [run_drawnK, hp, key, hne, h2]
theorem e_NeedOf_l (n0 : Int) (n1 : Int) (n2 : List Sp) (n3 : List Boat) (hok : seaOk (⟨⟨n0, n1⟩, n2, n3⟩ : Sea) = true) (i : Nat) (hil : i < n2.length) (s : Stk) :
 Run T b156l0 [(1, i64 i), (2, .ptr s.length 32 0), (5, i64 0)] ([(32, .cell [i64 n0, i64 n1, .sl .no 2 (es cSp n2), .sl .no 2 (es cBoat n3)])] :: s) = some (.exit 0, [(1, i64 i), (2, .ptr s.length 32 0), (5, i64 (needS (⟨⟨n0, n1⟩, n2, n3⟩ : Sea) i).toNat), (16, .bool false)], [(32, .cell [i64 n0, i64 n1, .sl .no 2 (es cSp n2), .sl .no 2 (es cBoat n3)])] :: s) := by
 have key := loop_fold (T := T) (live := [1, 2, 5]) (keep := [32]) (b := d156l0) (List.range (needS (⟨⟨n0, n1⟩, n2, n3⟩ : Sea) i).toNat) (fun _ _ => True) (fun (_ : Unit) (_ : Nat) => ()) (fun k (a : Unit) => [(1, i64 i), (2, .ptr s.length 32 0), (5, i64 k)]) (fun k (a : Unit) => [(32, .cell [i64 n0, i64 n1, .sl .no 2 (es cSp n2), .sl .no 2 (es cBoat n3)])] :: s) (fun (a : Unit) => (.exit 0, [(1, i64 i), (2, .ptr s.length 32 0), (5, i64 (needS (⟨⟨n0, n1⟩, n2, n3⟩ : Sea) i).toNat), (16, .bool false)], [(32, .cell [i64 n0, i64 n1, .sl .no 2 (es cSp n2), .sl .no 2 (es cBoat n3)])] :: s)) (by simp) ?_ ?_ ?_ () (by simp) [(1, i64 i), (2, .ptr s.length 32 0), (5, i64 0)] ([(32, .cell [i64 n0, i64 n1, .sl .no 2 (es cSp n2), .sl .no 2 (es cBoat n3)])] :: s) (by simp) (by simp)
 ·exact key
 ·intro k a hk hi
  try simp only [List.length_range] at hk
  try simp only [List.getElem_range]
  obtain ⟨h1, h2, h3, h4, h5, h6, h7⟩ := seaOk_iff.1 hok
  have hw := spanOk_iff.1 h1
  have hp := part_bound hok i
  have hm := mulb (a := n1) (A := 2000) (w := (partS (⟨⟨n0, n1⟩, n2, n3⟩ : Sea) i).hi) (W := 12) (by simp only at hw; omega) (by simp only at hw; omega) (by omega) (by omega)
  have hsh := fun lab s => e_ShareOf n0 n1 n2 n3 hok i hil lab s
  have hsl := share_law hok (i := i) hil
  have hN : needS (⟨⟨n0, n1⟩, n2, n3⟩ : Sea) i = (n1 * (partS (⟨⟨n0, n1⟩, n2, n3⟩ : Sea) i).hi + 11) / 12 := rfl
  have hlt : 12 * (k : Int) < n1 * (partS (⟨⟨n0, n1⟩, n2, n3⟩ : Sea) i).hi := by omega
  simp (maxSteps := 1000000) (disch := first | omega | assumption | decide +kernel | (simp; done) | (simp; omega) | fail) [hsh, hsl, hlt, wi, wk k (by omega)]
 ·intro k a hk hi
  try simp only [List.length_range] at hk
  try simp only [List.getElem_range]
  try simp
 ·intro a hi
  obtain ⟨h1, h2, h3, h4, h5, h6, h7⟩ := seaOk_iff.1 hok
  have hw := spanOk_iff.1 h1
  have hp := part_bound hok i
  have hm := mulb (a := n1) (A := 2000) (w := (partS (⟨⟨n0, n1⟩, n2, n3⟩ : Sea) i).hi) (W := 12) (by simp only at hw; omega) (by simp only at hw; omega) (by omega) (by omega)
  have hsh := fun lab s => e_ShareOf n0 n1 n2 n3 hok i hil lab s
  have hsl := share_law hok (i := i) hil
  have hN : needS (⟨⟨n0, n1⟩, n2, n3⟩ : Sea) i = (n1 * (partS (⟨⟨n0, n1⟩, n2, n3⟩ : Sea) i).hi + 11) / 12 := rfl
  have hlt : ¬ 12 * max (needS (⟨⟨n0, n1⟩, n2, n3⟩ : Sea) i) 0 < n1 * (partS (⟨⟨n0, n1⟩, n2, n3⟩ : Sea) i).hi := by omega
  rw [List.length_range]
  simp (maxSteps := 1000000) (disch := first | omega | assumption | decide +kernel | (simp; done) | (simp; omega) | fail) [hsh, hsl, hlt, wi]
theorem needS_nonneg {n : Sea} (hok : seaOk n = true) (i : Nat) : 0 ≤ needS n i := by
 obtain ⟨h1, h2, h3, h4, h5, h6, h7⟩ := seaOk_iff.1 hok
 have hw := spanOk_iff.1 h1
 have hp := part_bound hok i
 have hm := mulb (a := n.weight.hi) (A := 2000) (w := (partS n i).hi) (W := 12) (by omega) (by omega) (by omega) (by omega)
 unfold needS; omega
theorem e_NeedOf (n0 : Int) (n1 : Int) (n2 : List Sp) (n3 : List Boat) (hok : seaOk (⟨⟨n0, n1⟩, n2, n3⟩ : Sea) = true) (i : Nat) (hi : i < n2.length) (lab s) : den T 156 [.agg [i64 n0, i64 n1, .sl .no 2 (es cSp n2), .sl .no 2 (es cBoat n3)], i64 i] lab s = some (i64 (needS (⟨⟨n0, n1⟩, n2, n3⟩ : Sea) i), s) := by
 have key := e_NeedOf_l n0 n1 n2 n3 hok i hi s
 have hn := needS_nonneg hok i
 have e : (((needS (⟨⟨n0, n1⟩, n2, n3⟩ : Sea) i).toNat : Nat) : Int) = needS (⟨⟨n0, n1⟩, n2, n3⟩ : Sea) i := by omega
 rw [e] at key
 rw [den_fn t156 _ _ _ rfl]
 simp only [b156]
 simp (disch := first | omega | assumption | decide +kernel | (simp; done) | (simp; omega) | fail) [key]
def needsS (n : Sea) : List Int := (List.range n.places.length).map (needS n)
theorem e_NeedsOf_l (n0 : Int) (n1 : Int) (n2 : List Sp) (n3 : List Boat) (hok : seaOk (⟨⟨n0, n1⟩, n2, n3⟩ : Sea) = true) (s : Stk) :
 Run T b132l0 [(3, .sl (.own s.length 49) 1 []), (1, .ptr s.length 16 0), (3, .sl .full 1 []), (4, i64 0)] ([(16, .cell [i64 n0, i64 n1, .sl .no 2 (es cSp n2), .sl .no 2 (es cBoat n3)]), (49, .tok 0)] :: s) = some (.exit 0, [(1, .ptr s.length 16 0), (3, .sl (.own s.length 49) 1 (es cInt ((List.range n2.length).foldl (fun (a : List Int) (i : Nat) => a ++ [needS (⟨⟨n0, n1⟩, n2, n3⟩ : Sea) i]) []))), (4, i64 n2.length), (9, .bool false)], [(16, .cell [i64 n0, i64 n1, .sl .no 2 (es cSp n2), .sl .no 2 (es cBoat n3)]), (49, .tok ((List.range n2.length).foldl (fun (a : List Int) (i : Nat) => a ++ [needS (⟨⟨n0, n1⟩, n2, n3⟩ : Sea) i]) []).length)] :: s) := by
 have key := loop_fold (T := T) (live := [1, 3, 4]) (keep := [16, 49]) (b := d132l0) (List.range n2.length) (fun k (a : List Int) => a.length = k) (fun (a : List Int) (i : Nat) => a ++ [needS (⟨⟨n0, n1⟩, n2, n3⟩ : Sea) i]) (fun k (a : List Int) => [(1, .ptr s.length 16 0), (3, .sl (.own s.length 49) 1 (es cInt a)), (4, i64 k)]) (fun k (a : List Int) => [(16, .cell [i64 n0, i64 n1, .sl .no 2 (es cSp n2), .sl .no 2 (es cBoat n3)]), (49, .tok a.length)] :: s) (fun (a : List Int) => (.exit 0, [(1, .ptr s.length 16 0), (3, .sl (.own s.length 49) 1 (es cInt a)), (4, i64 n2.length), (9, .bool false)], [(16, .cell [i64 n0, i64 n1, .sl .no 2 (es cSp n2), .sl .no 2 (es cBoat n3)]), (49, .tok a.length)] :: s)) (by simp) ?_ ?_ ?_ [] (by simp) [(3, .sl (.own s.length 49) 1 []), (1, .ptr s.length 16 0), (3, .sl .full 1 []), (4, i64 0)] ([(16, .cell [i64 n0, i64 n1, .sl .no 2 (es cSp n2), .sl .no 2 (es cBoat n3)]), (49, .tok 0)] :: s) (by simp) (by simp)
 ·exact key
 ·intro k a hk hi
  try simp only [List.length_range] at hk
  try simp only [List.getElem_range]
  have h2 := (seaOk_iff.1 hok).2.1
  simp only at h2
  have hN := fun lab s => e_NeedOf n0 n1 n2 n3 hok k hk lab s
  simp (maxSteps := 1000000) (disch := first | omega | assumption | decide +kernel | (simp; done) | (simp; omega) | fail) [hk, hN, appK_own1, wk k (by omega)]
 ·intro k a hk hi
  try simp only [List.length_range] at hk
  try simp only [List.getElem_range]
  simp [hi]
 ·intro a hi
  simp
theorem e_NeedsOf (n0 : Int) (n1 : Int) (n2 : List Sp) (n3 : List Boat) (hok : seaOk (⟨⟨n0, n1⟩, n2, n3⟩ : Sea) = true) (lab s) : den T 132 [.agg [i64 n0, i64 n1, .sl .no 2 (es cSp n2), .sl .no 2 (es cBoat n3)]] lab s = some (.sl .no 1 (es cInt (needsS (⟨⟨n0, n1⟩, n2, n3⟩ : Sea))), s) := by
 have key := e_NeedsOf_l n0 n1 n2 n3 hok s
 rw [fold_app1, List.nil_append] at key
 have e : (List.range n2.length).map (fun i => needS (⟨⟨n0, n1⟩, n2, n3⟩ : Sea) i) = needsS (⟨⟨n0, n1⟩, n2, n3⟩ : Sea) := rfl
 rw [e] at key
 rw [den_fn t132 _ _ _ rfl]
 simp only [b132]
 simp (disch := first | omega | assumption | decide +kernel | (simp; done) | (simp; omega) | fail) [key]
theorem crews_bound (nb M : Nat) (h : nb ≤ M) : ∀ (r : Nat) (c : List Int), (crewsFrom nb r c).length ≤ M ^ r
 | 0, c => by simp [crewsFrom]
 | r + 1, c => by
   have h1 := flat_le (fun (b : Nat) => if anyB (fun x => decide (x = (b : Int))) c = true then [] else crewsFrom nb r (c ++ [(b : Int)])) (M ^ r) (List.range nb) (fun b _ => by
    split
    ·simp
    ·exact crews_bound nb M h r _)
   rw [crewsFrom, Nat.pow_succ, Nat.mul_comm]
   refine Nat.le_trans h1 (Nat.mul_le_mul_right _ ?_)
   simpa using h
set_option maxHeartbeats 4000000 in
theorem e_crews (n0 : Int) (n1 : Int) (n2 : List Sp) (n3 : List Boat) (hl : n2.length ≤ 4) (hb6 : n3.length ≤ 6) : ∀ (m : Nat) (first : List Int), first.length + m = n2.length → ∀ (lab : Nat) (s : Stk),
 den T 131 [.agg [i64 n0, i64 n1, .sl .no 2 (es cSp n2), .sl .no 2 (es cBoat n3)], .sl .no 1 (es cInt first)] lab s = some (.sl .no 1 (es cInts (crewsFrom n3.length m first)), s) := by
 intro m
 induction m with
 | zero =>
   intro first hf lab s
   have hf' : first.length = n2.length := by omega
   have hq : (first.length : Int) = n2.length := by omega
   rw [den_fn t131 _ _ _ rfl]
   simp only [b131]
   simp (disch := first | omega | assumption | decide +kernel | (simp; done) | (simp; omega) | fail) [hq, hf, es_ints_one, crewsFrom]
 | succ m ih =>
   intro first hf lab s
   have hk : first.length < n2.length := by omega
   have hq : ¬ first.length = n2.length := by omega
   have hq2 : ¬ (first.length : Int) = n2.length := by omega
   have ih2 := fun (g : Int) lab s => ih (first ++ [g]) (by simp; omega) lab s
   have hb : ∀ g : Int, (crewsFrom n3.length m (first ++ [g])).length ≤ 216 := fun g => by
    refine Nat.le_trans (crews_bound _ 6 hb6 _ _) ?_
    calc 6 ^ m ≤ 6 ^ 3 := Nat.pow_le_pow_right (by omega) (by omega)
     _ = 216 := rfl
   have hin := fun n lab s => e_In_nil n lab s
   have key := loop_fold (T := T) (live := [1, 2, 5, 6]) (keep := [32, 81]) (b := d131l0) (List.range n3.length) (fun k (a : List (List Int)) => a.length ≤ k * 216) (fun a (b : Nat) => a ++ (if anyB (fun x => decide (x = (b : Int))) first = true then [] else crewsFrom n3.length m (first ++ [(b : Int)])))
    (fun k a => [(1, .sl .no 1 (es cInt first)), (2, .ptr s.length 32 0), (5, .sl (.own s.length 81) 1 (es cInts a)), (6, i64 k)])
    (fun _ a => [(32, .cell [i64 n0, i64 n1, .sl .no 2 (es cSp n2), .sl .no 2 (es cBoat n3)]), (81, .tok a.length)] :: s)
    (fun a => (.exit 0, [(1, .sl .no 1 (es cInt first)), (2, .ptr s.length 32 0), (5, .sl (.own s.length 81) 1 (es cInts a)), (6, i64 n3.length), (19, .bool false)], [(32, .cell [i64 n0, i64 n1, .sl .no 2 (es cSp n2), .sl .no 2 (es cBoat n3)]), (81, .tok a.length)] :: s))
    (by simp) ?_ ?_ ?_ [] (by simp) [(5, .sl (.own s.length 81) 1 []), (1, .sl .no 1 (es cInt first)), (2, .ptr s.length 32 0), (5, .sl .full 1 []), (6, i64 0)] ([(32, .cell [i64 n0, i64 n1, .sl .no 2 (es cSp n2), .sl .no 2 (es cBoat n3)]), (81, .tok 0)] :: s) (by simp) (by simp)
   ·rw [fold_app2, List.nil_append] at key
    change Run T b131l0 _ _ = some (_, [_, _, (5, V.sl (.own s.length 81) 1 (es cInts (crewsFrom n3.length (m + 1) first))), _, _], [_, (81, Entry.tok (crewsFrom n3.length (m + 1) first).length)] :: s) at key
    rw [den_fn t131 _ _ _ rfl]
    simp only [b131]
    simp (maxSteps := 1000000) (disch := first | omega | assumption | decide +kernel | (simp; done) | (simp; omega) | fail) [run_drawnK, hk, hq, hq2, key]
   ·intro k a hk' hi
    simp only [List.length_range] at hk'
    simp only [List.getElem_range]
    have hgb := hb (k : Int)
    have ih3 := ih2 (k : Int)
    by_cases h0 : first = []
    ·subst h0
     have hany : anyB (fun x => decide (x = (k : Int))) [] = false := rfl
     simp only [List.nil_append, es_int_one] at ih3
     simp only [hany, List.nil_append] at hgb ⊢
     generalize crewsFrom n3.length m [(k : Int)] = L at *
     simp (maxSteps := 1000000) (disch := first | omega | assumption | decide +kernel | (simp; done) | (simp; omega) | fail) [run_drawnK, hk', hin, ih3, appK_many, appD_full_nil, appD_full, wk k (by omega)]
    ·generalize crewsFrom n3.length m (first ++ [(k : Int)]) = L at *
     cases hany : anyB (fun x => decide (x = (k : Int))) first
     ·simp (maxSteps := 1000000) (disch := first | omega | assumption | decide +kernel | (simp; done) | (simp; omega) | fail) [run_drawnK, hk', hany, ih3, h0, appK_many, appD_full_nil, appD_full, appD_own1, appK_own1, wk k (by omega)]
     ·simp (maxSteps := 1000000) (disch := first | omega | assumption | decide +kernel | (simp; done) | (simp; omega) | fail) [run_drawnK, hk', hany, wk k (by omega)]
   ·intro k a hk' hi
    simp only [List.getElem_range]
    have := hb (k : Int)
    split
    ·simp; omega
    ·rw [List.length_append]; omega
   ·intro a hi
    simp
theorem e_Fits (n0 : Int) (n1 : Int) (n2 : List Sp) (n3 : List Boat) (hok : seaOk (⟨⟨n0, n1⟩, n2, n3⟩ : Sea) = true) (c : List Int) (hc : ∀ x : Int, x ∈ c → 0 ≤ x ∧ x < (n3.length : Int)) (hcl : c.length = n2.length) (lab s) :
 den T 133 [.agg [i64 n0, i64 n1, .sl .no 2 (es cSp n2), .sl .no 2 (es cBoat n3)], .sl .no 1 (es cInt c), .sl .no 1 (es cInt (needsS (⟨⟨n0, n1⟩, n2, n3⟩ : Sea)))] lab s = some (.bool (holdsS (⟨⟨n0, n1⟩, n2, n3⟩ : Sea) c), s) := by
 have h2 := (seaOk_iff.1 hok).2.1
 simp only at h2
 have key : Run T b133l0 [(1, .sl .no 1 (es cInt c)), (2, .sl .no 1 (es cInt (needsS (⟨⟨n0, n1⟩, n2, n3⟩ : Sea)))), (3, .ptr s.length 48 0), (7, i64 0)] ([(48, .cell [i64 n0, i64 n1, .sl .no 2 (es cSp n2), .sl .no 2 (es cBoat n3)])] :: s) =
  if allB (holdsAt (⟨⟨n0, n1⟩, n2, n3⟩ : Sea) c) (List.range c.length) = true then some (.exit 0, [(1, .sl .no 1 (es cInt c)), (2, .sl .no 1 (es cInt (needsS (⟨⟨n0, n1⟩, n2, n3⟩ : Sea)))), (3, .ptr s.length 48 0), (7, i64 c.length), (11, .bool false)], [(48, .cell [i64 n0, i64 n1, .sl .no 2 (es cSp n2), .sl .no 2 (es cBoat n3)])] :: s) else some (.ret, [(6, .bool false)], [(48, .cell [i64 n0, i64 n1, .sl .no 2 (es cSp n2), .sl .no 2 (es cBoat n3)])] :: s) := by
  refine loop_all (List.range c.length) (holdsAt (⟨⟨n0, n1⟩, n2, n3⟩ : Sea) c) (fun k => [(1, .sl .no 1 (es cInt c)), (2, .sl .no 1 (es cInt (needsS (⟨⟨n0, n1⟩, n2, n3⟩ : Sea)))), (3, .ptr s.length 48 0), (7, i64 k)]) (fun _ => [(48, .cell [i64 n0, i64 n1, .sl .no 2 (es cSp n2), .sl .no 2 (es cBoat n3)])] :: s) _ _ (by simp) (by simp) ?_ (by simp) _ _ (by simp) (by simp)
  intro k hk
  simp only [List.length_range] at hk
  simp only [List.getElem_range]
  obtain ⟨h1, h2⟩ := hc c[k] (List.getElem_mem hk)
  have h3 : c[k].toNat < n3.length := by omega
  have hk2 : k < n2.length := by omega
  have hnl : k < (needsS (⟨⟨n0, n1⟩, n2, n3⟩ : Sea)).length := by simp [needsS, hk2]
  have hng : (needsS (⟨⟨n0, n1⟩, n2, n3⟩ : Sea))[k] = needS (⟨⟨n0, n1⟩, n2, n3⟩ : Sea) k := by simp [needsS]
  have hat : holdsAt (⟨⟨n0, n1⟩, n2, n3⟩ : Sea) c k = decide (needS (⟨⟨n0, n1⟩, n2, n3⟩ : Sea) k ≤ n3[c[k].toNat].carry) := by simp [holdsAt, boatAt, hk, h3]
  rw [hat]
  by_cases h4 : n3[c[k].toNat].carry < needS (⟨⟨n0, n1⟩, n2, n3⟩ : Sea) k
  ·have h5 : ¬ needS (⟨⟨n0, n1⟩, n2, n3⟩ : Sea) k ≤ n3[c[k].toNat].carry := by omega
   simp (maxSteps := 1000000) (disch := first | omega | assumption | decide +kernel | (simp; done) | (simp; omega) | fail) [run_drawnK, hk, h1, h3, hnl, hng, h4, h5]
  ·have h5 : needS (⟨⟨n0, n1⟩, n2, n3⟩ : Sea) k ≤ n3[c[k].toNat].carry := by omega
   simp (maxSteps := 1000000) (disch := first | omega | assumption | decide +kernel | (simp; done) | (simp; omega) | fail) [run_drawnK, hk, h1, h3, hnl, hng, h4, h5, wk k (by omega)]
 rw [den_fn t133 _ _ _ rfl]
 simp only [b133]
 cases hx : allB (holdsAt (⟨⟨n0, n1⟩, n2, n3⟩ : Sea) c) (List.range c.length)
 ·simp (disch := first | omega | assumption | decide +kernel | (simp; done) | (simp; omega) | fail) [key, hx, holdsS]
 ·simp (disch := first | omega | assumption | decide +kernel | (simp; done) | (simp; omega) | fail) [key, hx, holdsS]
theorem e_CostOf_l (n0 : Int) (n1 : Int) (n2 : List Sp) (n3 : List Boat) (hok : seaOk (⟨⟨n0, n1⟩, n2, n3⟩ : Sea) = true) (c : List Int) (hc : ∀ x : Int, x ∈ c → 0 ≤ x ∧ x < (n3.length : Int)) (hcl : c.length ≤ 4) (s : Stk) :
 Run T b134l0 [(1, .sl .no 1 (es cInt c)), (2, .ptr s.length 32 0), (5, i64 0), (6, i64 0)] ([(32, .cell [i64 n0, i64 n1, .sl .no 2 (es cSp n2), .sl .no 2 (es cBoat n3)])] :: s) = some (.exit 0, [(1, .sl .no 1 (es cInt c)), (2, .ptr s.length 32 0), (5, i64 ((c).foldl (fun (a : Int) b => a + (boatAt (⟨⟨n0, n1⟩, n2, n3⟩ : Sea) b).pence) 0)), (6, i64 c.length), (10, .bool false)], [(32, .cell [i64 n0, i64 n1, .sl .no 2 (es cSp n2), .sl .no 2 (es cBoat n3)])] :: s) := by
 have key := loop_fold (T := T) (live := [1, 2, 5, 6]) (keep := [32]) (b := d134l0) (c) (fun k (a : Int) => 0 ≤ a ∧ a ≤ 99 * k) (fun (a : Int) b => a + (boatAt (⟨⟨n0, n1⟩, n2, n3⟩ : Sea) b).pence) (fun k (a : Int) => [(1, .sl .no 1 (es cInt c)), (2, .ptr s.length 32 0), (5, i64 a), (6, i64 k)]) (fun k (a : Int) => [(32, .cell [i64 n0, i64 n1, .sl .no 2 (es cSp n2), .sl .no 2 (es cBoat n3)])] :: s) (fun (a : Int) => (.exit 0, [(1, .sl .no 1 (es cInt c)), (2, .ptr s.length 32 0), (5, i64 a), (6, i64 c.length), (10, .bool false)], [(32, .cell [i64 n0, i64 n1, .sl .no 2 (es cSp n2), .sl .no 2 (es cBoat n3)])] :: s)) (by simp) ?_ ?_ ?_ 0 (by simp) [(1, .sl .no 1 (es cInt c)), (2, .ptr s.length 32 0), (5, i64 0), (6, i64 0)] ([(32, .cell [i64 n0, i64 n1, .sl .no 2 (es cSp n2), .sl .no 2 (es cBoat n3)])] :: s) (by simp) (by simp)
 ·exact key
 ·intro k a hk hi
  obtain ⟨h1, h2⟩ := hc c[k] (List.getElem_mem hk)
  have h3 : c[k].toNat < n3.length := by omega
  have hb : boatAt (⟨⟨n0, n1⟩, n2, n3⟩ : Sea) c[k] = n3[c[k].toNat] := by simp [boatAt, h3]
  have hp : 0 ≤ n3[c[k].toNat].pence ∧ n3[c[k].toNat].pence ≤ 99 := by
   have := (seaOk_iff.1 hok).2.2.2.2.1 _ (List.getElem_mem h3)
   simp only [boatOk, Bool.and_eq_true, within_iff] at this; exact this.2
  rw [hb]
  have hwr : IntKind.i64.wrap (a + n3[c[k].toNat].pence) = a + n3[c[k].toNat].pence := wi _ (by omega) (by omega)
  simp (maxSteps := 1000000) (disch := first | omega | assumption | decide +kernel | (simp; done) | (simp; omega) | fail) [run_drawnK, hk, h1, h3, hwr, wk k (by omega)]
 ·intro k a hk hi
  obtain ⟨h1, h2⟩ := hc c[k] (List.getElem_mem hk)
  have h3 : c[k].toNat < n3.length := by omega
  have hb : boatAt (⟨⟨n0, n1⟩, n2, n3⟩ : Sea) c[k] = n3[c[k].toNat] := by simp [boatAt, h3]
  have hp : 0 ≤ n3[c[k].toNat].pence ∧ n3[c[k].toNat].pence ≤ 99 := by
   have := (seaOk_iff.1 hok).2.2.2.2.1 _ (List.getElem_mem h3)
   simp only [boatOk, Bool.and_eq_true, within_iff] at this; exact this.2
  rw [hb]; omega
 ·intro a hi
  simp
theorem e_CostOf (n0 : Int) (n1 : Int) (n2 : List Sp) (n3 : List Boat) (hok : seaOk (⟨⟨n0, n1⟩, n2, n3⟩ : Sea) = true) (c : List Int) (hc : ∀ x : Int, x ∈ c → 0 ≤ x ∧ x < (n3.length : Int)) (hcl : c.length ≤ 4) (lab s) :
 den T 134 [.agg [i64 n0, i64 n1, .sl .no 2 (es cSp n2), .sl .no 2 (es cBoat n3)], .sl .no 1 (es cInt c)] lab s = some (i64 (costS (⟨⟨n0, n1⟩, n2, n3⟩ : Sea) c), s) := by
 have key := e_CostOf_l n0 n1 n2 n3 hok c hc hcl s
 change _ = some (Ex.exit 0, [_, _, (5, i64 (costS (⟨⟨n0, n1⟩, n2, n3⟩ : Sea) c)), _, _], _) at key
 rw [den_fn t134 _ _ _ rfl]
 simp only [b134]
 simp (disch := first | omega | assumption | decide +kernel | (simp; done) | (simp; omega) | fail) [key]
def slV (b : List Int) : V := .sl (if b = [] then .full else .no) 1 (es cInt b)
@[simp] theorem slV_nil : slV [] = .sl .full 1 [] := rfl
theorem slV_ne {b : List Int} (h : b ≠ []) : slV b = .sl .no 1 (es cInt b) := by simp [slV, h]
set_option maxHeartbeats 1000000 in
theorem e_Crew_l (n0 : Int) (n1 : Int) (n2 : List Sp) (n3 : List Boat) (hok : seaOk (⟨⟨n0, n1⟩, n2, n3⟩ : Sea) = true) (L : List (List Int)) (hL : ∀ c ∈ L, c.length = n2.length ∧ ∀ x : Int, x ∈ c → 0 ≤ x ∧ x < (n3.length : Int)) (hlen : L.length ≤ 10000) (hpl : 0 < n2.length) (s : Stk) :
 Run T b113l0 [(1, .ptr s.length 16 0), (5, .sl .full 1 []), (6, .sl .no 1 (es cInts L)), (7, .sl .no 1 (es cInt (needsS (⟨⟨n0, n1⟩, n2, n3⟩ : Sea)))), (8, i64 0)] ([(16, .cell [i64 n0, i64 n1, .sl .no 2 (es cSp n2), .sl .no 2 (es cBoat n3)])] :: s) = some (.exit 0, [(1, .ptr s.length 16 0), (5, slV ((L).foldl (bestY (⟨⟨n0, n1⟩, n2, n3⟩ : Sea)) [])), (6, .sl .no 1 (es cInts L)), (7, .sl .no 1 (es cInt (needsS (⟨⟨n0, n1⟩, n2, n3⟩ : Sea)))), (8, i64 L.length), (21, .bool false)], [(16, .cell [i64 n0, i64 n1, .sl .no 2 (es cSp n2), .sl .no 2 (es cBoat n3)])] :: s) := by
 have key := loop_fold (T := T) (live := [1, 5, 6, 7, 8]) (keep := [16, 160, 240, 272]) (b := d113l0) (L) (fun _ (b : List Int) => b = [] ∨ b.length = n2.length ∧ ∀ x : Int, x ∈ b → 0 ≤ x ∧ x < (n3.length : Int)) (bestY (⟨⟨n0, n1⟩, n2, n3⟩ : Sea)) (fun k (a : List Int) => [(1, .ptr s.length 16 0), (5, slV a), (6, .sl .no 1 (es cInts L)), (7, .sl .no 1 (es cInt (needsS (⟨⟨n0, n1⟩, n2, n3⟩ : Sea)))), (8, i64 k)]) (fun k (a : List Int) => [(16, .cell [i64 n0, i64 n1, .sl .no 2 (es cSp n2), .sl .no 2 (es cBoat n3)])] :: s) (fun (a : List Int) => (.exit 0, [(1, .ptr s.length 16 0), (5, slV a), (6, .sl .no 1 (es cInts L)), (7, .sl .no 1 (es cInt (needsS (⟨⟨n0, n1⟩, n2, n3⟩ : Sea)))), (8, i64 L.length), (21, .bool false)], [(16, .cell [i64 n0, i64 n1, .sl .no 2 (es cSp n2), .sl .no 2 (es cBoat n3)])] :: s)) (by simp) ?_ ?_ ?_ [] (by simp) [(1, .ptr s.length 16 0), (5, .sl .full 1 []), (6, .sl .no 1 (es cInts L)), (7, .sl .no 1 (es cInt (needsS (⟨⟨n0, n1⟩, n2, n3⟩ : Sea)))), (8, i64 0)] ([(16, .cell [i64 n0, i64 n1, .sl .no 2 (es cSp n2), .sl .no 2 (es cBoat n3)])] :: s) (by simp) (by simp)
 ·exact key
 ·intro k a hk hi
  have h2 := (seaOk_iff.1 hok).2.1
  simp only at h2
  obtain ⟨c1, c2⟩ := hL L[k] (List.getElem_mem hk)
  have hne : L[k] ≠ [] := by intro e; rw [e] at c1; simp at c1; omega
  have hF := fun lab s => e_Fits n0 n1 n2 n3 hok L[k] c2 c1 lab s
  have hC := fun lab s => e_CostOf n0 n1 n2 n3 hok L[k] c2 (by omega) lab s
  have hsv : slV L[k] = .sl .no 1 (es cInt L[k]) := slV_ne hne
  cases x0 : holdsS (⟨⟨n0, n1⟩, n2, n3⟩ : Sea) L[k]
  ·have e1 : bestY (⟨⟨n0, n1⟩, n2, n3⟩ : Sea) a L[k] = a := by simp [bestY, x0]
   rw [e1]
   by_cases ha : a = []
   ·subst ha
    simp (maxSteps := 1000000) (disch := first | omega | assumption | decide +kernel | (simp; done) | (simp; omega) | fail) [run_drawnK, hk, hF, x0, wk k (by omega)]
   ·simp (maxSteps := 1000000) (disch := first | omega | assumption | decide +kernel | (simp; done) | (simp; omega) | fail) [run_drawnK, hk, hF, x0, slV_ne ha, wk k (by omega)]
  ·by_cases ha : a = []
   ·subst ha
    have e1 : bestY (⟨⟨n0, n1⟩, n2, n3⟩ : Sea) [] L[k] = L[k] := by simp [bestY, x0]
    rw [e1]
    simp (maxSteps := 1000000) (disch := first | omega | assumption | decide +kernel | (simp; done) | (simp; omega) | fail) [run_drawnK, hk, hF, x0, hsv, wk k (by omega)]
   ·obtain ⟨d1, d2⟩ := hi.resolve_left ha
    have hD := fun lab s => e_CostOf n0 n1 n2 n3 hok a d2 (by omega) lab s
    have hal : ¬ (a.length : Int) = 0 := by
     intro e; exact ha (List.length_eq_zero_iff.1 (by omega))
    by_cases x1 : costS (⟨⟨n0, n1⟩, n2, n3⟩ : Sea) L[k] < costS (⟨⟨n0, n1⟩, n2, n3⟩ : Sea) a
    ·have e1 : bestY (⟨⟨n0, n1⟩, n2, n3⟩ : Sea) a L[k] = L[k] := by simp [bestY, x0, x1]
     rw [e1]
     simp (maxSteps := 1000000) (disch := first | omega | assumption | decide +kernel | (simp; done) | (simp; omega) | fail) [run_drawnK, hk, hF, hC, hD, x0, x1, ha, hal, hsv, slV_ne ha, wk k (by omega)]
    ·have e1 : bestY (⟨⟨n0, n1⟩, n2, n3⟩ : Sea) a L[k] = a := by simp [bestY, x0, x1, ha]
     rw [e1]
     simp (maxSteps := 1000000) (disch := first | omega | assumption | decide +kernel | (simp; done) | (simp; omega) | fail) [run_drawnK, hk, hF, hC, hD, x0, x1, ha, hal, slV_ne ha, wk k (by omega)]
 ·intro k a hk hi
  obtain ⟨c1, c2⟩ := hL L[k] (List.getElem_mem hk)
  unfold bestY
  split
  ·exact .inr ⟨c1, c2⟩
  ·exact hi
 ·intro a hi
  rcases hi with rfl | ⟨d1, d2⟩
  ·simp
  ·have ha : a ≠ [] := by intro e; rw [e] at d1; simp at d1; omega
   simp [slV_ne ha]
def crewE (n : Sea) : Int := if seaOk n = true then (if crewS n = [] then 3 else 0) else 50
theorem crewE_law (n : Sea) : crewE n = (cheapR n).2 := by
 unfold crewE cheapR
 split
 ·rename_i h
  obtain ⟨h1, _⟩ := crew_law h
  by_cases hc : crewS n = []
  ·rw [if_pos hc, if_pos (h1.1 hc)]
  ·rw [if_neg hc, if_neg (fun hh => hc (h1.2 hh))]
 ·rfl
def crewC (n : Sea) : List Int := if seaOk n = true then crewS n else []
theorem e_Crew05 (n0 : Int) (n1 : Int) (n2 : List Sp) (n3 : List Boat) (lab s) : den T 113 [.agg [i64 n0, i64 n1, .sl .no 2 (es cSp n2), .sl .no 2 (es cBoat n3)]] lab s = some (.tup [.sl .no 1 (es cInt (crewC (⟨⟨n0, n1⟩, n2, n3⟩ : Sea))), i64 (crewE (⟨⟨n0, n1⟩, n2, n3⟩ : Sea))], s) := by
 cases h : seaOk (⟨⟨n0, n1⟩, n2, n3⟩ : Sea)
 ·rw [den_fn t113 _ _ _ rfl]
  simp only [b113]
  simp (disch := first | omega | assumption | decide +kernel | (simp; done) | (simp; omega) | fail) [h, crewE, crewC]
 have h7 := (seaOk_iff.1 h).2.2.2.2.2.2
 have hpl : 0 < n2.length := by
  cases hx : n2 with
  | nil => rw [hx] at h7; simp [highSum] at h7
  | cons _ _ => simp
 obtain ⟨h1, h2, h3, h4, h5, h6, _⟩ := seaOk_iff.1 h
 simp only at h2 h3
 have hc := fun lab s => e_crews n0 n1 n2 n3 h2 h3 n2.length [] (by simp) lab s
 have hn := fun lab s => e_NeedsOf n0 n1 n2 n3 h lab s
 have hb := crews_bound n3.length 6 h3 n2.length []
 have hb2 : (6 : Nat) ^ n2.length ≤ 1296 := by
  calc 6 ^ n2.length ≤ 6 ^ 4 := Nat.pow_le_pow_right (by omega) h2
   _ = 1296 := rfl
 have key := e_Crew_l n0 n1 n2 n3 h (crewsFrom n3.length n2.length []) (fun c hc => by
  obtain ⟨q1, q2⟩ := crewsFrom_len _ _ _ c hc
  refine ⟨by simpa using q1, fun x hx => ?_⟩
  rcases q2 x hx with q | q
  ·simp at q
  ·exact q) (by omega) hpl s
 have e : (crewsFrom n3.length n2.length []).foldl (bestY (⟨⟨n0, n1⟩, n2, n3⟩ : Sea)) [] = crewS (⟨⟨n0, n1⟩, n2, n3⟩ : Sea) := rfl
 rw [e] at key
 simp only [es_nil] at hc
 have hcc : crewC (⟨⟨n0, n1⟩, n2, n3⟩ : Sea) = crewS (⟨⟨n0, n1⟩, n2, n3⟩ : Sea) := by rw [crewC, if_pos h]
 rw [hcc]
 rw [den_fn t113 _ _ _ rfl]
 simp only [b113]
 by_cases hx : crewS (⟨⟨n0, n1⟩, n2, n3⟩ : Sea) = []
 ·rw [hx] at key
  simp (maxSteps := 1000000) (disch := first | omega | assumption | decide +kernel | (simp; done) | (simp; omega) | fail) [run_drawnK, h, hc, hn, key, hx, crewE]
 ·have hxl : ¬ ((crewS (⟨⟨n0, n1⟩, n2, n3⟩ : Sea)).length : Int) = 0 := by
   intro e; exact hx (List.length_eq_zero_iff.1 (by omega))
  rw [slV_ne hx] at key
  simp (maxSteps := 1000000) (disch := first | omega | assumption | decide +kernel | (simp; done) | (simp; omega) | fail) [run_drawnK, h, hc, hn, key, hx, hxl, crewE]
end Go.Proofs.YtekgicoibcgecaaGreat

/-
  Equal nets, seas, seasons are the same for the laws.
-/
namespace Go.Proofs.YtekgicoibcgecaaGreat
open Go.Ab
theorem e_SameInts_l (l : List Int) (hl : l.length < 4611686018427387904) (s : Stk) :
 Run T b24l0 [(0, .sl .no 1 (es cInt l)), (1, .sl .no 1 (es cInt l)), (5, i64 0)] ([] :: s) = some (.exit 0, [(0, .sl .no 1 (es cInt l)), (1, .sl .no 1 (es cInt l)), (5, i64 l.length), (14, .bool false)], [] :: s) := by
 have key := loop_fold (T := T) (live := [0, 1, 5]) (keep := []) (b := d24l0) (List.range l.length) (fun _ _ => True) (fun (_ : Unit) (_ : Nat) => ()) (fun k (a : Unit) => [(0, .sl .no 1 (es cInt l)), (1, .sl .no 1 (es cInt l)), (5, i64 k)]) (fun k (a : Unit) => [] :: s) (fun (a : Unit) => (.exit 0, [(0, .sl .no 1 (es cInt l)), (1, .sl .no 1 (es cInt l)), (5, i64 l.length), (14, .bool false)], [] :: s)) (by simp) ?_ ?_ ?_ () (by simp) [(0, .sl .no 1 (es cInt l)), (1, .sl .no 1 (es cInt l)), (5, i64 0)] ([] :: s) (by simp) (by simp)
 ·exact key
 ·intro k a hk hi
  try simp only [List.length_range] at hk
  try simp only [List.getElem_range]
  simp (disch := first | omega | assumption | decide +kernel | (simp; done) | (simp; omega) | fail) [hk, wk k (by omega)]
 ·intro k a hk hi
  try simp only [List.length_range] at hk
  try simp only [List.getElem_range]
  try simp
 ·intro a hi
  simp
@[simp] theorem e_SameInts (l : List Int) (hl : l.length < 4611686018427387904) (lab s) : den T 24 [.sl .no 1 (es cInt l), .sl .no 1 (es cInt l)] lab s = some (.bool true, s) := by
 have key := e_SameInts_l l hl s
 rw [den_fn t24 _ _ _ rfl]
 simp only [b24]
 simp (disch := first | omega | assumption | decide +kernel | (simp; done) | (simp; omega) | fail) [key]
theorem e_Same02_l0 (n0 : Int) (n1 : Int) (n2 : Int) (n3 : Int) (n4 : List Sp) (n5 : List Anc) (n6 : List Wal) (hl : n4.length < 4611686018427387904) (s : Stk) :
 Run T b72l0 [(2, .ptr s.length 32 0), (3, .ptr s.length 48 0), (5, i64 0)] ([(32, .cell [i64 n0, i64 n1, i64 n2, i64 n3, .sl .no 2 (es cSp n4), .sl .no 2 (es cAnc n5), .sl .no 5 (es cWal n6)]), (48, .cell [i64 n0, i64 n1, i64 n2, i64 n3, .sl .no 2 (es cSp n4), .sl .no 2 (es cAnc n5), .sl .no 5 (es cWal n6)])] :: s) = some (.exit 0, [(2, .ptr s.length 32 0), (3, .ptr s.length 48 0), (5, i64 n4.length), (51, .bool false)], [(32, .cell [i64 n0, i64 n1, i64 n2, i64 n3, .sl .no 2 (es cSp n4), .sl .no 2 (es cAnc n5), .sl .no 5 (es cWal n6)]), (48, .cell [i64 n0, i64 n1, i64 n2, i64 n3, .sl .no 2 (es cSp n4), .sl .no 2 (es cAnc n5), .sl .no 5 (es cWal n6)])] :: s) := by
 have key := loop_fold (T := T) (live := [2, 3, 5]) (keep := [32, 48]) (b := d72l0) (List.range n4.length) (fun _ _ => True) (fun (_ : Unit) (_ : Nat) => ()) (fun k (a : Unit) => [(2, .ptr s.length 32 0), (3, .ptr s.length 48 0), (5, i64 k)]) (fun k (a : Unit) => [(32, .cell [i64 n0, i64 n1, i64 n2, i64 n3, .sl .no 2 (es cSp n4), .sl .no 2 (es cAnc n5), .sl .no 5 (es cWal n6)]), (48, .cell [i64 n0, i64 n1, i64 n2, i64 n3, .sl .no 2 (es cSp n4), .sl .no 2 (es cAnc n5), .sl .no 5 (es cWal n6)])] :: s) (fun (a : Unit) => (.exit 0, [(2, .ptr s.length 32 0), (3, .ptr s.length 48 0), (5, i64 n4.length), (51, .bool false)], [(32, .cell [i64 n0, i64 n1, i64 n2, i64 n3, .sl .no 2 (es cSp n4), .sl .no 2 (es cAnc n5), .sl .no 5 (es cWal n6)]), (48, .cell [i64 n0, i64 n1, i64 n2, i64 n3, .sl .no 2 (es cSp n4), .sl .no 2 (es cAnc n5), .sl .no 5 (es cWal n6)])] :: s)) (by simp) ?_ ?_ ?_ () (by simp) [(2, .ptr s.length 32 0), (3, .ptr s.length 48 0), (5, i64 0)] ([(32, .cell [i64 n0, i64 n1, i64 n2, i64 n3, .sl .no 2 (es cSp n4), .sl .no 2 (es cAnc n5), .sl .no 5 (es cWal n6)]), (48, .cell [i64 n0, i64 n1, i64 n2, i64 n3, .sl .no 2 (es cSp n4), .sl .no 2 (es cAnc n5), .sl .no 5 (es cWal n6)])] :: s) (by simp) (by simp)
 ·exact key
 ·intro k a hk hi
  try simp only [List.length_range] at hk
  try simp only [List.getElem_range]
  simp (maxSteps := 1000000) (disch := first | omega | assumption | decide +kernel | (simp; done) | (simp; omega) | fail) [run_drawnK, hk, wk k (by omega)]
 ·intro k a hk hi
  try simp only [List.length_range] at hk
  try simp only [List.getElem_range]
  try simp
 ·intro a hi
  simp
theorem e_Same02_l1 (n0 : Int) (n1 : Int) (n2 : Int) (n3 : Int) (n4 : List Sp) (n5 : List Anc) (n6 : List Wal) (hl : n5.length < 4611686018427387904) (s : Stk) :
 Run T b72l1 [(2, .ptr s.length 32 0), (3, .ptr s.length 48 0), (6, i64 0)] ([(32, .cell [i64 n0, i64 n1, i64 n2, i64 n3, .sl .no 2 (es cSp n4), .sl .no 2 (es cAnc n5), .sl .no 5 (es cWal n6)]), (48, .cell [i64 n0, i64 n1, i64 n2, i64 n3, .sl .no 2 (es cSp n4), .sl .no 2 (es cAnc n5), .sl .no 5 (es cWal n6)])] :: s) = some (.exit 2, [(2, .ptr s.length 32 0), (3, .ptr s.length 48 0), (6, i64 n5.length), (69, .bool false)], [(32, .cell [i64 n0, i64 n1, i64 n2, i64 n3, .sl .no 2 (es cSp n4), .sl .no 2 (es cAnc n5), .sl .no 5 (es cWal n6)]), (48, .cell [i64 n0, i64 n1, i64 n2, i64 n3, .sl .no 2 (es cSp n4), .sl .no 2 (es cAnc n5), .sl .no 5 (es cWal n6)])] :: s) := by
 have key := loop_fold (T := T) (live := [2, 3, 6]) (keep := [32, 48]) (b := d72l1) (List.range n5.length) (fun _ _ => True) (fun (_ : Unit) (_ : Nat) => ()) (fun k (a : Unit) => [(2, .ptr s.length 32 0), (3, .ptr s.length 48 0), (6, i64 k)]) (fun k (a : Unit) => [(32, .cell [i64 n0, i64 n1, i64 n2, i64 n3, .sl .no 2 (es cSp n4), .sl .no 2 (es cAnc n5), .sl .no 5 (es cWal n6)]), (48, .cell [i64 n0, i64 n1, i64 n2, i64 n3, .sl .no 2 (es cSp n4), .sl .no 2 (es cAnc n5), .sl .no 5 (es cWal n6)])] :: s) (fun (a : Unit) => (.exit 2, [(2, .ptr s.length 32 0), (3, .ptr s.length 48 0), (6, i64 n5.length), (69, .bool false)], [(32, .cell [i64 n0, i64 n1, i64 n2, i64 n3, .sl .no 2 (es cSp n4), .sl .no 2 (es cAnc n5), .sl .no 5 (es cWal n6)]), (48, .cell [i64 n0, i64 n1, i64 n2, i64 n3, .sl .no 2 (es cSp n4), .sl .no 2 (es cAnc n5), .sl .no 5 (es cWal n6)])] :: s)) (by simp) ?_ ?_ ?_ () (by simp) [(2, .ptr s.length 32 0), (3, .ptr s.length 48 0), (6, i64 0)] ([(32, .cell [i64 n0, i64 n1, i64 n2, i64 n3, .sl .no 2 (es cSp n4), .sl .no 2 (es cAnc n5), .sl .no 5 (es cWal n6)]), (48, .cell [i64 n0, i64 n1, i64 n2, i64 n3, .sl .no 2 (es cSp n4), .sl .no 2 (es cAnc n5), .sl .no 5 (es cWal n6)])] :: s) (by simp) (by simp)
 ·exact key
 ·intro k a hk hi
  try simp only [List.length_range] at hk
  try simp only [List.getElem_range]
  simp (maxSteps := 1000000) (disch := first | omega | assumption | decide +kernel | (simp; done) | (simp; omega) | fail) [run_drawnK, hk, wk k (by omega)]
 ·intro k a hk hi
  try simp only [List.length_range] at hk
  try simp only [List.getElem_range]
  try simp
 ·intro a hi
  simp
theorem e_Same02_l2 (n0 : Int) (n1 : Int) (n2 : Int) (n3 : Int) (n4 : List Sp) (n5 : List Anc) (n6 : List Wal) (hl : n6.length < 4611686018427387904) (s : Stk) :
 Run T b72l2 [(2, .ptr s.length 32 0), (3, .ptr s.length 48 0), (7, i64 0)] ([(32, .cell [i64 n0, i64 n1, i64 n2, i64 n3, .sl .no 2 (es cSp n4), .sl .no 2 (es cAnc n5), .sl .no 5 (es cWal n6)]), (48, .cell [i64 n0, i64 n1, i64 n2, i64 n3, .sl .no 2 (es cSp n4), .sl .no 2 (es cAnc n5), .sl .no 5 (es cWal n6)])] :: s) = some (.exit 4, [(2, .ptr s.length 32 0), (3, .ptr s.length 48 0), (7, i64 n6.length), (87, .bool false)], [(32, .cell [i64 n0, i64 n1, i64 n2, i64 n3, .sl .no 2 (es cSp n4), .sl .no 2 (es cAnc n5), .sl .no 5 (es cWal n6)]), (48, .cell [i64 n0, i64 n1, i64 n2, i64 n3, .sl .no 2 (es cSp n4), .sl .no 2 (es cAnc n5), .sl .no 5 (es cWal n6)])] :: s) := by
 have key := loop_fold (T := T) (live := [2, 3, 7]) (keep := [32, 48]) (b := d72l2) (List.range n6.length) (fun _ _ => True) (fun (_ : Unit) (_ : Nat) => ()) (fun k (a : Unit) => [(2, .ptr s.length 32 0), (3, .ptr s.length 48 0), (7, i64 k)]) (fun k (a : Unit) => [(32, .cell [i64 n0, i64 n1, i64 n2, i64 n3, .sl .no 2 (es cSp n4), .sl .no 2 (es cAnc n5), .sl .no 5 (es cWal n6)]), (48, .cell [i64 n0, i64 n1, i64 n2, i64 n3, .sl .no 2 (es cSp n4), .sl .no 2 (es cAnc n5), .sl .no 5 (es cWal n6)])] :: s) (fun (a : Unit) => (.exit 4, [(2, .ptr s.length 32 0), (3, .ptr s.length 48 0), (7, i64 n6.length), (87, .bool false)], [(32, .cell [i64 n0, i64 n1, i64 n2, i64 n3, .sl .no 2 (es cSp n4), .sl .no 2 (es cAnc n5), .sl .no 5 (es cWal n6)]), (48, .cell [i64 n0, i64 n1, i64 n2, i64 n3, .sl .no 2 (es cSp n4), .sl .no 2 (es cAnc n5), .sl .no 5 (es cWal n6)])] :: s)) (by simp) ?_ ?_ ?_ () (by simp) [(2, .ptr s.length 32 0), (3, .ptr s.length 48 0), (7, i64 0)] ([(32, .cell [i64 n0, i64 n1, i64 n2, i64 n3, .sl .no 2 (es cSp n4), .sl .no 2 (es cAnc n5), .sl .no 5 (es cWal n6)]), (48, .cell [i64 n0, i64 n1, i64 n2, i64 n3, .sl .no 2 (es cSp n4), .sl .no 2 (es cAnc n5), .sl .no 5 (es cWal n6)])] :: s) (by simp) (by simp)
 ·exact key
 ·intro k a hk hi
  try simp only [List.length_range] at hk
  try simp only [List.getElem_range]
  simp (maxSteps := 1000000) (disch := first | omega | assumption | decide +kernel | (simp; done) | (simp; omega) | fail) [run_drawnK, hk, wk k (by omega)]
 ·intro k a hk hi
  try simp only [List.length_range] at hk
  try simp only [List.getElem_range]
  try simp
 ·intro a hi
  simp
@[simp] theorem e_Same02 (n0 : Int) (n1 : Int) (n2 : Int) (n3 : Int) (n4 : List Sp) (n5 : List Anc) (n6 : List Wal) (h4 : n4.length < 4611686018427387904) (h5 : n5.length < 4611686018427387904) (h6 : n6.length < 4611686018427387904) (lab s) : den T 72 [.agg [i64 n0, i64 n1, i64 n2, i64 n3, .sl .no 2 (es cSp n4), .sl .no 2 (es cAnc n5), .sl .no 5 (es cWal n6)], .agg [i64 n0, i64 n1, i64 n2, i64 n3, .sl .no 2 (es cSp n4), .sl .no 2 (es cAnc n5), .sl .no 5 (es cWal n6)]] lab s = some (.bool true, s) := by
 have l0 := e_Same02_l0 n0 n1 n2 n3 n4 n5 n6 h4 s
 have l1 := e_Same02_l1 n0 n1 n2 n3 n4 n5 n6 h5 s
 have l2 := e_Same02_l2 n0 n1 n2 n3 n4 n5 n6 h6 s
 rw [den_fn t72 _ _ _ rfl]
 simp only [b72]
 simp (maxSteps := 1000000) (disch := first | omega | assumption | decide +kernel | (simp; done) | (simp; omega) | fail) [run_drawnK, l0, l1, l2]
theorem e_Same05_l0 (n0 : Int) (n1 : Int) (n2 : List Sp) (n3 : List Boat) (hl : n2.length < 4611686018427387904) (s : Stk) :
 Run T b73l0 [(2, .ptr s.length 32 0), (3, .ptr s.length 48 0), (5, i64 0)] ([(32, .cell [i64 n0, i64 n1, .sl .no 2 (es cSp n2), .sl .no 2 (es cBoat n3)]), (48, .cell [i64 n0, i64 n1, .sl .no 2 (es cSp n2), .sl .no 2 (es cBoat n3)])] :: s) = some (.exit 0, [(2, .ptr s.length 32 0), (3, .ptr s.length 48 0), (5, i64 n2.length), (34, .bool false)], [(32, .cell [i64 n0, i64 n1, .sl .no 2 (es cSp n2), .sl .no 2 (es cBoat n3)]), (48, .cell [i64 n0, i64 n1, .sl .no 2 (es cSp n2), .sl .no 2 (es cBoat n3)])] :: s) := by
 have key := loop_fold (T := T) (live := [2, 3, 5]) (keep := [32, 48]) (b := d73l0) (List.range n2.length) (fun _ _ => True) (fun (_ : Unit) (_ : Nat) => ()) (fun k (a : Unit) => [(2, .ptr s.length 32 0), (3, .ptr s.length 48 0), (5, i64 k)]) (fun k (a : Unit) => [(32, .cell [i64 n0, i64 n1, .sl .no 2 (es cSp n2), .sl .no 2 (es cBoat n3)]), (48, .cell [i64 n0, i64 n1, .sl .no 2 (es cSp n2), .sl .no 2 (es cBoat n3)])] :: s) (fun (a : Unit) => (.exit 0, [(2, .ptr s.length 32 0), (3, .ptr s.length 48 0), (5, i64 n2.length), (34, .bool false)], [(32, .cell [i64 n0, i64 n1, .sl .no 2 (es cSp n2), .sl .no 2 (es cBoat n3)]), (48, .cell [i64 n0, i64 n1, .sl .no 2 (es cSp n2), .sl .no 2 (es cBoat n3)])] :: s)) (by simp) ?_ ?_ ?_ () (by simp) [(2, .ptr s.length 32 0), (3, .ptr s.length 48 0), (5, i64 0)] ([(32, .cell [i64 n0, i64 n1, .sl .no 2 (es cSp n2), .sl .no 2 (es cBoat n3)]), (48, .cell [i64 n0, i64 n1, .sl .no 2 (es cSp n2), .sl .no 2 (es cBoat n3)])] :: s) (by simp) (by simp)
 ·exact key
 ·intro k a hk hi
  try simp only [List.length_range] at hk
  try simp only [List.getElem_range]
  simp (maxSteps := 1000000) (disch := first | omega | assumption | decide +kernel | (simp; done) | (simp; omega) | fail) [run_drawnK, hk, wk k (by omega)]
 ·intro k a hk hi
  try simp only [List.length_range] at hk
  try simp only [List.getElem_range]
  try simp
 ·intro a hi
  simp
theorem e_Same05_l1 (n0 : Int) (n1 : Int) (n2 : List Sp) (n3 : List Boat) (hl : n3.length < 4611686018427387904) (s : Stk) :
 Run T b73l1 [(2, .ptr s.length 32 0), (3, .ptr s.length 48 0), (6, i64 0)] ([(32, .cell [i64 n0, i64 n1, .sl .no 2 (es cSp n2), .sl .no 2 (es cBoat n3)]), (48, .cell [i64 n0, i64 n1, .sl .no 2 (es cSp n2), .sl .no 2 (es cBoat n3)])] :: s) = some (.exit 2, [(2, .ptr s.length 32 0), (3, .ptr s.length 48 0), (6, i64 n3.length), (52, .bool false)], [(32, .cell [i64 n0, i64 n1, .sl .no 2 (es cSp n2), .sl .no 2 (es cBoat n3)]), (48, .cell [i64 n0, i64 n1, .sl .no 2 (es cSp n2), .sl .no 2 (es cBoat n3)])] :: s) := by
 have key := loop_fold (T := T) (live := [2, 3, 6]) (keep := [32, 48]) (b := d73l1) (List.range n3.length) (fun _ _ => True) (fun (_ : Unit) (_ : Nat) => ()) (fun k (a : Unit) => [(2, .ptr s.length 32 0), (3, .ptr s.length 48 0), (6, i64 k)]) (fun k (a : Unit) => [(32, .cell [i64 n0, i64 n1, .sl .no 2 (es cSp n2), .sl .no 2 (es cBoat n3)]), (48, .cell [i64 n0, i64 n1, .sl .no 2 (es cSp n2), .sl .no 2 (es cBoat n3)])] :: s) (fun (a : Unit) => (.exit 2, [(2, .ptr s.length 32 0), (3, .ptr s.length 48 0), (6, i64 n3.length), (52, .bool false)], [(32, .cell [i64 n0, i64 n1, .sl .no 2 (es cSp n2), .sl .no 2 (es cBoat n3)]), (48, .cell [i64 n0, i64 n1, .sl .no 2 (es cSp n2), .sl .no 2 (es cBoat n3)])] :: s)) (by simp) ?_ ?_ ?_ () (by simp) [(2, .ptr s.length 32 0), (3, .ptr s.length 48 0), (6, i64 0)] ([(32, .cell [i64 n0, i64 n1, .sl .no 2 (es cSp n2), .sl .no 2 (es cBoat n3)]), (48, .cell [i64 n0, i64 n1, .sl .no 2 (es cSp n2), .sl .no 2 (es cBoat n3)])] :: s) (by simp) (by simp)
 ·exact key
 ·intro k a hk hi
  try simp only [List.length_range] at hk
  try simp only [List.getElem_range]
  simp (maxSteps := 1000000) (disch := first | omega | assumption | decide +kernel | (simp; done) | (simp; omega) | fail) [run_drawnK, hk, wk k (by omega)]
 ·intro k a hk hi
  try simp only [List.length_range] at hk
  try simp only [List.getElem_range]
  try simp
 ·intro a hi
  simp
@[simp] theorem e_Same05 (n0 : Int) (n1 : Int) (n2 : List Sp) (n3 : List Boat) (h2 : n2.length < 4611686018427387904) (h3 : n3.length < 4611686018427387904) (lab s) : den T 73 [.agg [i64 n0, i64 n1, .sl .no 2 (es cSp n2), .sl .no 2 (es cBoat n3)], .agg [i64 n0, i64 n1, .sl .no 2 (es cSp n2), .sl .no 2 (es cBoat n3)]] lab s = some (.bool true, s) := by
 have l0 := e_Same05_l0 n0 n1 n2 n3 h2 s
 have l1 := e_Same05_l1 n0 n1 n2 n3 h3 s
 rw [den_fn t73 _ _ _ rfl]
 simp only [b73]
 simp (maxSteps := 1000000) (disch := first | omega | assumption | decide +kernel | (simp; done) | (simp; omega) | fail) [run_drawnK, l0, l1]
theorem e_Same13_l0 (n0 : Int) (n1 : Int) (n2 : Int) (n3 : Int) (n4 : List Sp) (n5 : List Anc) (n6 : List Wal) (n7 : Int) (n8 : Int) (n9 : List Sp) (n10 : List Boat) (n11 : List Sky) (n12 : List (List Int)) (n13 : List Int) (n14 : List Sp) (hl : n11.length < 4611686018427387904) (hf : ∀ l ∈ n12, l.length < 4611686018427387904) (s : Stk) :
 Run T b19l0 [(2, .ptr s.length 32 0), (3, .ptr s.length 48 0), (5, i64 0)] ([(32, .cell [i64 n0, i64 n1, i64 n2, i64 n3, .sl .no 2 (es cSp n4), .sl .no 2 (es cAnc n5), .sl .no 5 (es cWal n6), i64 n7, i64 n8, .sl .no 2 (es cSp n9), .sl .no 2 (es cBoat n10), .sl .no 4 (es cSky n11), .sl .no 1 (es cInts n12), .sl .no 1 (es cInt n13), .sl .no 2 (es cSp n14)]), (48, .cell [i64 n0, i64 n1, i64 n2, i64 n3, .sl .no 2 (es cSp n4), .sl .no 2 (es cAnc n5), .sl .no 5 (es cWal n6), i64 n7, i64 n8, .sl .no 2 (es cSp n9), .sl .no 2 (es cBoat n10), .sl .no 4 (es cSky n11), .sl .no 1 (es cInts n12), .sl .no 1 (es cInt n13), .sl .no 2 (es cSp n14)])] :: s) = some (.exit 0, [(2, .ptr s.length 32 0), (3, .ptr s.length 48 0), (5, i64 n11.length), (61, .bool false)], [(32, .cell [i64 n0, i64 n1, i64 n2, i64 n3, .sl .no 2 (es cSp n4), .sl .no 2 (es cAnc n5), .sl .no 5 (es cWal n6), i64 n7, i64 n8, .sl .no 2 (es cSp n9), .sl .no 2 (es cBoat n10), .sl .no 4 (es cSky n11), .sl .no 1 (es cInts n12), .sl .no 1 (es cInt n13), .sl .no 2 (es cSp n14)]), (48, .cell [i64 n0, i64 n1, i64 n2, i64 n3, .sl .no 2 (es cSp n4), .sl .no 2 (es cAnc n5), .sl .no 5 (es cWal n6), i64 n7, i64 n8, .sl .no 2 (es cSp n9), .sl .no 2 (es cBoat n10), .sl .no 4 (es cSky n11), .sl .no 1 (es cInts n12), .sl .no 1 (es cInt n13), .sl .no 2 (es cSp n14)])] :: s) := by
 have key := loop_fold (T := T) (live := [2, 3, 5]) (keep := [32, 48, 192, 304, 720, 1472]) (b := d19l0) (List.range n11.length) (fun _ _ => True) (fun (_ : Unit) (_ : Nat) => ()) (fun k (a : Unit) => [(2, .ptr s.length 32 0), (3, .ptr s.length 48 0), (5, i64 k)]) (fun k (a : Unit) => [(32, .cell [i64 n0, i64 n1, i64 n2, i64 n3, .sl .no 2 (es cSp n4), .sl .no 2 (es cAnc n5), .sl .no 5 (es cWal n6), i64 n7, i64 n8, .sl .no 2 (es cSp n9), .sl .no 2 (es cBoat n10), .sl .no 4 (es cSky n11), .sl .no 1 (es cInts n12), .sl .no 1 (es cInt n13), .sl .no 2 (es cSp n14)]), (48, .cell [i64 n0, i64 n1, i64 n2, i64 n3, .sl .no 2 (es cSp n4), .sl .no 2 (es cAnc n5), .sl .no 5 (es cWal n6), i64 n7, i64 n8, .sl .no 2 (es cSp n9), .sl .no 2 (es cBoat n10), .sl .no 4 (es cSky n11), .sl .no 1 (es cInts n12), .sl .no 1 (es cInt n13), .sl .no 2 (es cSp n14)])] :: s) (fun (a : Unit) => (.exit 0, [(2, .ptr s.length 32 0), (3, .ptr s.length 48 0), (5, i64 n11.length), (61, .bool false)], [(32, .cell [i64 n0, i64 n1, i64 n2, i64 n3, .sl .no 2 (es cSp n4), .sl .no 2 (es cAnc n5), .sl .no 5 (es cWal n6), i64 n7, i64 n8, .sl .no 2 (es cSp n9), .sl .no 2 (es cBoat n10), .sl .no 4 (es cSky n11), .sl .no 1 (es cInts n12), .sl .no 1 (es cInt n13), .sl .no 2 (es cSp n14)]), (48, .cell [i64 n0, i64 n1, i64 n2, i64 n3, .sl .no 2 (es cSp n4), .sl .no 2 (es cAnc n5), .sl .no 5 (es cWal n6), i64 n7, i64 n8, .sl .no 2 (es cSp n9), .sl .no 2 (es cBoat n10), .sl .no 4 (es cSky n11), .sl .no 1 (es cInts n12), .sl .no 1 (es cInt n13), .sl .no 2 (es cSp n14)])] :: s)) (by simp) ?_ ?_ ?_ () (by simp) [(2, .ptr s.length 32 0), (3, .ptr s.length 48 0), (5, i64 0)] ([(32, .cell [i64 n0, i64 n1, i64 n2, i64 n3, .sl .no 2 (es cSp n4), .sl .no 2 (es cAnc n5), .sl .no 5 (es cWal n6), i64 n7, i64 n8, .sl .no 2 (es cSp n9), .sl .no 2 (es cBoat n10), .sl .no 4 (es cSky n11), .sl .no 1 (es cInts n12), .sl .no 1 (es cInt n13), .sl .no 2 (es cSp n14)]), (48, .cell [i64 n0, i64 n1, i64 n2, i64 n3, .sl .no 2 (es cSp n4), .sl .no 2 (es cAnc n5), .sl .no 5 (es cWal n6), i64 n7, i64 n8, .sl .no 2 (es cSp n9), .sl .no 2 (es cBoat n10), .sl .no 4 (es cSky n11), .sl .no 1 (es cInts n12), .sl .no 1 (es cInt n13), .sl .no 2 (es cSp n14)])] :: s) (by simp) (by simp)
 ·exact key
 ·intro k a hk hi
  try simp only [List.length_range] at hk
  try simp only [List.getElem_range]
  skip
  simp (maxSteps := 1000000) (disch := first | omega | assumption | decide +kernel | (simp; done) | (simp; omega) | fail) [run_drawnK, hk, wk k (by omega)]
 ·intro k a hk hi
  try simp only [List.length_range] at hk
  try simp only [List.getElem_range]
  try simp
 ·intro a hi
  simp
theorem e_Same13_l1 (n0 : Int) (n1 : Int) (n2 : Int) (n3 : Int) (n4 : List Sp) (n5 : List Anc) (n6 : List Wal) (n7 : Int) (n8 : Int) (n9 : List Sp) (n10 : List Boat) (n11 : List Sky) (n12 : List (List Int)) (n13 : List Int) (n14 : List Sp) (hl : n12.length < 4611686018427387904) (hf : ∀ l ∈ n12, l.length < 4611686018427387904) (s : Stk) :
 Run T b19l1 [(2, .ptr s.length 32 0), (3, .ptr s.length 48 0), (6, i64 0)] ([(32, .cell [i64 n0, i64 n1, i64 n2, i64 n3, .sl .no 2 (es cSp n4), .sl .no 2 (es cAnc n5), .sl .no 5 (es cWal n6), i64 n7, i64 n8, .sl .no 2 (es cSp n9), .sl .no 2 (es cBoat n10), .sl .no 4 (es cSky n11), .sl .no 1 (es cInts n12), .sl .no 1 (es cInt n13), .sl .no 2 (es cSp n14)]), (48, .cell [i64 n0, i64 n1, i64 n2, i64 n3, .sl .no 2 (es cSp n4), .sl .no 2 (es cAnc n5), .sl .no 5 (es cWal n6), i64 n7, i64 n8, .sl .no 2 (es cSp n9), .sl .no 2 (es cBoat n10), .sl .no 4 (es cSky n11), .sl .no 1 (es cInts n12), .sl .no 1 (es cInt n13), .sl .no 2 (es cSp n14)])] :: s) = some (.exit 2, [(2, .ptr s.length 32 0), (3, .ptr s.length 48 0), (6, i64 n12.length), (79, .bool false)], [(32, .cell [i64 n0, i64 n1, i64 n2, i64 n3, .sl .no 2 (es cSp n4), .sl .no 2 (es cAnc n5), .sl .no 5 (es cWal n6), i64 n7, i64 n8, .sl .no 2 (es cSp n9), .sl .no 2 (es cBoat n10), .sl .no 4 (es cSky n11), .sl .no 1 (es cInts n12), .sl .no 1 (es cInt n13), .sl .no 2 (es cSp n14)]), (48, .cell [i64 n0, i64 n1, i64 n2, i64 n3, .sl .no 2 (es cSp n4), .sl .no 2 (es cAnc n5), .sl .no 5 (es cWal n6), i64 n7, i64 n8, .sl .no 2 (es cSp n9), .sl .no 2 (es cBoat n10), .sl .no 4 (es cSky n11), .sl .no 1 (es cInts n12), .sl .no 1 (es cInt n13), .sl .no 2 (es cSp n14)])] :: s) := by
 have key := loop_fold (T := T) (live := [2, 3, 6]) (keep := [32, 48, 192, 304, 720]) (b := d19l1) (List.range n12.length) (fun _ _ => True) (fun (_ : Unit) (_ : Nat) => ()) (fun k (a : Unit) => [(2, .ptr s.length 32 0), (3, .ptr s.length 48 0), (6, i64 k)]) (fun k (a : Unit) => [(32, .cell [i64 n0, i64 n1, i64 n2, i64 n3, .sl .no 2 (es cSp n4), .sl .no 2 (es cAnc n5), .sl .no 5 (es cWal n6), i64 n7, i64 n8, .sl .no 2 (es cSp n9), .sl .no 2 (es cBoat n10), .sl .no 4 (es cSky n11), .sl .no 1 (es cInts n12), .sl .no 1 (es cInt n13), .sl .no 2 (es cSp n14)]), (48, .cell [i64 n0, i64 n1, i64 n2, i64 n3, .sl .no 2 (es cSp n4), .sl .no 2 (es cAnc n5), .sl .no 5 (es cWal n6), i64 n7, i64 n8, .sl .no 2 (es cSp n9), .sl .no 2 (es cBoat n10), .sl .no 4 (es cSky n11), .sl .no 1 (es cInts n12), .sl .no 1 (es cInt n13), .sl .no 2 (es cSp n14)])] :: s) (fun (a : Unit) => (.exit 2, [(2, .ptr s.length 32 0), (3, .ptr s.length 48 0), (6, i64 n12.length), (79, .bool false)], [(32, .cell [i64 n0, i64 n1, i64 n2, i64 n3, .sl .no 2 (es cSp n4), .sl .no 2 (es cAnc n5), .sl .no 5 (es cWal n6), i64 n7, i64 n8, .sl .no 2 (es cSp n9), .sl .no 2 (es cBoat n10), .sl .no 4 (es cSky n11), .sl .no 1 (es cInts n12), .sl .no 1 (es cInt n13), .sl .no 2 (es cSp n14)]), (48, .cell [i64 n0, i64 n1, i64 n2, i64 n3, .sl .no 2 (es cSp n4), .sl .no 2 (es cAnc n5), .sl .no 5 (es cWal n6), i64 n7, i64 n8, .sl .no 2 (es cSp n9), .sl .no 2 (es cBoat n10), .sl .no 4 (es cSky n11), .sl .no 1 (es cInts n12), .sl .no 1 (es cInt n13), .sl .no 2 (es cSp n14)])] :: s)) (by simp) ?_ ?_ ?_ () (by simp) [(2, .ptr s.length 32 0), (3, .ptr s.length 48 0), (6, i64 0)] ([(32, .cell [i64 n0, i64 n1, i64 n2, i64 n3, .sl .no 2 (es cSp n4), .sl .no 2 (es cAnc n5), .sl .no 5 (es cWal n6), i64 n7, i64 n8, .sl .no 2 (es cSp n9), .sl .no 2 (es cBoat n10), .sl .no 4 (es cSky n11), .sl .no 1 (es cInts n12), .sl .no 1 (es cInt n13), .sl .no 2 (es cSp n14)]), (48, .cell [i64 n0, i64 n1, i64 n2, i64 n3, .sl .no 2 (es cSp n4), .sl .no 2 (es cAnc n5), .sl .no 5 (es cWal n6), i64 n7, i64 n8, .sl .no 2 (es cSp n9), .sl .no 2 (es cBoat n10), .sl .no 4 (es cSky n11), .sl .no 1 (es cInts n12), .sl .no 1 (es cInt n13), .sl .no 2 (es cSp n14)])] :: s) (by simp) (by simp)
 ·exact key
 ·intro k a hk hi
  try simp only [List.length_range] at hk
  try simp only [List.getElem_range]
  have hfk := hf n12[k] (List.getElem_mem hk)
  simp (maxSteps := 1000000) (disch := first | omega | assumption | decide +kernel | (simp; done) | (simp; omega) | fail) [run_drawnK, hk, wk k (by omega)]
 ·intro k a hk hi
  try simp only [List.length_range] at hk
  try simp only [List.getElem_range]
  try simp
 ·intro a hi
  simp
theorem e_Same13_l2 (n0 : Int) (n1 : Int) (n2 : Int) (n3 : Int) (n4 : List Sp) (n5 : List Anc) (n6 : List Wal) (n7 : Int) (n8 : Int) (n9 : List Sp) (n10 : List Boat) (n11 : List Sky) (n12 : List (List Int)) (n13 : List Int) (n14 : List Sp) (hl : n14.length < 4611686018427387904) (hf : ∀ l ∈ n12, l.length < 4611686018427387904) (s : Stk) :
 Run T b19l2 [(2, .ptr s.length 32 0), (3, .ptr s.length 48 0), (7, i64 0)] ([(32, .cell [i64 n0, i64 n1, i64 n2, i64 n3, .sl .no 2 (es cSp n4), .sl .no 2 (es cAnc n5), .sl .no 5 (es cWal n6), i64 n7, i64 n8, .sl .no 2 (es cSp n9), .sl .no 2 (es cBoat n10), .sl .no 4 (es cSky n11), .sl .no 1 (es cInts n12), .sl .no 1 (es cInt n13), .sl .no 2 (es cSp n14)]), (48, .cell [i64 n0, i64 n1, i64 n2, i64 n3, .sl .no 2 (es cSp n4), .sl .no 2 (es cAnc n5), .sl .no 5 (es cWal n6), i64 n7, i64 n8, .sl .no 2 (es cSp n9), .sl .no 2 (es cBoat n10), .sl .no 4 (es cSky n11), .sl .no 1 (es cInts n12), .sl .no 1 (es cInt n13), .sl .no 2 (es cSp n14)])] :: s) = some (.exit 4, [(2, .ptr s.length 32 0), (3, .ptr s.length 48 0), (7, i64 n14.length), (98, .bool false)], [(32, .cell [i64 n0, i64 n1, i64 n2, i64 n3, .sl .no 2 (es cSp n4), .sl .no 2 (es cAnc n5), .sl .no 5 (es cWal n6), i64 n7, i64 n8, .sl .no 2 (es cSp n9), .sl .no 2 (es cBoat n10), .sl .no 4 (es cSky n11), .sl .no 1 (es cInts n12), .sl .no 1 (es cInt n13), .sl .no 2 (es cSp n14)]), (48, .cell [i64 n0, i64 n1, i64 n2, i64 n3, .sl .no 2 (es cSp n4), .sl .no 2 (es cAnc n5), .sl .no 5 (es cWal n6), i64 n7, i64 n8, .sl .no 2 (es cSp n9), .sl .no 2 (es cBoat n10), .sl .no 4 (es cSky n11), .sl .no 1 (es cInts n12), .sl .no 1 (es cInt n13), .sl .no 2 (es cSp n14)])] :: s) := by
 have key := loop_fold (T := T) (live := [2, 3, 7]) (keep := [32, 48, 192, 304, 720, 1472]) (b := d19l2) (List.range n14.length) (fun _ _ => True) (fun (_ : Unit) (_ : Nat) => ()) (fun k (a : Unit) => [(2, .ptr s.length 32 0), (3, .ptr s.length 48 0), (7, i64 k)]) (fun k (a : Unit) => [(32, .cell [i64 n0, i64 n1, i64 n2, i64 n3, .sl .no 2 (es cSp n4), .sl .no 2 (es cAnc n5), .sl .no 5 (es cWal n6), i64 n7, i64 n8, .sl .no 2 (es cSp n9), .sl .no 2 (es cBoat n10), .sl .no 4 (es cSky n11), .sl .no 1 (es cInts n12), .sl .no 1 (es cInt n13), .sl .no 2 (es cSp n14)]), (48, .cell [i64 n0, i64 n1, i64 n2, i64 n3, .sl .no 2 (es cSp n4), .sl .no 2 (es cAnc n5), .sl .no 5 (es cWal n6), i64 n7, i64 n8, .sl .no 2 (es cSp n9), .sl .no 2 (es cBoat n10), .sl .no 4 (es cSky n11), .sl .no 1 (es cInts n12), .sl .no 1 (es cInt n13), .sl .no 2 (es cSp n14)])] :: s) (fun (a : Unit) => (.exit 4, [(2, .ptr s.length 32 0), (3, .ptr s.length 48 0), (7, i64 n14.length), (98, .bool false)], [(32, .cell [i64 n0, i64 n1, i64 n2, i64 n3, .sl .no 2 (es cSp n4), .sl .no 2 (es cAnc n5), .sl .no 5 (es cWal n6), i64 n7, i64 n8, .sl .no 2 (es cSp n9), .sl .no 2 (es cBoat n10), .sl .no 4 (es cSky n11), .sl .no 1 (es cInts n12), .sl .no 1 (es cInt n13), .sl .no 2 (es cSp n14)]), (48, .cell [i64 n0, i64 n1, i64 n2, i64 n3, .sl .no 2 (es cSp n4), .sl .no 2 (es cAnc n5), .sl .no 5 (es cWal n6), i64 n7, i64 n8, .sl .no 2 (es cSp n9), .sl .no 2 (es cBoat n10), .sl .no 4 (es cSky n11), .sl .no 1 (es cInts n12), .sl .no 1 (es cInt n13), .sl .no 2 (es cSp n14)])] :: s)) (by simp) ?_ ?_ ?_ () (by simp) [(2, .ptr s.length 32 0), (3, .ptr s.length 48 0), (7, i64 0)] ([(32, .cell [i64 n0, i64 n1, i64 n2, i64 n3, .sl .no 2 (es cSp n4), .sl .no 2 (es cAnc n5), .sl .no 5 (es cWal n6), i64 n7, i64 n8, .sl .no 2 (es cSp n9), .sl .no 2 (es cBoat n10), .sl .no 4 (es cSky n11), .sl .no 1 (es cInts n12), .sl .no 1 (es cInt n13), .sl .no 2 (es cSp n14)]), (48, .cell [i64 n0, i64 n1, i64 n2, i64 n3, .sl .no 2 (es cSp n4), .sl .no 2 (es cAnc n5), .sl .no 5 (es cWal n6), i64 n7, i64 n8, .sl .no 2 (es cSp n9), .sl .no 2 (es cBoat n10), .sl .no 4 (es cSky n11), .sl .no 1 (es cInts n12), .sl .no 1 (es cInt n13), .sl .no 2 (es cSp n14)])] :: s) (by simp) (by simp)
 ·exact key
 ·intro k a hk hi
  try simp only [List.length_range] at hk
  try simp only [List.getElem_range]
  skip
  simp (maxSteps := 1000000) (disch := first | omega | assumption | decide +kernel | (simp; done) | (simp; omega) | fail) [run_drawnK, hk, wk k (by omega)]
 ·intro k a hk hi
  try simp only [List.length_range] at hk
  try simp only [List.getElem_range]
  try simp
 ·intro a hi
  simp
set_option maxHeartbeats 1000000 in
theorem e_Same13 (n0 : Int) (n1 : Int) (n2 : Int) (n3 : Int) (n4 : List Sp) (n5 : List Anc) (n6 : List Wal) (n7 : Int) (n8 : Int) (n9 : List Sp) (n10 : List Boat) (n11 : List Sky) (n12 : List (List Int)) (n13 : List Int) (n14 : List Sp) (hsc : ShortC (⟨⟨⟨n0, n1⟩, ⟨n2, n3⟩, n4, n5, n6⟩, ⟨⟨n7, n8⟩, n9, n10⟩, n11, n12, n13, n14⟩ : Season)) (lab s) : den T 19 [.agg [i64 n0, i64 n1, i64 n2, i64 n3, .sl .no 2 (es cSp n4), .sl .no 2 (es cAnc n5), .sl .no 5 (es cWal n6), i64 n7, i64 n8, .sl .no 2 (es cSp n9), .sl .no 2 (es cBoat n10), .sl .no 4 (es cSky n11), .sl .no 1 (es cInts n12), .sl .no 1 (es cInt n13), .sl .no 2 (es cSp n14)], .agg [i64 n0, i64 n1, i64 n2, i64 n3, .sl .no 2 (es cSp n4), .sl .no 2 (es cAnc n5), .sl .no 5 (es cWal n6), i64 n7, i64 n8, .sl .no 2 (es cSp n9), .sl .no 2 (es cBoat n10), .sl .no 4 (es cSky n11), .sl .no 1 (es cInts n12), .sl .no 1 (es cInt n13), .sl .no 2 (es cSp n14)]] lab s = some (.bool true, s) := by
 obtain ⟨s1, s2, s3, s4, s5, s6, s7, s8⟩ := hsc.short
 have p9 := hsc.places
 have p10 := hsc.boats
 simp only at p9 p10 s1 s2 s3 s4 s5 s6 s7 s8
 have l0 := e_Same13_l0 n0 n1 n2 n3 n4 n5 n6 n7 n8 n9 n10 n11 n12 n13 n14 s4 s8 s
 have l1 := e_Same13_l1 n0 n1 n2 n3 n4 n5 n6 n7 n8 n9 n10 n11 n12 n13 n14 s5 s8 s
 have l2 := e_Same13_l2 n0 n1 n2 n3 n4 n5 n6 n7 n8 n9 n10 n11 n12 n13 n14 s7 s8 s
 rw [den_fn t19 _ _ _ rfl]
 simp only [b19]
 simp (maxSteps := 1000000) (disch := first | omega | assumption | decide +kernel | (simp; done) | (simp; omega) | fail) [run_drawnK, l0, l1, l2]
end Go.Proofs.YtekgicoibcgecaaGreat

/-
  The reference of chapter 13: ask, Calm, Holds, Mays, May, worth, lift, brings, courses.
-/
namespace Go.Proofs.YtekgicoibcgecaaGreat
open Go.Ab
def askE (n : Season) (b : Bool) : Int := if seasonOk n = true then (if b = true then 0 else 1) else 130
theorem e_ask13 (n0 : Int) (n1 : Int) (n2 : Int) (n3 : Int) (n4 : List Sp) (n5 : List Anc) (n6 : List Wal) (n7 : Int) (n8 : Int) (n9 : List Sp) (n10 : List Boat) (n11 : List Sky) (n12 : List (List Int)) (n13 : List Int) (n14 : List Sp) (hs : Short (⟨⟨⟨n0, n1⟩, ⟨n2, n3⟩, n4, n5, n6⟩, ⟨⟨n7, n8⟩, n9, n10⟩, n11, n12, n13, n14⟩ : Season)) (b : Bool) (lab s) : den T 64 [.agg [i64 n0, i64 n1, i64 n2, i64 n3, .sl .no 2 (es cSp n4), .sl .no 2 (es cAnc n5), .sl .no 5 (es cWal n6), i64 n7, i64 n8, .sl .no 2 (es cSp n9), .sl .no 2 (es cBoat n10), .sl .no 4 (es cSky n11), .sl .no 1 (es cInts n12), .sl .no 1 (es cInt n13), .sl .no 2 (es cSp n14)], .bool b] lab s = some (i64 (askE (⟨⟨⟨n0, n1⟩, ⟨n2, n3⟩, n4, n5, n6⟩, ⟨⟨n7, n8⟩, n9, n10⟩, n11, n12, n13, n14⟩ : Season) b), s) := by
 have hc := fun lab s => e_Check13 n0 n1 n2 n3 n4 n5 n6 n7 n8 n9 n10 n11 n12 n13 n14 hs.skies hs.first hs.days hs.each lab s
 rw [den_fn t64 _ _ _ rfl]
 simp only [b64]
 cases c0 : seasonOk (⟨⟨⟨n0, n1⟩, ⟨n2, n3⟩, n4, n5, n6⟩, ⟨⟨n7, n8⟩, n9, n10⟩, n11, n12, n13, n14⟩ : Season)
 ·simp (disch := first | omega | assumption | decide +kernel | (simp; done) | (simp; omega) | fail) [hc, c0, askE]
 ·cases b
  ·simp (disch := first | omega | assumption | decide +kernel | (simp; done) | (simp; omega) | fail) [hc, c0, askE]
  ·simp (disch := first | omega | assumption | decide +kernel | (simp; done) | (simp; omega) | fail) [hc, c0, askE]
set_option maxHeartbeats 1000000 in
theorem e_SeaOf (n0 : Int) (n1 : Int) (n2 : Int) (n3 : Int) (n4 : List Sp) (n5 : List Anc) (n6 : List Wal) (n7 : Int) (n8 : Int) (n9 : List Sp) (n10 : List Boat) (n11 : List Sky) (n12 : List (List Int)) (n13 : List Int) (n14 : List Sp) (h9 : n9.length < 8796093022208) (h10 : n10.length < 8796093022208) (k : Nat) (hk : k < n14.length) (lab s) :
 den T 114 [.agg [i64 n0, i64 n1, i64 n2, i64 n3, .sl .no 2 (es cSp n4), .sl .no 2 (es cAnc n5), .sl .no 5 (es cWal n6), i64 n7, i64 n8, .sl .no 2 (es cSp n9), .sl .no 2 (es cBoat n10), .sl .no 4 (es cSky n11), .sl .no 1 (es cInts n12), .sl .no 1 (es cInt n13), .sl .no 2 (es cSp n14)], i64 k] lab s = some (.agg [i64 n14[k].lo, i64 n14[k].hi, .sl .no 2 (es cSp n9), .sl .no 2 (es cBoat n10)], s) := by
 rw [den_fn t114 _ _ _ rfl]
 simp only [b114]
 simp (maxSteps := 1000000) (disch := first | omega | assumption | decide +kernel | (simp; done) | (simp; omega) | fail) [run_drawnK, hk]
theorem e_holdsOf (n0 : Int) (n1 : Int) (n2 : Int) (n3 : Int) (n4 : List Sp) (n5 : List Anc) (n6 : List Wal) (n7 : Int) (n8 : Int) (n9 : List Sp) (n10 : List Boat) (n11 : List Sky) (n12 : List (List Int)) (n13 : List Int) (n14 : List Sp) (h9 : n9.length < 8796093022208) (h10 : n10.length < 8796093022208) (k : Nat) (hk : k < n14.length) (lab s) :
 den T 69 [.agg [i64 n0, i64 n1, i64 n2, i64 n3, .sl .no 2 (es cSp n4), .sl .no 2 (es cAnc n5), .sl .no 5 (es cWal n6), i64 n7, i64 n8, .sl .no 2 (es cSp n9), .sl .no 2 (es cBoat n10), .sl .no 4 (es cSky n11), .sl .no 1 (es cInts n12), .sl .no 1 (es cInt n13), .sl .no 2 (es cSp n14)], i64 k] lab s = some (.bool (decide (holdS (⟨⟨⟨n0, n1⟩, ⟨n2, n3⟩, n4, n5, n6⟩, ⟨⟨n7, n8⟩, n9, n10⟩, n11, n12, n13, n14⟩ : Season) k = 1)), s) := by
 have h1 := fun lab s => e_SeaOf n0 n1 n2 n3 n4 n5 n6 n7 n8 n9 n10 n11 n12 n13 n14 h9 h10 k hk lab s
 have h2 := fun lab s => e_Crew05 n14[k].lo n14[k].hi n9 n10 lab s
 simp only [crewE_law, Sp.eta] at h2
 have h3 : (holdS (⟨⟨⟨n0, n1⟩, ⟨n2, n3⟩, n4, n5, n6⟩, ⟨⟨n7, n8⟩, n9, n10⟩, n11, n12, n13, n14⟩ : Season) k = 1) ↔ (cheapR ⟨n14[k], n9, n10⟩).2 = 0 := by
  simp only [holdS, List.getElem?_eq_getElem hk]
  split <;> simp_all
 simp only [h3]
 rw [den_fn t69 _ _ _ rfl]
 simp only [b69]
 simp (maxSteps := 1000000) (disch := first | omega | assumption | decide +kernel | (simp; done) | (simp; omega) | fail) [h1, h2]
@[simp] def cBool (b : Bool) : List V := [.bool b]
@[simp] theorem map_cBool (r : Ren) (l) : (es cBool l).map (V.mapAll r) = es cBool l := es_map _ _ (fun _ => by simp) _
@[simp] theorem strip_cBool (l) : (es cBool l).map V.stripAll = es cBool l := es_strip _ (fun _ => by simp) _
@[simp] theorem refs_cBool (own : Bool) (d : Nat) (l) : (es cBool l).flatMap (V.refsAll own d) = [] := es_refs _ _ _ (fun _ => by simp) _
@[simp] theorem elems_cBool (l) : elemsOk (es cBool l) 1 = true := elemsOk_es _ _ (fun _ => by simp) _
@[simp] theorem es_bool1 (l : List Bool) (b : Bool) : es cBool l ++ [[.bool b]] = es cBool (l ++ [b]) := by simp [es]
@[simp] def cBools (l : List Bool) : List V := [.sl .no 1 (es cBool l)]
@[simp] theorem map_cBools (r : Ren) (h : r.c .no = .no) (l) : (es cBools l).map (V.mapAll r) = es cBools l := es_map _ _ (fun _ => by simp [h]) _
@[simp] theorem map_cBools_d (d keep l) : (es cBools l).map (V.mapAll (dropR d keep)) = es cBools l := map_cBools _ rfl l
@[simp] theorem map_cBools_f (d k z e l) : (es cBools l).map (V.mapAll (frzR d k z e)) = es cBools l := map_cBools _ rfl l
@[simp] theorem map_cBools_r (own d loc ls d' lab l) : (es cBools l).map (V.mapAll (renR own d loc ls d' lab)) = es cBools l := map_cBools _ (by cases own <;> rfl) l
@[simp] theorem strip_cBools (l) : (es cBools l).map V.stripAll = es cBools l := es_strip _ (fun _ => by simp) _
@[simp] theorem refs_cBools (own : Bool) (d : Nat) (l) : (es cBools l).flatMap (V.refsAll own d) = [] := es_refs _ _ _ (fun _ => by cases own <;> simp [V.refs, Cap.refs]) _
@[simp] theorem elems_cBools (l) : elemsOk (es cBools l) 1 = true := elemsOk_es _ _ (fun _ => by simp) _
@[simp] theorem es_bools1 (l : List (List Bool)) (x : List Bool) : es cBools l ++ [[.sl .no 1 (es cBool x)]] = es cBools (l ++ [x]) := by simp [es]
def calmsS (n : Season) : List Bool := (List.range n.skies.length).map fun k => decide (calmS n k = 1)
def mayRow (n : Season) (day : Nat) : List Bool := (List.range n.skies.length).map fun k => mayS n day k
def maysS (n : Season) : List (List Bool) := (List.range n.days.length).map fun d => mayRow n d
theorem maysS_get {n : Season} {day sky : Nat} (h1 : day < n.days.length) (h2 : sky < n.skies.length) : ∃ (k1 : day < (maysS n).length) (k2 : sky < (maysS n)[day].length), (maysS n)[day][sky] = mayS n day sky := by
 refine ⟨by simp [maysS, h1], by simp [maysS, mayRow, h2], by simp [maysS, mayRow]⟩
theorem sky_net {n : Season} (hok : seasonOk n = true) {k : Nat} (hk : k < n.skies.length) : netOk ⟨n.skies[k].wind, n.skies[k].cur, n.net.grips, n.net.anch, n.net.walls⟩ = true := by
 obtain ⟨q1, q2, q3, q4, q5, q6, q7, q8, q9⟩ := seasonOk_iff.1 hok
 obtain ⟨a1, a2, a3, a4, a5, a6, a7, a8⟩ := netOk_iff.1 q1
 have h9 := allB_iff.1 q8 k (List.mem_range.2 hk)
 have hk2 : k < n.follows.length := by omega
 simp only [skyAt, List.getElem?_eq_getElem hk, List.getElem?_eq_getElem hk2, Bool.and_eq_true] at h9
 exact netOk_iff.2 ⟨h9.1.1, h9.1.2, a3, a4, a5, a6, a7, a8⟩
theorem e_Mays_l0 (n0 : Int) (n1 : Int) (n2 : Int) (n3 : Int) (n4 : List Sp) (n5 : List Anc) (n6 : List Wal) (n7 : Int) (n8 : Int) (n9 : List Sp) (n10 : List Boat) (n11 : List Sky) (n12 : List (List Int)) (n13 : List Int) (n14 : List Sp) (hs : ShortC (⟨⟨⟨n0, n1⟩, ⟨n2, n3⟩, n4, n5, n6⟩, ⟨⟨n7, n8⟩, n9, n10⟩, n11, n12, n13, n14⟩ : Season)) (hok : seasonOk (⟨⟨⟨n0, n1⟩, ⟨n2, n3⟩, n4, n5, n6⟩, ⟨⟨n7, n8⟩, n9, n10⟩, n11, n12, n13, n14⟩ : Season) = true) (s : Stk) :
 Run T b71l0 [(3, .sl (.own s.length 49) 1 []), (1, .ptr s.length 16 0), (3, .sl .full 1 []), (4, i64 0)] ([(16, .cell [i64 n0, i64 n1, i64 n2, i64 n3, .sl .no 2 (es cSp n4), .sl .no 2 (es cAnc n5), .sl .no 5 (es cWal n6), i64 n7, i64 n8, .sl .no 2 (es cSp n9), .sl .no 2 (es cBoat n10), .sl .no 4 (es cSky n11), .sl .no 1 (es cInts n12), .sl .no 1 (es cInt n13), .sl .no 2 (es cSp n14)]), (49, .tok 0)] :: s) = some (.exit 0, [(1, .ptr s.length 16 0), (3, .sl (.own s.length 49) 1 (es cBool ((List.range n11.length).foldl (fun (a : List Bool) (k : Nat) => a ++ [decide (calmS (⟨⟨⟨n0, n1⟩, ⟨n2, n3⟩, n4, n5, n6⟩, ⟨⟨n7, n8⟩, n9, n10⟩, n11, n12, n13, n14⟩ : Season) k = 1)]) []))), (4, i64 n11.length), (16, .bool false)], [(16, .cell [i64 n0, i64 n1, i64 n2, i64 n3, .sl .no 2 (es cSp n4), .sl .no 2 (es cAnc n5), .sl .no 5 (es cWal n6), i64 n7, i64 n8, .sl .no 2 (es cSp n9), .sl .no 2 (es cBoat n10), .sl .no 4 (es cSky n11), .sl .no 1 (es cInts n12), .sl .no 1 (es cInt n13), .sl .no 2 (es cSp n14)]), (49, .tok ((List.range n11.length).foldl (fun (a : List Bool) (k : Nat) => a ++ [decide (calmS (⟨⟨⟨n0, n1⟩, ⟨n2, n3⟩, n4, n5, n6⟩, ⟨⟨n7, n8⟩, n9, n10⟩, n11, n12, n13, n14⟩ : Season) k = 1)]) []).length)] :: s) := by
 have key := loop_fold (T := T) (live := [1, 3, 4]) (keep := [16, 49, 640, 912, 976]) (b := d71l0) (List.range n11.length) (fun k (a : List Bool) => a.length = k) (fun (a : List Bool) (k : Nat) => a ++ [decide (calmS (⟨⟨⟨n0, n1⟩, ⟨n2, n3⟩, n4, n5, n6⟩, ⟨⟨n7, n8⟩, n9, n10⟩, n11, n12, n13, n14⟩ : Season) k = 1)]) (fun k (a : List Bool) => [(1, .ptr s.length 16 0), (3, .sl (.own s.length 49) 1 (es cBool a)), (4, i64 k)]) (fun k (a : List Bool) => [(16, .cell [i64 n0, i64 n1, i64 n2, i64 n3, .sl .no 2 (es cSp n4), .sl .no 2 (es cAnc n5), .sl .no 5 (es cWal n6), i64 n7, i64 n8, .sl .no 2 (es cSp n9), .sl .no 2 (es cBoat n10), .sl .no 4 (es cSky n11), .sl .no 1 (es cInts n12), .sl .no 1 (es cInt n13), .sl .no 2 (es cSp n14)]), (49, .tok a.length)] :: s) (fun (a : List Bool) => (.exit 0, [(1, .ptr s.length 16 0), (3, .sl (.own s.length 49) 1 (es cBool a)), (4, i64 n11.length), (16, .bool false)], [(16, .cell [i64 n0, i64 n1, i64 n2, i64 n3, .sl .no 2 (es cSp n4), .sl .no 2 (es cAnc n5), .sl .no 5 (es cWal n6), i64 n7, i64 n8, .sl .no 2 (es cSp n9), .sl .no 2 (es cBoat n10), .sl .no 4 (es cSky n11), .sl .no 1 (es cInts n12), .sl .no 1 (es cInt n13), .sl .no 2 (es cSp n14)]), (49, .tok a.length)] :: s)) (by simp) ?_ ?_ ?_ [] (by simp) [(3, .sl (.own s.length 49) 1 []), (1, .ptr s.length 16 0), (3, .sl .full 1 []), (4, i64 0)] ([(16, .cell [i64 n0, i64 n1, i64 n2, i64 n3, .sl .no 2 (es cSp n4), .sl .no 2 (es cAnc n5), .sl .no 5 (es cWal n6), i64 n7, i64 n8, .sl .no 2 (es cSp n9), .sl .no 2 (es cBoat n10), .sl .no 4 (es cSky n11), .sl .no 1 (es cInts n12), .sl .no 1 (es cInt n13), .sl .no 2 (es cSp n14)]), (49, .tok 0)] :: s) (by simp) (by simp)
 ·exact key
 ·intro k a hk hi
  try simp only [List.length_range] at hk
  try simp only [List.getElem_range]
  have q4 := (seasonOk_iff.1 hok).2.2.2.1
  obtain ⟨g1, g2, g3, g4, g5, g6, g7, g8, g9, g10⟩ := hs
  simp only at g1 g2 g3 q4
  have hS := fun lab s => e_Safe02 n11[k].wind.lo n11[k].wind.hi n11[k].cur.lo n11[k].cur.hi n4 n5 n6 (by omega) (by omega) (by omega) lab s
  simp only [Sp.eta, sky_net hok (k := k) hk, if_true] at hS
  have hcs : calmS (⟨⟨⟨n0, n1⟩, ⟨n2, n3⟩, n4, n5, n6⟩, ⟨⟨n7, n8⟩, n9, n10⟩, n11, n12, n13, n14⟩ : Season) k = safeS ⟨n11[k].wind, n11[k].cur, n4, n5, n6⟩ := by simp [calmS, hk]
  rw [hcs]
  simp (maxSteps := 1000000) (disch := first | omega | assumption | decide +kernel | (simp; done) | (simp; omega) | fail) [run_drawnK, hk, hS, appK_own1, wk k (by omega)]
 ·intro k a hk hi
  try simp only [List.length_range] at hk
  try simp only [List.getElem_range]
  simp [hi]
 ·intro a hi
  simp
theorem e_Mays_l2 (n0 : Int) (n1 : Int) (n2 : Int) (n3 : Int) (n4 : List Sp) (n5 : List Anc) (n6 : List Wal) (n7 : Int) (n8 : Int) (n9 : List Sp) (n10 : List Boat) (n11 : List Sky) (n12 : List (List Int)) (n13 : List Int) (n14 : List Sp) (hs : ShortC (⟨⟨⟨n0, n1⟩, ⟨n2, n3⟩, n4, n5, n6⟩, ⟨⟨n7, n8⟩, n9, n10⟩, n11, n12, n13, n14⟩ : Season)) (hok : seasonOk (⟨⟨⟨n0, n1⟩, ⟨n2, n3⟩, n4, n5, n6⟩, ⟨⟨n7, n8⟩, n9, n10⟩, n11, n12, n13, n14⟩ : Season) = true) (day : Nat) (hd : day < n14.length) (R : List (List Bool)) (s : Stk) :
 Run T b71l2 [(10, .sl (.own s.length 161) 1 []), (1, .ptr s.length 16 0), (3, .sl .no 1 (es cBool (calmsS (⟨⟨⟨n0, n1⟩, ⟨n2, n3⟩, n4, n5, n6⟩, ⟨⟨n7, n8⟩, n9, n10⟩, n11, n12, n13, n14⟩ : Season)))), (7, .sl (.own s.length 113) 1 (es cBools R)), (8, i64 day), (9, .bool (decide (holdS (⟨⟨⟨n0, n1⟩, ⟨n2, n3⟩, n4, n5, n6⟩, ⟨⟨n7, n8⟩, n9, n10⟩, n11, n12, n13, n14⟩ : Season) day = 1))), (10, .sl .full 1 []), (11, i64 0)] ([(16, .cell [i64 n0, i64 n1, i64 n2, i64 n3, .sl .no 2 (es cSp n4), .sl .no 2 (es cAnc n5), .sl .no 5 (es cWal n6), i64 n7, i64 n8, .sl .no 2 (es cSp n9), .sl .no 2 (es cBoat n10), .sl .no 4 (es cSky n11), .sl .no 1 (es cInts n12), .sl .no 1 (es cInt n13), .sl .no 2 (es cSp n14)]), (113, .tok R.length), (161, .tok 0)] :: s) = some (.exit 4, [(1, .ptr s.length 16 0), (3, .sl .no 1 (es cBool (calmsS (⟨⟨⟨n0, n1⟩, ⟨n2, n3⟩, n4, n5, n6⟩, ⟨⟨n7, n8⟩, n9, n10⟩, n11, n12, n13, n14⟩ : Season)))), (7, .sl (.own s.length 113) 1 (es cBools R)), (8, i64 day), (9, .bool (decide (holdS (⟨⟨⟨n0, n1⟩, ⟨n2, n3⟩, n4, n5, n6⟩, ⟨⟨n7, n8⟩, n9, n10⟩, n11, n12, n13, n14⟩ : Season) day = 1))), (10, .sl (.own s.length 161) 1 (es cBool ((List.range n11.length).foldl (fun (a : List Bool) (k : Nat) => a ++ [mayS (⟨⟨⟨n0, n1⟩, ⟨n2, n3⟩, n4, n5, n6⟩, ⟨⟨n7, n8⟩, n9, n10⟩, n11, n12, n13, n14⟩ : Season) day k]) []))), (11, i64 n11.length), (45, .bool false)], [(16, .cell [i64 n0, i64 n1, i64 n2, i64 n3, .sl .no 2 (es cSp n4), .sl .no 2 (es cAnc n5), .sl .no 5 (es cWal n6), i64 n7, i64 n8, .sl .no 2 (es cSp n9), .sl .no 2 (es cBoat n10), .sl .no 4 (es cSky n11), .sl .no 1 (es cInts n12), .sl .no 1 (es cInt n13), .sl .no 2 (es cSp n14)]), (113, .tok R.length), (161, .tok ((List.range n11.length).foldl (fun (a : List Bool) (k : Nat) => a ++ [mayS (⟨⟨⟨n0, n1⟩, ⟨n2, n3⟩, n4, n5, n6⟩, ⟨⟨n7, n8⟩, n9, n10⟩, n11, n12, n13, n14⟩ : Season) day k]) []).length)] :: s) := by
 have key := loop_fold (T := T) (live := [1, 3, 7, 8, 9, 10, 11]) (keep := [16, 113, 161, 352, 368, 480, 640, 976]) (b := d71l2) (List.range n11.length) (fun k (a : List Bool) => a.length = k) (fun (a : List Bool) (k : Nat) => a ++ [mayS (⟨⟨⟨n0, n1⟩, ⟨n2, n3⟩, n4, n5, n6⟩, ⟨⟨n7, n8⟩, n9, n10⟩, n11, n12, n13, n14⟩ : Season) day k]) (fun k (a : List Bool) => [(1, .ptr s.length 16 0), (3, .sl .no 1 (es cBool (calmsS (⟨⟨⟨n0, n1⟩, ⟨n2, n3⟩, n4, n5, n6⟩, ⟨⟨n7, n8⟩, n9, n10⟩, n11, n12, n13, n14⟩ : Season)))), (7, .sl (.own s.length 113) 1 (es cBools R)), (8, i64 day), (9, .bool (decide (holdS (⟨⟨⟨n0, n1⟩, ⟨n2, n3⟩, n4, n5, n6⟩, ⟨⟨n7, n8⟩, n9, n10⟩, n11, n12, n13, n14⟩ : Season) day = 1))), (10, .sl (.own s.length 161) 1 (es cBool a)), (11, i64 k)]) (fun k (a : List Bool) => [(16, .cell [i64 n0, i64 n1, i64 n2, i64 n3, .sl .no 2 (es cSp n4), .sl .no 2 (es cAnc n5), .sl .no 5 (es cWal n6), i64 n7, i64 n8, .sl .no 2 (es cSp n9), .sl .no 2 (es cBoat n10), .sl .no 4 (es cSky n11), .sl .no 1 (es cInts n12), .sl .no 1 (es cInt n13), .sl .no 2 (es cSp n14)]), (113, .tok R.length), (161, .tok a.length)] :: s) (fun (a : List Bool) => (.exit 4, [(1, .ptr s.length 16 0), (3, .sl .no 1 (es cBool (calmsS (⟨⟨⟨n0, n1⟩, ⟨n2, n3⟩, n4, n5, n6⟩, ⟨⟨n7, n8⟩, n9, n10⟩, n11, n12, n13, n14⟩ : Season)))), (7, .sl (.own s.length 113) 1 (es cBools R)), (8, i64 day), (9, .bool (decide (holdS (⟨⟨⟨n0, n1⟩, ⟨n2, n3⟩, n4, n5, n6⟩, ⟨⟨n7, n8⟩, n9, n10⟩, n11, n12, n13, n14⟩ : Season) day = 1))), (10, .sl (.own s.length 161) 1 (es cBool a)), (11, i64 n11.length), (45, .bool false)], [(16, .cell [i64 n0, i64 n1, i64 n2, i64 n3, .sl .no 2 (es cSp n4), .sl .no 2 (es cAnc n5), .sl .no 5 (es cWal n6), i64 n7, i64 n8, .sl .no 2 (es cSp n9), .sl .no 2 (es cBoat n10), .sl .no 4 (es cSky n11), .sl .no 1 (es cInts n12), .sl .no 1 (es cInt n13), .sl .no 2 (es cSp n14)]), (113, .tok R.length), (161, .tok a.length)] :: s)) (by simp) ?_ ?_ ?_ [] (by simp) [(10, .sl (.own s.length 161) 1 []), (1, .ptr s.length 16 0), (3, .sl .no 1 (es cBool (calmsS (⟨⟨⟨n0, n1⟩, ⟨n2, n3⟩, n4, n5, n6⟩, ⟨⟨n7, n8⟩, n9, n10⟩, n11, n12, n13, n14⟩ : Season)))), (7, .sl (.own s.length 113) 1 (es cBools R)), (8, i64 day), (9, .bool (decide (holdS (⟨⟨⟨n0, n1⟩, ⟨n2, n3⟩, n4, n5, n6⟩, ⟨⟨n7, n8⟩, n9, n10⟩, n11, n12, n13, n14⟩ : Season) day = 1))), (10, .sl .full 1 []), (11, i64 0)] ([(16, .cell [i64 n0, i64 n1, i64 n2, i64 n3, .sl .no 2 (es cSp n4), .sl .no 2 (es cAnc n5), .sl .no 5 (es cWal n6), i64 n7, i64 n8, .sl .no 2 (es cSp n9), .sl .no 2 (es cBoat n10), .sl .no 4 (es cSky n11), .sl .no 1 (es cInts n12), .sl .no 1 (es cInt n13), .sl .no 2 (es cSp n14)]), (113, .tok R.length), (161, .tok 0)] :: s) (by simp) (by simp)
 ·exact key
 ·intro k a hk hi
  try simp only [List.length_range] at hk
  try simp only [List.getElem_range]
  have q4 := (seasonOk_iff.1 hok).2.2.2.1
  simp only at q4
  have hcl : k < (calmsS (⟨⟨⟨n0, n1⟩, ⟨n2, n3⟩, n4, n5, n6⟩, ⟨⟨n7, n8⟩, n9, n10⟩, n11, n12, n13, n14⟩ : Season)).length := by simp [calmsS, hk]
  have hcg : (calmsS (⟨⟨⟨n0, n1⟩, ⟨n2, n3⟩, n4, n5, n6⟩, ⟨⟨n7, n8⟩, n9, n10⟩, n11, n12, n13, n14⟩ : Season))[k] = decide (calmS (⟨⟨⟨n0, n1⟩, ⟨n2, n3⟩, n4, n5, n6⟩, ⟨⟨n7, n8⟩, n9, n10⟩, n11, n12, n13, n14⟩ : Season) k = 1) := by simp [calmsS]
  by_cases c0 : holdS (⟨⟨⟨n0, n1⟩, ⟨n2, n3⟩, n4, n5, n6⟩, ⟨⟨n7, n8⟩, n9, n10⟩, n11, n12, n13, n14⟩ : Season) day = 1
  ·have e : mayS (⟨⟨⟨n0, n1⟩, ⟨n2, n3⟩, n4, n5, n6⟩, ⟨⟨n7, n8⟩, n9, n10⟩, n11, n12, n13, n14⟩ : Season) day k = decide (calmS (⟨⟨⟨n0, n1⟩, ⟨n2, n3⟩, n4, n5, n6⟩, ⟨⟨n7, n8⟩, n9, n10⟩, n11, n12, n13, n14⟩ : Season) k = 1) := by simp [mayS, c0]
   rw [e]
   simp (maxSteps := 1000000) (disch := first | omega | assumption | decide +kernel | (simp; done) | (simp; omega) | fail) [run_drawnK, hk, hcl, hcg, c0, appK_own1, wk k (by omega)]
  ·have e : mayS (⟨⟨⟨n0, n1⟩, ⟨n2, n3⟩, n4, n5, n6⟩, ⟨⟨n7, n8⟩, n9, n10⟩, n11, n12, n13, n14⟩ : Season) day k = false := by simp [mayS, c0]
   rw [e]
   simp (maxSteps := 1000000) (disch := first | omega | assumption | decide +kernel | (simp; done) | (simp; omega) | fail) [run_drawnK, hk, c0, appK_own1, wk k (by omega)]
 ·intro k a hk hi
  try simp only [List.length_range] at hk
  try simp only [List.getElem_range]
  simp [hi]
 ·intro a hi
  simp
set_option maxHeartbeats 1000000 in
theorem e_Mays_l1 (n0 : Int) (n1 : Int) (n2 : Int) (n3 : Int) (n4 : List Sp) (n5 : List Anc) (n6 : List Wal) (n7 : Int) (n8 : Int) (n9 : List Sp) (n10 : List Boat) (n11 : List Sky) (n12 : List (List Int)) (n13 : List Int) (n14 : List Sp) (hs : ShortC (⟨⟨⟨n0, n1⟩, ⟨n2, n3⟩, n4, n5, n6⟩, ⟨⟨n7, n8⟩, n9, n10⟩, n11, n12, n13, n14⟩ : Season)) (hok : seasonOk (⟨⟨⟨n0, n1⟩, ⟨n2, n3⟩, n4, n5, n6⟩, ⟨⟨n7, n8⟩, n9, n10⟩, n11, n12, n13, n14⟩ : Season) = true) (s : Stk) :
 Run T b71l1 [(7, .sl (.own s.length 113) 1 []), (1, .ptr s.length 16 0), (3, .sl (.own s.length 49) 1 (es cBool (calmsS (⟨⟨⟨n0, n1⟩, ⟨n2, n3⟩, n4, n5, n6⟩, ⟨⟨n7, n8⟩, n9, n10⟩, n11, n12, n13, n14⟩ : Season)))), (7, .sl .full 1 []), (8, i64 0)] ([(16, .cell [i64 n0, i64 n1, i64 n2, i64 n3, .sl .no 2 (es cSp n4), .sl .no 2 (es cAnc n5), .sl .no 5 (es cWal n6), i64 n7, i64 n8, .sl .no 2 (es cSp n9), .sl .no 2 (es cBoat n10), .sl .no 4 (es cSky n11), .sl .no 1 (es cInts n12), .sl .no 1 (es cInt n13), .sl .no 2 (es cSp n14)]), (49, .tok (calmsS (⟨⟨⟨n0, n1⟩, ⟨n2, n3⟩, n4, n5, n6⟩, ⟨⟨n7, n8⟩, n9, n10⟩, n11, n12, n13, n14⟩ : Season)).length), (113, .tok 0)] :: s) = some (.exit 2, [(1, .ptr s.length 16 0), (3, .sl .no 1 (es cBool (calmsS (⟨⟨⟨n0, n1⟩, ⟨n2, n3⟩, n4, n5, n6⟩, ⟨⟨n7, n8⟩, n9, n10⟩, n11, n12, n13, n14⟩ : Season)))), (7, .sl (.own s.length 113) 1 (es cBools ((List.range n14.length).foldl (fun (a : List (List Bool)) (d : Nat) => a ++ [mayRow (⟨⟨⟨n0, n1⟩, ⟨n2, n3⟩, n4, n5, n6⟩, ⟨⟨n7, n8⟩, n9, n10⟩, n11, n12, n13, n14⟩ : Season) d]) []))), (8, i64 n14.length), (35, .bool false)], [(16, .cell [i64 n0, i64 n1, i64 n2, i64 n3, .sl .no 2 (es cSp n4), .sl .no 2 (es cAnc n5), .sl .no 5 (es cWal n6), i64 n7, i64 n8, .sl .no 2 (es cSp n9), .sl .no 2 (es cBoat n10), .sl .no 4 (es cSky n11), .sl .no 1 (es cInts n12), .sl .no 1 (es cInt n13), .sl .no 2 (es cSp n14)]), (113, .tok ((List.range n14.length).foldl (fun (a : List (List Bool)) (d : Nat) => a ++ [mayRow (⟨⟨⟨n0, n1⟩, ⟨n2, n3⟩, n4, n5, n6⟩, ⟨⟨n7, n8⟩, n9, n10⟩, n11, n12, n13, n14⟩ : Season) d]) []).length)] :: s) := by
 have key := loop_fold (T := T) (live := [1, 3, 7, 8]) (keep := [16, 113, 352, 368, 480]) (b := d71l1) (List.range n14.length) (fun k (a : List (List Bool)) => a.length = k) (fun (a : List (List Bool)) (d : Nat) => a ++ [mayRow (⟨⟨⟨n0, n1⟩, ⟨n2, n3⟩, n4, n5, n6⟩, ⟨⟨n7, n8⟩, n9, n10⟩, n11, n12, n13, n14⟩ : Season) d]) (fun k (a : List (List Bool)) => [(1, .ptr s.length 16 0), (3, .sl .no 1 (es cBool (calmsS (⟨⟨⟨n0, n1⟩, ⟨n2, n3⟩, n4, n5, n6⟩, ⟨⟨n7, n8⟩, n9, n10⟩, n11, n12, n13, n14⟩ : Season)))), (7, .sl (.own s.length 113) 1 (es cBools a)), (8, i64 k)]) (fun k (a : List (List Bool)) => [(16, .cell [i64 n0, i64 n1, i64 n2, i64 n3, .sl .no 2 (es cSp n4), .sl .no 2 (es cAnc n5), .sl .no 5 (es cWal n6), i64 n7, i64 n8, .sl .no 2 (es cSp n9), .sl .no 2 (es cBoat n10), .sl .no 4 (es cSky n11), .sl .no 1 (es cInts n12), .sl .no 1 (es cInt n13), .sl .no 2 (es cSp n14)]), (113, .tok a.length)] :: s) (fun (a : List (List Bool)) => (.exit 2, [(1, .ptr s.length 16 0), (3, .sl .no 1 (es cBool (calmsS (⟨⟨⟨n0, n1⟩, ⟨n2, n3⟩, n4, n5, n6⟩, ⟨⟨n7, n8⟩, n9, n10⟩, n11, n12, n13, n14⟩ : Season)))), (7, .sl (.own s.length 113) 1 (es cBools a)), (8, i64 n14.length), (35, .bool false)], [(16, .cell [i64 n0, i64 n1, i64 n2, i64 n3, .sl .no 2 (es cSp n4), .sl .no 2 (es cAnc n5), .sl .no 5 (es cWal n6), i64 n7, i64 n8, .sl .no 2 (es cSp n9), .sl .no 2 (es cBoat n10), .sl .no 4 (es cSky n11), .sl .no 1 (es cInts n12), .sl .no 1 (es cInt n13), .sl .no 2 (es cSp n14)]), (113, .tok a.length)] :: s)) (by simp) ?_ ?_ ?_ [] (by simp) [(7, .sl (.own s.length 113) 1 []), (1, .ptr s.length 16 0), (3, .sl (.own s.length 49) 1 (es cBool (calmsS (⟨⟨⟨n0, n1⟩, ⟨n2, n3⟩, n4, n5, n6⟩, ⟨⟨n7, n8⟩, n9, n10⟩, n11, n12, n13, n14⟩ : Season)))), (7, .sl .full 1 []), (8, i64 0)] ([(16, .cell [i64 n0, i64 n1, i64 n2, i64 n3, .sl .no 2 (es cSp n4), .sl .no 2 (es cAnc n5), .sl .no 5 (es cWal n6), i64 n7, i64 n8, .sl .no 2 (es cSp n9), .sl .no 2 (es cBoat n10), .sl .no 4 (es cSky n11), .sl .no 1 (es cInts n12), .sl .no 1 (es cInt n13), .sl .no 2 (es cSp n14)]), (49, .tok (calmsS (⟨⟨⟨n0, n1⟩, ⟨n2, n3⟩, n4, n5, n6⟩, ⟨⟨n7, n8⟩, n9, n10⟩, n11, n12, n13, n14⟩ : Season)).length), (113, .tok 0)] :: s) (by simp) (by simp)
 ·exact key
 ·intro k a hk hi
  try simp only [List.length_range] at hk
  try simp only [List.getElem_range]
  have q7 := (seasonOk_iff.1 hok).2.2.2.2.2.2.1
  simp only at q7
  have hh := fun lab s => e_holdsOf n0 n1 n2 n3 n4 n5 n6 n7 n8 n9 n10 n11 n12 n13 n14 hs.places hs.boats k hk lab s
  have key := e_Mays_l2 n0 n1 n2 n3 n4 n5 n6 n7 n8 n9 n10 n11 n12 n13 n14 hs hok k hk a s
  rw [fold_app1, List.nil_append] at key
  have e : (List.range n11.length).map (fun j => mayS (⟨⟨⟨n0, n1⟩, ⟨n2, n3⟩, n4, n5, n6⟩, ⟨⟨n7, n8⟩, n9, n10⟩, n11, n12, n13, n14⟩ : Season) k j) = mayRow (⟨⟨⟨n0, n1⟩, ⟨n2, n3⟩, n4, n5, n6⟩, ⟨⟨n7, n8⟩, n9, n10⟩, n11, n12, n13, n14⟩ : Season) k := rfl
  rw [e] at key
  simp (maxSteps := 1000000) (disch := first | omega | assumption | decide +kernel | (simp; done) | (simp; omega) | fail) [run_drawnK, hk, hh, key, appK_own1, wk k (by omega)]
 ·intro k a hk hi
  try simp only [List.length_range] at hk
  try simp only [List.getElem_range]
  simp [hi]
 ·intro a hi
  simp
set_option maxHeartbeats 1000000 in
theorem e_Mays (n0 : Int) (n1 : Int) (n2 : Int) (n3 : Int) (n4 : List Sp) (n5 : List Anc) (n6 : List Wal) (n7 : Int) (n8 : Int) (n9 : List Sp) (n10 : List Boat) (n11 : List Sky) (n12 : List (List Int)) (n13 : List Int) (n14 : List Sp) (hs : ShortC (⟨⟨⟨n0, n1⟩, ⟨n2, n3⟩, n4, n5, n6⟩, ⟨⟨n7, n8⟩, n9, n10⟩, n11, n12, n13, n14⟩ : Season)) (hok : seasonOk (⟨⟨⟨n0, n1⟩, ⟨n2, n3⟩, n4, n5, n6⟩, ⟨⟨n7, n8⟩, n9, n10⟩, n11, n12, n13, n14⟩ : Season) = true) (lab s) : den T 71 [.agg [i64 n0, i64 n1, i64 n2, i64 n3, .sl .no 2 (es cSp n4), .sl .no 2 (es cAnc n5), .sl .no 5 (es cWal n6), i64 n7, i64 n8, .sl .no 2 (es cSp n9), .sl .no 2 (es cBoat n10), .sl .no 4 (es cSky n11), .sl .no 1 (es cInts n12), .sl .no 1 (es cInt n13), .sl .no 2 (es cSp n14)]] lab s = some (.sl .no 1 (es cBools (maysS (⟨⟨⟨n0, n1⟩, ⟨n2, n3⟩, n4, n5, n6⟩, ⟨⟨n7, n8⟩, n9, n10⟩, n11, n12, n13, n14⟩ : Season))), s) := by
 have l0 := e_Mays_l0 n0 n1 n2 n3 n4 n5 n6 n7 n8 n9 n10 n11 n12 n13 n14 hs hok s
 have l1 := e_Mays_l1 n0 n1 n2 n3 n4 n5 n6 n7 n8 n9 n10 n11 n12 n13 n14 hs hok s
 rw [fold_app1, List.nil_append] at l0 l1
 have e0 : (List.range n11.length).map (fun k => decide (calmS (⟨⟨⟨n0, n1⟩, ⟨n2, n3⟩, n4, n5, n6⟩, ⟨⟨n7, n8⟩, n9, n10⟩, n11, n12, n13, n14⟩ : Season) k = 1)) = calmsS (⟨⟨⟨n0, n1⟩, ⟨n2, n3⟩, n4, n5, n6⟩, ⟨⟨n7, n8⟩, n9, n10⟩, n11, n12, n13, n14⟩ : Season) := rfl
 have e1 : (List.range n14.length).map (fun d => mayRow (⟨⟨⟨n0, n1⟩, ⟨n2, n3⟩, n4, n5, n6⟩, ⟨⟨n7, n8⟩, n9, n10⟩, n11, n12, n13, n14⟩ : Season) d) = maysS (⟨⟨⟨n0, n1⟩, ⟨n2, n3⟩, n4, n5, n6⟩, ⟨⟨n7, n8⟩, n9, n10⟩, n11, n12, n13, n14⟩ : Season) := rfl
 rw [e0] at l0
 rw [e1] at l1
 rw [den_fn t71 _ _ _ rfl]
 simp only [b71]
 simp (maxSteps := 1000000) (disch := first | omega | assumption | decide +kernel | (simp; done) | (simp; omega) | fail) [l0, l1]
end Go.Proofs.YtekgicoibcgecaaGreat

/-
  SkiesMay.
-/
namespace Go.Proofs.YtekgicoibcgecaaGreat
open Go.Ab
end Go.Proofs.YtekgicoibcgecaaGreat

/-
  Chapter 13: worth, lift, brings, courses, Worst of the reference; Brings and Worst of the program.
-/
namespace Go.Proofs.YtekgicoibcgecaaGreat
open Go.Ab
theorem leastL_tail (f : Int → Int) (x : Int) (r : List Int) (h : f x ≤ 2000) : r.foldl (fun a y => min a (f y)) (f x) = leastL f (x :: r) := by
 rw [leastL, List.foldl_cons, show min 2000 (f x) = f x by omega]
theorem e_worst13_l (n0 : Int) (n1 : Int) (n2 : Int) (n3 : Int) (n4 : List Sp) (n5 : List Anc) (n6 : List Wal) (n7 : Int) (n8 : Int) (n9 : List Sp) (n10 : List Boat) (n11 : List Sky) (n12 : List (List Int)) (n13 : List Int) (n14 : List Sp) (day : Nat) (f : Int → Int) (l : List Int) (hl : l.length < 4611686018427387904) (hf : ∀ x, x ∈ l → ∀ lab s, den T 87 [.agg [i64 n0, i64 n1, i64 n2, i64 n3, .sl .no 2 (es cSp n4), .sl .no 2 (es cAnc n5), .sl .no 5 (es cWal n6), i64 n7, i64 n8, .sl .no 2 (es cSp n9), .sl .no 2 (es cBoat n10), .sl .no 4 (es cSky n11), .sl .no 1 (es cInts n12), .sl .no 1 (es cInt n13), .sl .no 2 (es cSp n14)], .sl .no 1 (es cBools (maysS (⟨⟨⟨n0, n1⟩, ⟨n2, n3⟩, n4, n5, n6⟩, ⟨⟨n7, n8⟩, n9, n10⟩, n11, n12, n13, n14⟩ : Season))), i64 day, i64 x] lab s = some (i64 (f x), s)) (x0 : Int) (s : Stk) :
 Run T b117l0 [(1, .sl .no 1 (es cBools (maysS (⟨⟨⟨n0, n1⟩, ⟨n2, n3⟩, n4, n5, n6⟩, ⟨⟨n7, n8⟩, n9, n10⟩, n11, n12, n13, n14⟩ : Season)))), (2, i64 day), (3, .sl .no 1 (es cInt l)), (4, .ptr s.length 64 0), (9, i64 x0), (10, i64 1)] ([(64, .cell [i64 n0, i64 n1, i64 n2, i64 n3, .sl .no 2 (es cSp n4), .sl .no 2 (es cAnc n5), .sl .no 5 (es cWal n6), i64 n7, i64 n8, .sl .no 2 (es cSp n9), .sl .no 2 (es cBoat n10), .sl .no 4 (es cSky n11), .sl .no 1 (es cInts n12), .sl .no 1 (es cInt n13), .sl .no 2 (es cSp n14)])] :: s) = some (.exit 0, [(1, .sl .no 1 (es cBools (maysS (⟨⟨⟨n0, n1⟩, ⟨n2, n3⟩, n4, n5, n6⟩, ⟨⟨n7, n8⟩, n9, n10⟩, n11, n12, n13, n14⟩ : Season)))), (2, i64 day), (3, .sl .no 1 (es cInt l)), (4, .ptr s.length 64 0), (9, i64 ((l.tail).foldl (fun (a : Int) (y : Int) => min a (f y)) x0)), (10, i64 (1 + (l.tail.length : Nat))), (21, .bool false)], [(64, .cell [i64 n0, i64 n1, i64 n2, i64 n3, .sl .no 2 (es cSp n4), .sl .no 2 (es cAnc n5), .sl .no 5 (es cWal n6), i64 n7, i64 n8, .sl .no 2 (es cSp n9), .sl .no 2 (es cBoat n10), .sl .no 4 (es cSky n11), .sl .no 1 (es cInts n12), .sl .no 1 (es cInt n13), .sl .no 2 (es cSp n14)])] :: s) := by
 have key := loop_fold (T := T) (live := [1, 2, 3, 4, 9, 10]) (keep := [64, 272]) (b := d117l0) (l.tail) (fun _ _ => True) (fun (a : Int) (y : Int) => min a (f y)) (fun k (a : Int) => [(1, .sl .no 1 (es cBools (maysS (⟨⟨⟨n0, n1⟩, ⟨n2, n3⟩, n4, n5, n6⟩, ⟨⟨n7, n8⟩, n9, n10⟩, n11, n12, n13, n14⟩ : Season)))), (2, i64 day), (3, .sl .no 1 (es cInt l)), (4, .ptr s.length 64 0), (9, i64 a), (10, i64 (1 + (k : Nat)))]) (fun k (a : Int) => [(64, .cell [i64 n0, i64 n1, i64 n2, i64 n3, .sl .no 2 (es cSp n4), .sl .no 2 (es cAnc n5), .sl .no 5 (es cWal n6), i64 n7, i64 n8, .sl .no 2 (es cSp n9), .sl .no 2 (es cBoat n10), .sl .no 4 (es cSky n11), .sl .no 1 (es cInts n12), .sl .no 1 (es cInt n13), .sl .no 2 (es cSp n14)])] :: s) (fun (a : Int) => (.exit 0, [(1, .sl .no 1 (es cBools (maysS (⟨⟨⟨n0, n1⟩, ⟨n2, n3⟩, n4, n5, n6⟩, ⟨⟨n7, n8⟩, n9, n10⟩, n11, n12, n13, n14⟩ : Season)))), (2, i64 day), (3, .sl .no 1 (es cInt l)), (4, .ptr s.length 64 0), (9, i64 a), (10, i64 (1 + (l.tail.length : Nat))), (21, .bool false)], [(64, .cell [i64 n0, i64 n1, i64 n2, i64 n3, .sl .no 2 (es cSp n4), .sl .no 2 (es cAnc n5), .sl .no 5 (es cWal n6), i64 n7, i64 n8, .sl .no 2 (es cSp n9), .sl .no 2 (es cBoat n10), .sl .no 4 (es cSky n11), .sl .no 1 (es cInts n12), .sl .no 1 (es cInt n13), .sl .no 2 (es cSp n14)])] :: s)) (by simp) ?_ ?_ ?_ x0 (by simp) [(1, .sl .no 1 (es cBools (maysS (⟨⟨⟨n0, n1⟩, ⟨n2, n3⟩, n4, n5, n6⟩, ⟨⟨n7, n8⟩, n9, n10⟩, n11, n12, n13, n14⟩ : Season)))), (2, i64 day), (3, .sl .no 1 (es cInt l)), (4, .ptr s.length 64 0), (9, i64 x0), (10, i64 1)] ([(64, .cell [i64 n0, i64 n1, i64 n2, i64 n3, .sl .no 2 (es cSp n4), .sl .no 2 (es cAnc n5), .sl .no 5 (es cWal n6), i64 n7, i64 n8, .sl .no 2 (es cSp n9), .sl .no 2 (es cBoat n10), .sl .no 4 (es cSky n11), .sl .no 1 (es cInts n12), .sl .no 1 (es cInt n13), .sl .no 2 (es cSp n14)])] :: s) (by simp) (by simp)
 ·exact key
 ·intro k a hk hi
  have hk0 : k + 1 < l.length := by simp at hk; omega
  have hn : (1 + (k : Int)).toNat = k + 1 := by omega
  have h0 : (0 : Int) ≤ 1 + k := by omega
  have hlt : 1 + (k : Int) < l.length := by omega
  have hw : IntKind.i64.wrap (1 + (k : Int) + 1) = 1 + ((k : Int) + 1) := by rw [wi _ (by omega) (by omega)]; omega
  have ht : l.tail[k] = l[k + 1] := by simp
  rw [ht]
  have h1 := hf l[k + 1] (List.getElem_mem hk0)
  simp (maxSteps := 1000000) (disch := first | omega | assumption | decide +kernel | (simp; done) | (simp; omega) | fail) [run_drawnK, hk0, hn, h0, hlt, hw, h1]
 ·intro k a hk hi
  try simp
 ·intro a hi
  have hlt : ¬ 1 + ((l.length - 1 : Nat) : Int) < l.length := by omega
  simp (maxSteps := 1000000) (disch := first | omega | assumption | decide +kernel | (simp; done) | (simp; omega) | fail) [hlt]
theorem e_worst13 (n0 : Int) (n1 : Int) (n2 : Int) (n3 : Int) (n4 : List Sp) (n5 : List Anc) (n6 : List Wal) (n7 : Int) (n8 : Int) (n9 : List Sp) (n10 : List Boat) (n11 : List Sky) (n12 : List (List Int)) (n13 : List Int) (n14 : List Sp) (day : Nat) (f : Int → Int) (l : List Int) (hne : l ≠ []) (hl : l.length < 4611686018427387904) (h2 : ∀ x ∈ l, f x ≤ 2000) (hf : ∀ x, x ∈ l → ∀ lab s, den T 87 [.agg [i64 n0, i64 n1, i64 n2, i64 n3, .sl .no 2 (es cSp n4), .sl .no 2 (es cAnc n5), .sl .no 5 (es cWal n6), i64 n7, i64 n8, .sl .no 2 (es cSp n9), .sl .no 2 (es cBoat n10), .sl .no 4 (es cSky n11), .sl .no 1 (es cInts n12), .sl .no 1 (es cInt n13), .sl .no 2 (es cSp n14)], .sl .no 1 (es cBools (maysS (⟨⟨⟨n0, n1⟩, ⟨n2, n3⟩, n4, n5, n6⟩, ⟨⟨n7, n8⟩, n9, n10⟩, n11, n12, n13, n14⟩ : Season))), i64 day, i64 x] lab s = some (i64 (f x), s)) (lab s) :
 den T 117 [.agg [i64 n0, i64 n1, i64 n2, i64 n3, .sl .no 2 (es cSp n4), .sl .no 2 (es cAnc n5), .sl .no 5 (es cWal n6), i64 n7, i64 n8, .sl .no 2 (es cSp n9), .sl .no 2 (es cBoat n10), .sl .no 4 (es cSky n11), .sl .no 1 (es cInts n12), .sl .no 1 (es cInt n13), .sl .no 2 (es cSp n14)], .sl .no 1 (es cBools (maysS (⟨⟨⟨n0, n1⟩, ⟨n2, n3⟩, n4, n5, n6⟩, ⟨⟨n7, n8⟩, n9, n10⟩, n11, n12, n13, n14⟩ : Season))), i64 day, .sl .no 1 (es cInt l)] lab s = some (i64 (leastL f l), s) := by
 obtain ⟨x, r, rfl⟩ : ∃ x r, l = x :: r := by cases l with
  | nil => exact absurd rfl hne
  | cons x r => exact ⟨x, r, rfl⟩
 have key := e_worst13_l n0 n1 n2 n3 n4 n5 n6 n7 n8 n9 n10 n11 n12 n13 n14 day f (x :: r) hl hf (f x) s
 rw [List.tail_cons, leastL_tail f x r (h2 x (by simp))] at key
 have h1 := hf x (by simp)
 rw [den_fn t117 _ _ _ rfl]
 simp only [b117]
 simp (maxSteps := 1000000) (disch := first | omega | assumption | decide +kernel | (simp; done) | (simp; omega) | fail) [run_drawnK, h1, key]
theorem e_worth13r (n0 : Int) (n1 : Int) (n2 : Int) (n3 : Int) (n4 : List Sp) (n5 : List Anc) (n6 : List Wal) (n7 : Int) (n8 : Int) (n9 : List Sp) (n10 : List Boat) (n11 : List Sky) (n12 : List (List Int)) (n13 : List Int) (n14 : List Sp) (hs : ShortC (⟨⟨⟨n0, n1⟩, ⟨n2, n3⟩, n4, n5, n6⟩, ⟨⟨n7, n8⟩, n9, n10⟩, n11, n12, n13, n14⟩ : Season)) (hok : seasonOk (⟨⟨⟨n0, n1⟩, ⟨n2, n3⟩, n4, n5, n6⟩, ⟨⟨n7, n8⟩, n9, n10⟩, n11, n12, n13, n14⟩ : Season) = true) : ∀ (r day : Nat) (sky : Int), day + r = n14.length → 0 ≤ sky → sky < (n11.length : Int) → ∀ (lab s),
 den T 87 [.agg [i64 n0, i64 n1, i64 n2, i64 n3, .sl .no 2 (es cSp n4), .sl .no 2 (es cAnc n5), .sl .no 5 (es cWal n6), i64 n7, i64 n8, .sl .no 2 (es cSp n9), .sl .no 2 (es cBoat n10), .sl .no 4 (es cSky n11), .sl .no 1 (es cInts n12), .sl .no 1 (es cInt n13), .sl .no 2 (es cSp n14)], .sl .no 1 (es cBools (maysS (⟨⟨⟨n0, n1⟩, ⟨n2, n3⟩, n4, n5, n6⟩, ⟨⟨n7, n8⟩, n9, n10⟩, n11, n12, n13, n14⟩ : Season))), i64 day, i64 sky] lab s = some (i64 (worthS (⟨⟨⟨n0, n1⟩, ⟨n2, n3⟩, n4, n5, n6⟩, ⟨⟨n7, n8⟩, n9, n10⟩, n11, n12, n13, n14⟩ : Season) r sky), s) := by
 obtain ⟨_, _, q3, q4, q5, _, q7, _, _⟩ := seasonOk_iff.1 hok
 simp only at q3 q4 q5 q7
 intro r
 induction r with
 | zero =>
   intro day sky hday h0 h1 lab s
   have hdd : (day : Int) = n14.length := by omega
   rw [den_fn t87 _ _ _ rfl]
   simp only [b87]
   simp (maxSteps := 1000000) (disch := first | omega | assumption | decide +kernel | (simp; done) | (simp; omega) | fail) [hdd, worthS]
 | succ r ih =>
   intro day sky hday h0 h1 lab s
   have hdd : ¬ (day : Int) = n14.length := by omega
   have hk : sky.toNat < n11.length := by omega
   obtain ⟨hk2, hne, hf⟩ := follows_ok hok (k := sky.toNat) hk
   simp only at hk2 hne hf
   have hl := fun lab s => e_worst13 n0 n1 n2 n3 n4 n5 n6 n7 n8 n9 n10 n11 n12 n13 n14 (day + 1) (worthS (⟨⟨⟨n0, n1⟩, ⟨n2, n3⟩, n4, n5, n6⟩, ⟨⟨n7, n8⟩, n9, n10⟩, n11, n12, n13, n14⟩ : Season) r) n12[sky.toNat] hne (by have := hs.short.each _ (List.getElem_mem hk2); simpa using this) (fun x hx => (worthS_range hok r x (by simp only; omega) (hf x hx).1 (hf x hx).2).2) (fun x hx lab s => ih (day + 1) x (by omega) (hf x hx).1 (hf x hx).2 lab s) lab s
   have hc : ((day + 1 : Nat) : Int) = (day : Int) + 1 := rfl
   rw [hc] at hl
   have hdk : day < n14.length := by omega
   obtain ⟨m1, m2, m3⟩ := maysS_get (n := (⟨⟨⟨n0, n1⟩, ⟨n2, n3⟩, n4, n5, n6⟩, ⟨⟨n7, n8⟩, n9, n10⟩, n11, n12, n13, n14⟩ : Season)) hdk hk
   have hrem : n14.length - (r + 1) = day := by omega
   have hlo : dayLo (⟨⟨⟨n0, n1⟩, ⟨n2, n3⟩, n4, n5, n6⟩, ⟨⟨n7, n8⟩, n9, n10⟩, n11, n12, n13, n14⟩ : Season) day = n14[day].lo := by simp [dayLo, hdk]
   have hfo : n12.getD sky.toNat [] = n12[sky.toNat] := by simp [List.getD, hk2]
   have hwv : worthS (⟨⟨⟨n0, n1⟩, ⟨n2, n3⟩, n4, n5, n6⟩, ⟨⟨n7, n8⟩, n9, n10⟩, n11, n12, n13, n14⟩ : Season) (r + 1) sky = if mayS (⟨⟨⟨n0, n1⟩, ⟨n2, n3⟩, n4, n5, n6⟩, ⟨⟨n7, n8⟩, n9, n10⟩, n11, n12, n13, n14⟩ : Season) day sky.toNat = true then max (leastL (worthS (⟨⟨⟨n0, n1⟩, ⟨n2, n3⟩, n4, n5, n6⟩, ⟨⟨n7, n8⟩, n9, n10⟩, n11, n12, n13, n14⟩ : Season) r) n12[sky.toNat]) n14[day].lo else leastL (worthS (⟨⟨⟨n0, n1⟩, ⟨n2, n3⟩, n4, n5, n6⟩, ⟨⟨n7, n8⟩, n9, n10⟩, n11, n12, n13, n14⟩ : Season) r) n12[sky.toNat] := by
    simp only [worthS, hrem, hlo, hfo]
   rw [hwv]
   rw [den_fn t87 _ _ _ rfl]
   simp only [b87]
   cases c0 : mayS (⟨⟨⟨n0, n1⟩, ⟨n2, n3⟩, n4, n5, n6⟩, ⟨⟨n7, n8⟩, n9, n10⟩, n11, n12, n13, n14⟩ : Season) day sky.toNat
   ·rw [c0] at m3
    simp (maxSteps := 1000000) (disch := first | omega | assumption | decide +kernel | (simp; done) | (simp; omega) | fail) [run_drawnK, hdd, hk2, h0, hl, m1, m2, m3, wk day (by omega)]
   ·rw [c0] at m3
    simp (maxSteps := 1000000) (disch := first | omega | assumption | decide +kernel | (simp; done) | (simp; omega) | fail) [run_drawnK, hdd, hk2, h0, hdk, hl, m1, m2, m3, wk day (by omega)]
theorem e_lift13r (n0 : Int) (n1 : Int) (n2 : Int) (n3 : Int) (n4 : List Sp) (n5 : List Anc) (n6 : List Wal) (n7 : Int) (n8 : Int) (n9 : List Sp) (n10 : List Boat) (n11 : List Sky) (n12 : List (List Int)) (n13 : List Int) (n14 : List Sp) (hs : ShortC (⟨⟨⟨n0, n1⟩, ⟨n2, n3⟩, n4, n5, n6⟩, ⟨⟨n7, n8⟩, n9, n10⟩, n11, n12, n13, n14⟩ : Season)) (hok : seasonOk (⟨⟨⟨n0, n1⟩, ⟨n2, n3⟩, n4, n5, n6⟩, ⟨⟨n7, n8⟩, n9, n10⟩, n11, n12, n13, n14⟩ : Season) = true) (day : Nat) (hday : day < n14.length) (sky : Int) (h0 : 0 ≤ sky) (h1 : sky < (n11.length : Int)) (lab s) :
 den T 90 [.agg [i64 n0, i64 n1, i64 n2, i64 n3, .sl .no 2 (es cSp n4), .sl .no 2 (es cAnc n5), .sl .no 5 (es cWal n6), i64 n7, i64 n8, .sl .no 2 (es cSp n9), .sl .no 2 (es cBoat n10), .sl .no 4 (es cSky n11), .sl .no 1 (es cInts n12), .sl .no 1 (es cInt n13), .sl .no 2 (es cSp n14)], .sl .no 1 (es cBools (maysS (⟨⟨⟨n0, n1⟩, ⟨n2, n3⟩, n4, n5, n6⟩, ⟨⟨n7, n8⟩, n9, n10⟩, n11, n12, n13, n14⟩ : Season))), i64 day, i64 sky] lab s = some (.bool (liftS (⟨⟨⟨n0, n1⟩, ⟨n2, n3⟩, n4, n5, n6⟩, ⟨⟨n7, n8⟩, n9, n10⟩, n11, n12, n13, n14⟩ : Season) day sky), s) := by
 have hk : sky.toNat < n11.length := by omega
 obtain ⟨m1, m2, m3⟩ := maysS_get (n := (⟨⟨⟨n0, n1⟩, ⟨n2, n3⟩, n4, n5, n6⟩, ⟨⟨n7, n8⟩, n9, n10⟩, n11, n12, n13, n14⟩ : Season)) hday hk
 have hw := fun lab s => e_worth13r n0 n1 n2 n3 n4 n5 n6 n7 n8 n9 n10 n11 n12 n13 n14 hs hok (n14.length - day) day sky (by omega) h0 h1 lab s
 have hlo : dayLo (⟨⟨⟨n0, n1⟩, ⟨n2, n3⟩, n4, n5, n6⟩, ⟨⟨n7, n8⟩, n9, n10⟩, n11, n12, n13, n14⟩ : Season) day = n14[day].lo := by simp [dayLo, hday]
 rw [den_fn t90 _ _ _ rfl]
 simp only [b90]
 cases c0 : mayS (⟨⟨⟨n0, n1⟩, ⟨n2, n3⟩, n4, n5, n6⟩, ⟨⟨n7, n8⟩, n9, n10⟩, n11, n12, n13, n14⟩ : Season) day sky.toNat
 ·rw [c0] at m3
  simp (maxSteps := 1000000) (disch := first | omega | assumption | decide +kernel | (simp; done) | (simp; omega) | fail) [run_drawnK, h0, m1, m2, m3, c0, liftS]
 ·rw [c0] at m3
  simp (maxSteps := 1000000) (disch := first | omega | assumption | decide +kernel | (simp; done) | (simp; omega) | fail) [run_drawnK, h0, hday, m1, m2, m3, hw, c0, liftS, hlo, ge_iff_le]
theorem rising_len {l : List Int} {lo hi : Int} (h : rising l lo hi = true) (h0 : lo ≤ hi + 1) : (l.length : Int) ≤ hi - lo + 1 := by
 have key : ∀ k : Nat, ∀ hk : k < l.length, lo + (k : Int) ≤ l[k] := by
  intro k
  induction k with
  | zero =>
    intro hk
    have := (rising_mem h l[0] (List.getElem_mem hk)).1
    simpa using this
  | succ k ih =>
    intro hk
    have h1 := ih (by omega)
    have h2 := allB_iff.1 h (k + 1) (List.mem_range.2 hk)
    simp only [risingAt, Bool.and_eq_true, Nat.add_sub_cancel, Bool.or_eq_true, decide_eq_true_eq, List.getD, List.getElem?_eq_getElem hk, List.getElem?_eq_getElem (show k < l.length by omega), Option.getD_some] at h2
    rcases h2.2 with h3 | h3
    ·simp at h3
    ·omega
 by_cases hl : l = []
 ·subst hl; simp; omega
 ·have hp : 0 < l.length := List.length_pos_iff.2 hl
  have h1 := key (l.length - 1) (by omega)
  have h2 := (rising_mem h l[l.length - 1] (List.getElem_mem (by omega))).2
  omega
theorem follows_len {n : Season} (h : seasonOk n = true) {k : Nat} (hk : k < n.skies.length) (hk2 : k < n.follows.length) : n.follows[k].length ≤ 4 := by
 obtain ⟨_, _, _, h4, h5, _, _, h8, _⟩ := seasonOk_iff.1 h
 have h9 := allB_iff.1 h8 k (List.mem_range.2 hk)
 simp only [skyAt, List.getElem?_eq_getElem hk, List.getElem?_eq_getElem hk2, areSkies, Bool.and_eq_true, decide_eq_true_eq] at h9
 have := rising_len h9.2.2 (by omega)
 omega
theorem first_len {n : Season} (h : seasonOk n = true) : n.first.length ≤ 4 := by
 obtain ⟨_, _, _, h4, _, h6, _⟩ := seasonOk_iff.1 h
 simp only [areSkies, Bool.and_eq_true, decide_eq_true_eq] at h6
 have := rising_len h6.2 (by omega)
 omega
end Go.Proofs.YtekgicoibcgecaaGreat

/-
  Chapter 13: Off and Regret of the reference.
-/
namespace Go.Proofs.YtekgicoibcgecaaGreat
open Go.Ab
end Go.Proofs.YtekgicoibcgecaaGreat

/-
  Chapter 13: Best of the reference; Help of both.
-/
namespace Go.Proofs.YtekgicoibcgecaaGreat
open Go.Ab
theorem e_BestOf (n0 : Int) (n1 : Int) (n2 : Int) (n3 : Int) (n4 : List Sp) (n5 : List Anc) (n6 : List Wal) (n7 : Int) (n8 : Int) (n9 : List Sp) (n10 : List Boat) (n11 : List Sky) (n12 : List (List Int)) (n13 : List Int) (n14 : List Sp) (hs : ShortC (⟨⟨⟨n0, n1⟩, ⟨n2, n3⟩, n4, n5, n6⟩, ⟨⟨n7, n8⟩, n9, n10⟩, n11, n12, n13, n14⟩ : Season)) (hok : seasonOk (⟨⟨⟨n0, n1⟩, ⟨n2, n3⟩, n4, n5, n6⟩, ⟨⟨n7, n8⟩, n9, n10⟩, n11, n12, n13, n14⟩ : Season) = true) (lab s) : den T 80 [.agg [i64 n0, i64 n1, i64 n2, i64 n3, .sl .no 2 (es cSp n4), .sl .no 2 (es cAnc n5), .sl .no 5 (es cWal n6), i64 n7, i64 n8, .sl .no 2 (es cSp n9), .sl .no 2 (es cBoat n10), .sl .no 4 (es cSky n11), .sl .no 1 (es cInts n12), .sl .no 1 (es cInt n13), .sl .no 2 (es cSp n14)]] lab s = some (i64 (bestS (⟨⟨⟨n0, n1⟩, ⟨n2, n3⟩, n4, n5, n6⟩, ⟨⟨n7, n8⟩, n9, n10⟩, n11, n12, n13, n14⟩ : Season)), s) := by
 have hM := fun lab s => e_Mays n0 n1 n2 n3 n4 n5 n6 n7 n8 n9 n10 n11 n12 n13 n14 hs hok lab s
 obtain ⟨f1, f2⟩ := first_ok hok
 simp only at f1 f2
 have hw := fun lab s => e_worst13 n0 n1 n2 n3 n4 n5 n6 n7 n8 n9 n10 n11 n12 n13 n14 0 (worthS (⟨⟨⟨n0, n1⟩, ⟨n2, n3⟩, n4, n5, n6⟩, ⟨⟨n7, n8⟩, n9, n10⟩, n11, n12, n13, n14⟩ : Season) n14.length) n13 f1 (by have := hs.first; simp only at this; omega) (fun x hx => (worthS_range hok n14.length x (Nat.le_refl _) (f2 x hx).1 (f2 x hx).2).2)
  (fun x hx lab s => e_worth13r n0 n1 n2 n3 n4 n5 n6 n7 n8 n9 n10 n11 n12 n13 n14 hs hok n14.length 0 x (by omega) (f2 x hx).1 (f2 x hx).2 lab s) lab s
 change ∀ lab s, den T _ [_, _, i64 0, _] lab s = _ at hw
 have hr : bestS (⟨⟨⟨n0, n1⟩, ⟨n2, n3⟩, n4, n5, n6⟩, ⟨⟨n7, n8⟩, n9, n10⟩, n11, n12, n13, n14⟩ : Season) = leastL (worthS (⟨⟨⟨n0, n1⟩, ⟨n2, n3⟩, n4, n5, n6⟩, ⟨⟨n7, n8⟩, n9, n10⟩, n11, n12, n13, n14⟩ : Season) n14.length) n13 := rfl
 rw [hr]
 rw [den_fn t80 _ _ _ rfl]
 simp only [b80]
 simp (maxSteps := 1000000) (disch := first | omega | assumption | decide +kernel | (simp; done) | (simp; omega) | fail) [run_drawnK, hM, hw]
theorem e_Best13 (n0 : Int) (n1 : Int) (n2 : Int) (n3 : Int) (n4 : List Sp) (n5 : List Anc) (n6 : List Wal) (n7 : Int) (n8 : Int) (n9 : List Sp) (n10 : List Boat) (n11 : List Sky) (n12 : List (List Int)) (n13 : List Int) (n14 : List Sp) (hs : ShortC (⟨⟨⟨n0, n1⟩, ⟨n2, n3⟩, n4, n5, n6⟩, ⟨⟨n7, n8⟩, n9, n10⟩, n11, n12, n13, n14⟩ : Season)) (lab s) : den T 36 [.agg [i64 n0, i64 n1, i64 n2, i64 n3, .sl .no 2 (es cSp n4), .sl .no 2 (es cAnc n5), .sl .no 5 (es cWal n6), i64 n7, i64 n8, .sl .no 2 (es cSp n9), .sl .no 2 (es cBoat n10), .sl .no 4 (es cSky n11), .sl .no 1 (es cInts n12), .sl .no 1 (es cInt n13), .sl .no 2 (es cSp n14)]] lab s = some (.tup [i64 (bestR (⟨⟨⟨n0, n1⟩, ⟨n2, n3⟩, n4, n5, n6⟩, ⟨⟨n7, n8⟩, n9, n10⟩, n11, n12, n13, n14⟩ : Season)).1, i64 (bestR (⟨⟨⟨n0, n1⟩, ⟨n2, n3⟩, n4, n5, n6⟩, ⟨⟨n7, n8⟩, n9, n10⟩, n11, n12, n13, n14⟩ : Season)).2], s) := by
 have hs1 : Short (⟨⟨⟨n0, n1⟩, ⟨n2, n3⟩, n4, n5, n6⟩, ⟨⟨n7, n8⟩, n9, n10⟩, n11, n12, n13, n14⟩ : Season) := hs.short
 have hc := fun lab s => e_Check13 n0 n1 n2 n3 n4 n5 n6 n7 n8 n9 n10 n11 n12 n13 n14 hs1.skies hs1.first hs1.days hs1.each lab s
 rw [den_fn t36 _ _ _ rfl]
 simp only [b36]
 cases c0 : seasonOk (⟨⟨⟨n0, n1⟩, ⟨n2, n3⟩, n4, n5, n6⟩, ⟨⟨n7, n8⟩, n9, n10⟩, n11, n12, n13, n14⟩ : Season)
 ·simp (maxSteps := 1000000) (disch := first | omega | assumption | decide +kernel | (simp; done) | (simp; omega) | fail) [hc, c0, bestR]
 have hb := fun lab s => e_BestOf n0 n1 n2 n3 n4 n5 n6 n7 n8 n9 n10 n11 n12 n13 n14 hs c0 lab s
 simp (maxSteps := 1000000) (disch := first | omega | assumption | decide +kernel | (simp; done) | (simp; omega) | fail) [hc, hb, c0, bestR]
@[simp] theorem take_set_lenz {α : Type} (l : List α) (i : Nat) (x : α) : (l.set i x).take l.length = l.set i x := List.take_of_length_le (by simp)
def atI : Option Nat → Int
 | some k => k
 | none => -1
def atZ : Option Nat → Int
 | some k => k
 | none => 0
@[simp] theorem atI_none : atI none = -1 := rfl
@[simp] theorem atI_some (k : Nat) : atI (some k) = k := rfl
@[simp] theorem atZ_none : atZ none = 0 := rfl
@[simp] theorem atZ_some (k : Nat) : atZ (some k) = k := rfl
end Go.Proofs.YtekgicoibcgecaaGreat
