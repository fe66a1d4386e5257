/-
  SkiesPut.
-/
import Derived.Test.YtekgicoibcgecaaEq3
set_option linter.unusedSimpArgs false
set_option linter.unusedVariables false
namespace Go.Proofs.Ytekgicoibcgecaa
open Go.Ab

def inB (l : List Int) (x : Int) : Bool := anyB (fun y => decide (y = x)) l
theorem inB_iff {l : List Int} {x : Int} : inB l x = true ↔ x ∈ l := by
  simp only [inB, anyB, List.any_eq_true, decide_eq_true_eq]
  exact ⟨fun ⟨y, h1, h2⟩ => h2 ▸ h1, fun h => ⟨x, h, rfl⟩⟩
/-- each sky can follow -/
def courseL (n : Season) : List Int → List Int → Bool
  | _, [] => true
  | nx, x :: c => inB nx x && courseL n (n.follows.getD x.toNat []) c
def isCourse (n : Season) (c : List Int) : Bool := decide (c.length = n.days.length) && courseL n n.first c
theorem course_mem (n : Season) : ∀ (c c0 nx : List Int), courseL n nx c = true → c0 ++ c ∈ coursesFrom n c.length c0 nx
  | [], c0, nx, _ => by simp [coursesFrom]
  | x :: c, c0, nx, h => by
    simp only [courseL, Bool.and_eq_true] at h
    simp only [List.length_cons, coursesFrom, List.mem_flatMap]
    refine ⟨x, inB_iff.1 h.1, ?_⟩
    have := course_mem n c (c0 ++ [x]) _ h.2
    simpa using this
theorem mem_course (n : Season) : ∀ (r : Nat) (c c0 nx : List Int), c ∈ coursesFrom n r c0 nx → ∃ c1, c = c0 ++ c1 ∧ c1.length = r ∧ courseL n nx c1 = true
  | 0, c, c0, nx, h => by
    simp only [coursesFrom, List.mem_singleton] at h
    exact ⟨[], by simp [h], rfl, rfl⟩
  | r + 1, c, c0, nx, h => by
    simp only [coursesFrom, List.mem_flatMap] at h
    obtain ⟨x, h1, h2⟩ := h
    obtain ⟨c1, rfl, h3, h4⟩ := mem_course n r c (c0 ++ [x]) _ h2
    exact ⟨x :: c1, by simp, by simp [h3], by simp only [courseL, inB_iff.2 h1, h4, Bool.and_self]⟩

theorem e_IsCourse_l (n0 : Int) (n1 : Int) (n2 : Int) (n3 : Int) (n4 : List Sp) (n5 : List Anc) (n6 : List Wal) (n7 : Int) (n8 : Int) (n9 : List Sp) (n10 : List Boat) (n11 : List Sky) (n12 : List (List Int)) (n13 : List Int) (n14 : List Sp) (hs : Short (⟨⟨⟨n0, n1⟩, ⟨n2, n3⟩, n4, n5, n6⟩, ⟨⟨n7, n8⟩, n9, n10⟩, n11, n12, n13, n14⟩ : Season)) (hok : seasonOk (⟨⟨⟨n0, n1⟩, ⟨n2, n3⟩, n4, n5, n6⟩, ⟨⟨n7, n8⟩, n9, n10⟩, n11, n12, n13, n14⟩ : Season) = true) (c : List Int) (hcl : c.length < 4611686018427387904) (s : Stk) :
    ∃ nx', Run T b26l0 [(1, .sl .no 1 (es cInt c)), (2, .ptr s.length 32 0), (5, .sl .no 1 (es cInt n13)), (6, i64 0)] ([(32, .cell [i64 n0, i64 n1, i64 n2, i64 n3, .sl .no 2 (es cSp n4), .sl .no 2 (es cAnc n5), .sl .no 5 (es cWal n6), i64 n7, i64 n8, .sl .no 2 (es cSp n9), .sl .no 2 (es cBoat n10), .sl .no 4 (es cSky n11), .sl .no 1 (es cInts n12), .sl .no 1 (es cInt n13), .sl .no 2 (es cSp n14)])] :: s) =
      some (if courseL (⟨⟨⟨n0, n1⟩, ⟨n2, n3⟩, n4, n5, n6⟩, ⟨⟨n7, n8⟩, n9, n10⟩, n11, n12, n13, n14⟩ : Season) n13 c = true then (.exit 0, [(1, .sl .no 1 (es cInt c)), (2, .ptr s.length 32 0), (5, .sl .no 1 (es cInt nx')), (6, i64 c.length), (18, .bool false)], [(32, .cell [i64 n0, i64 n1, i64 n2, i64 n3, .sl .no 2 (es cSp n4), .sl .no 2 (es cAnc n5), .sl .no 5 (es cWal n6), i64 n7, i64 n8, .sl .no 2 (es cSp n9), .sl .no 2 (es cBoat n10), .sl .no 4 (es cSky n11), .sl .no 1 (es cInts n12), .sl .no 1 (es cInt n13), .sl .no 2 (es cSp n14)])] :: s) else (.ret, [(4, .bool false)], [(32, .cell [i64 n0, i64 n1, i64 n2, i64 n3, .sl .no 2 (es cSp n4), .sl .no 2 (es cAnc n5), .sl .no 5 (es cWal n6), i64 n7, i64 n8, .sl .no 2 (es cSp n9), .sl .no 2 (es cBoat n10), .sl .no 4 (es cSky n11), .sl .no 1 (es cInts n12), .sl .no 1 (es cInt n13), .sl .no 2 (es cSp n14)])] :: s)) := by
  let P : List Int → Prop := fun nx => nx.length < 4611686018427387904 ∧ ∀ x : Int, x ∈ nx → 0 ≤ x ∧ x < (n11.length : Int)
  have key := loop_list (T := T) (live := [1, 2, 5, 6]) (keep := [32]) (b := ( .seq ( .seq ( .region false [ ⟨(some 15), .mv (.t 6), none, [], []⟩, ⟨(some 16), .mv (.t 1), none, [], []⟩, ⟨(some 17), .len (.t 16), none, [], []⟩, ⟨(some 18), .bin .lss (.t 15) (.t 17), none, [], []⟩] [1, 2, 5, 6, 18]) ( .cond (.t 18) ( .skip) ( .exit 0))) ( .seq ( .block 1 ( .seq ( .seq ( .region false [ ⟨(some 21), .mv (.t 5), none, [], []⟩, ⟨(some 22), .mv (.t 1), none, [], []⟩, ⟨(some 23), .mv (.t 6), none, [], []⟩, ⟨(some 24), .idxs 1 (.t 22) (.t 23), none, [], []⟩, ⟨(some 25), .load none (.t 24), none, [], []⟩, ⟨(some 26), .call 41 [(.t 21), (.t 25)], none, [], []⟩, ⟨(some 27), .un .not (.t 26), none, [], []⟩] [1, 2, 6, 27]) ( .cond (.t 27) ( .seq ( .region false [ ⟨(some 4), .mv (.c (.bool false)), none, [], []⟩] [4]) ( .ret)) ( .skip))) ( .region true (spl [ ⟨(some 28), .faddr 12 (.t 2), none, [], []⟩, ⟨(some 29), .load none (.t 28), none, [0], []⟩, ⟨(some 30), .mv (.t 1), none, [], []⟩, ⟨(some 31), .mv (.t 6), none, [], []⟩, ⟨(some 32), .idxs 1 (.t 30) (.t 31), none, [2, 3], []⟩, ⟨(some 33), .load none (.t 32), none, [4, 2, 3], []⟩] [ ⟨(some 34), .idxs 1 (.t 29) (.t 33), none, [1, 5, 0, 4, 2, 3], []⟩, ⟨(some 35), .load none (.t 34), none, [6, 1, 5, 0, 4, 2, 3], []⟩, ⟨(some 5), .mv (.t 35), none, [7, 6, 1, 5, 0, 4, 2, 3], []⟩]) [1, 2, 5, 6]))) ( .region false [ ⟨(some 19), .mv (.t 6), none, [], []⟩, ⟨(some 20), .bin .add (.t 19) (.c (i64 1)), none, [], []⟩, ⟨(some 6), .mv (.t 20), none, [], []⟩] [1, 2, 5, 6])))) c (fun _ (nx : List Int) => P nx)
    (fun k nx => [(1, .sl .no 1 (es cInt c)), (2, .ptr s.length 32 0), (5, .sl .no 1 (es cInt nx)), (6, i64 k)]) (fun _ _ => [(32, .cell [i64 n0, i64 n1, i64 n2, i64 n3, .sl .no 2 (es cSp n4), .sl .no 2 (es cAnc n5), .sl .no 5 (es cWal n6), i64 n7, i64 n8, .sl .no 2 (es cSp n9), .sl .no 2 (es cBoat n10), .sl .no 4 (es cSky n11), .sl .no 1 (es cInts n12), .sl .no 1 (es cInt n13), .sl .no 2 (es cSp n14)])] :: s)
    (fun nx x => if inB nx x = true then .inl (n12.getD x.toNat []) else .inr (.ret, [(4, .bool false)], [(32, .cell [i64 n0, i64 n1, i64 n2, i64 n3, .sl .no 2 (es cSp n4), .sl .no 2 (es cAnc n5), .sl .no 5 (es cWal n6), i64 n7, i64 n8, .sl .no 2 (es cSp n9), .sl .no 2 (es cBoat n10), .sl .no 4 (es cSky n11), .sl .no 1 (es cInts n12), .sl .no 1 (es cInt n13), .sl .no 2 (es cSp n14)])] :: s))
    (fun nx => (.exit 0, [(1, .sl .no 1 (es cInt c)), (2, .ptr s.length 32 0), (5, .sl .no 1 (es cInt nx)), (6, i64 c.length), (18, .bool false)], [(32, .cell [i64 n0, i64 n1, i64 n2, i64 n3, .sl .no 2 (es cSp n4), .sl .no 2 (es cAnc n5), .sl .no 5 (es cWal n6), i64 n7, i64 n8, .sl .no 2 (es cSp n9), .sl .no 2 (es cBoat n10), .sl .no 4 (es cSky n11), .sl .no 1 (es cInts n12), .sl .no 1 (es cInt n13), .sl .no 2 (es cSp n14)])] :: s))
    ?_ ?_ (fun k j q hk hj h => by split at h <;> simp_all; rw [← h]; simp) ?_ (by simp) n13 ⟨hs.first, (first_ok hok).2⟩
    [(1, .sl .no 1 (es cInt c)), (2, .ptr s.length 32 0), (5, .sl .no 1 (es cInt n13)), (6, i64 0)] ([(32, .cell [i64 n0, i64 n1, i64 n2, i64 n3, .sl .no 2 (es cSp n4), .sl .no 2 (es cAnc n5), .sl .no 5 (es cWal n6), i64 n7, i64 n8, .sl .no 2 (es cSp n9), .sl .no 2 (es cBoat n10), .sl .no 4 (es cSky n11), .sl .no 1 (es cInts n12), .sl .no 1 (es cInt n13), .sl .no 2 (es cSp n14)])] :: s) (by simp) (by simp)
  · have e : ∀ (l : List Int) (nx : List Int), ∃ nx', foldS (fun nx (x : Int) => if inB nx x = true then (.inl (n12.getD x.toNat []) : List Int ⊕ (Ex × Env × Stk)) else .inr (.ret, [(4, .bool false)], [(32, .cell [i64 n0, i64 n1, i64 n2, i64 n3, .sl .no 2 (es cSp n4), .sl .no 2 (es cAnc n5), .sl .no 5 (es cWal n6), i64 n7, i64 n8, .sl .no 2 (es cSp n9), .sl .no 2 (es cBoat n10), .sl .no 4 (es cSky n11), .sl .no 1 (es cInts n12), .sl .no 1 (es cInt n13), .sl .no 2 (es cSp n14)])] :: s))
        (fun nx => (.exit 0, [(1, .sl .no 1 (es cInt c)), (2, .ptr s.length 32 0), (5, .sl .no 1 (es cInt nx)), (6, i64 c.length), (18, .bool false)], [(32, .cell [i64 n0, i64 n1, i64 n2, i64 n3, .sl .no 2 (es cSp n4), .sl .no 2 (es cAnc n5), .sl .no 5 (es cWal n6), i64 n7, i64 n8, .sl .no 2 (es cSp n9), .sl .no 2 (es cBoat n10), .sl .no 4 (es cSky n11), .sl .no 1 (es cInts n12), .sl .no 1 (es cInt n13), .sl .no 2 (es cSp n14)])] :: s)) l nx =
        if courseL (⟨⟨⟨n0, n1⟩, ⟨n2, n3⟩, n4, n5, n6⟩, ⟨⟨n7, n8⟩, n9, n10⟩, n11, n12, n13, n14⟩ : Season) nx l = true then (.exit 0, [(1, .sl .no 1 (es cInt c)), (2, .ptr s.length 32 0), (5, .sl .no 1 (es cInt nx')), (6, i64 c.length), (18, .bool false)], [(32, .cell [i64 n0, i64 n1, i64 n2, i64 n3, .sl .no 2 (es cSp n4), .sl .no 2 (es cAnc n5), .sl .no 5 (es cWal n6), i64 n7, i64 n8, .sl .no 2 (es cSp n9), .sl .no 2 (es cBoat n10), .sl .no 4 (es cSky n11), .sl .no 1 (es cInts n12), .sl .no 1 (es cInt n13), .sl .no 2 (es cSp n14)])] :: s) else (.ret, [(4, .bool false)], [(32, .cell [i64 n0, i64 n1, i64 n2, i64 n3, .sl .no 2 (es cSp n4), .sl .no 2 (es cAnc n5), .sl .no 5 (es cWal n6), i64 n7, i64 n8, .sl .no 2 (es cSp n9), .sl .no 2 (es cBoat n10), .sl .no 4 (es cSky n11), .sl .no 1 (es cInts n12), .sl .no 1 (es cInt n13), .sl .no 2 (es cSp n14)])] :: s) := by
      intro l
      induction l with
      | nil => intro nx; exact ⟨nx, rfl⟩
      | cons x l ih =>
        intro nx
        by_cases h : inB nx x = true
        · obtain ⟨nx', h2⟩ := ih (n12.getD x.toNat [])
          exact ⟨nx', by simp only [foldS, courseL, h, if_true, Bool.true_and]; exact h2⟩
        · have h' : inB nx x = false := by simpa using h
          exact ⟨[], by simp [foldS, courseL, h']⟩
    obtain ⟨nx', h⟩ := e c n13
    rw [h] at key
    exact ⟨nx', key⟩
  · intro k nx hk hP
    obtain ⟨hP1, hP2⟩ := hP
    cases h : inB nx c[k]
    · have h' : anyB (fun y => decide (y = c[k])) nx = false := h
      simp (disch := first | omega | assumption | decide +kernel | (simp; done) | (simp; omega) | fail) [hk, h', wk k (by omega)]
    · have h' : anyB (fun y => decide (y = c[k])) nx = true := h
      obtain ⟨x0, x1⟩ := hP2 _ (inB_iff.1 h)
      obtain ⟨hk2, _, hf⟩ := follows_ok hok (k := c[k].toNat) (by simp only; omega)
      simp only at hk2
      have hfo : n12.getD c[k].toNat [] = n12[c[k].toNat] := by simp [List.getD, hk2]
      simp (maxSteps := 1000000) (disch := first | omega | assumption | decide +kernel | (simp; done) | (simp; omega) | fail) [run_drawnK, hk, h', x0, hk2, hfo, wk k (by omega)]
  · intro k nx nx' hk hP h
    cases h2 : inB nx c[k]
    · simp [h2] at h
    · simp only [h2, if_true, Sum.inl.injEq] at h
      subst h
      obtain ⟨x0, x1⟩ := hP.2 _ (inB_iff.1 h2)
      obtain ⟨hk2, _, hf⟩ := follows_ok hok (k := c[k].toNat) (by simp only; omega)
      simp only at hk2 hf
      have hfo : n12.getD c[k].toNat [] = n12[c[k].toNat] := by simp [List.getD, hk2]
      rw [hfo]
      exact ⟨hs.each _ (List.getElem_mem hk2), hf⟩
  · intro nx hP
    simp
theorem e_IsCourse (n0 : Int) (n1 : Int) (n2 : Int) (n3 : Int) (n4 : List Sp) (n5 : List Anc) (n6 : List Wal) (n7 : Int) (n8 : Int) (n9 : List Sp) (n10 : List Boat) (n11 : List Sky) (n12 : List (List Int)) (n13 : List Int) (n14 : List Sp) (hs : Short (⟨⟨⟨n0, n1⟩, ⟨n2, n3⟩, n4, n5, n6⟩, ⟨⟨n7, n8⟩, n9, n10⟩, n11, n12, n13, n14⟩ : Season)) (hok : seasonOk (⟨⟨⟨n0, n1⟩, ⟨n2, n3⟩, n4, n5, n6⟩, ⟨⟨n7, n8⟩, n9, n10⟩, n11, n12, n13, n14⟩ : Season) = true) (c : List Int) (hcl : c.length < 4611686018427387904) (lab s) :
    den T 26 [.agg [i64 n0, i64 n1, i64 n2, i64 n3, .sl .no 2 (es cSp n4), .sl .no 2 (es cAnc n5), .sl .no 5 (es cWal n6), i64 n7, i64 n8, .sl .no 2 (es cSp n9), .sl .no 2 (es cBoat n10), .sl .no 4 (es cSky n11), .sl .no 1 (es cInts n12), .sl .no 1 (es cInt n13), .sl .no 2 (es cSp n14)], .sl .no 1 (es cInt c)] lab s = some (.bool (isCourse (⟨⟨⟨n0, n1⟩, ⟨n2, n3⟩, n4, n5, n6⟩, ⟨⟨n7, n8⟩, n9, n10⟩, n11, n12, n13, n14⟩ : Season) c), s) := by
  obtain ⟨nx', key⟩ := e_IsCourse_l n0 n1 n2 n3 n4 n5 n6 n7 n8 n9 n10 n11 n12 n13 n14 hs hok c hcl s
  rw [den_fn t26 _ _ _ rfl]
  simp only [b26]
  by_cases c0 : (c.length : Int) = n14.length
  · have c0' : c.length = n14.length := by omega
    cases c1 : courseL (⟨⟨⟨n0, n1⟩, ⟨n2, n3⟩, n4, n5, n6⟩, ⟨⟨n7, n8⟩, n9, n10⟩, n11, n12, n13, n14⟩ : Season) n13 c
    · simp (disch := first | omega | assumption | decide +kernel | (simp; done) | (simp; omega) | fail) [c0, c0', c1, key, isCourse]
    · simp (disch := first | omega | assumption | decide +kernel | (simp; done) | (simp; omega) | fail) [c0, c0', c1, key, isCourse]
  · have c0' : ¬ c.length = n14.length := by omega
    simp (disch := first | omega | assumption | decide +kernel | (simp; done) | (simp; omega) | fail) [c0, c0', isCourse]

/-! Off over all courses -/
theorem offQ_all (n : Season) : ∀ (l : List (List Int)) (a : (Int × Int) × Bool), (foldB (offY n) l a).2 = true →
    (foldB (offY n) l a).1.1.1 ≤ a.1.1 ∧ a.1.2 ≤ (foldB (offY n) l a).1.1.2 ∧ ∀ c ∈ l, ∃ k, firstMay n 0 c = some k ∧ (foldB (offY n) l a).1.1.1 ≤ (k : Int) ∧ (k : Int) ≤ (foldB (offY n) l a).1.1.2
  | [], a, _ => by simp [foldB]
  | c :: l, a, h => by
    cases h1 : firstMay n 0 c with
    | none =>
      have e : offY n a c = ((a.1, true), false) := by simp only [offY, h1]
      simp [foldB, e] at h
    | some k =>
      have e : offY n a c = (((min a.1.1 k, max a.1.2 k), a.2), true) := by simp only [offY, h1]
      simp only [foldB, e, if_true] at h ⊢
      obtain ⟨p1, p2, p3⟩ := offQ_all n l _ h
      simp only at p1 p2
      refine ⟨by omega, by omega, ?_⟩
      intro c' hc'
      rcases List.mem_cons.1 hc' with rfl | hc'
      · exact ⟨k, h1, by omega, by omega⟩
      · exact p3 c' hc'
theorem offQ_bounds (n : Season) (N : Int) : ∀ (l : List (List Int)) (a : (Int × Int) × Bool), (∀ c ∈ l, (c.length : Int) ≤ N) → 0 ≤ a.1.1 → a.1.2 < N → 0 ≤ (foldB (offY n) l a).1.1.1 ∧ (foldB (offY n) l a).1.1.2 < N
  | [], a, _, h1, h2 => ⟨h1, h2⟩
  | c :: l, a, hl, h1, h2 => by
    cases hf : firstMay n 0 c with
    | none =>
      have e : offY n a c = ((a.1, true), false) := by simp only [offY, hf]
      simp [foldB, e, h1, h2]
    | some k =>
      have e : offY n a c = (((min a.1.1 k, max a.1.2 k), a.2), true) := by simp only [offY, hf]
      simp only [foldB, e, if_true]
      have hk := (firstMay_lt n c 0 k hf).2
      have hc := hl c (by simp)
      exact offQ_bounds n N l _ (fun c hc => hl c (by simp [hc])) (by simp only; omega) (by simp only; omega)
/-- some course there is -/
theorem courses_some {n : Season} (hok : seasonOk n = true) : ∀ (r : Nat) (c nx : List Int), nx ≠ [] → (∀ x : Int, x ∈ nx → 0 ≤ x ∧ x < (n.skies.length : Int)) → coursesFrom n r c nx ≠ []
  | 0, c, nx, _, _ => by simp [coursesFrom]
  | r + 1, c, nx, hne, hx => by
    cases nx with
    | nil => exact absurd rfl hne
    | cons x nx =>
      obtain ⟨x0, x1⟩ := hx x (by simp)
      obtain ⟨hk2, hn, hf⟩ := follows_ok hok (k := x.toNat) (by omega)
      have hfo : n.follows.getD x.toNat [] = n.follows[x.toNat] := by simp [List.getD, hk2]
      have := courses_some hok r (c ++ [x]) n.follows[x.toNat] hn hf
      simp only [coursesFrom, List.flatMap_cons, hfo]
      intro h
      exact this (List.append_eq_nil_iff.1 h).1
end Go.Proofs.Ytekgicoibcgecaa

/-
  Copies of seasons; all worths; worse.
-/
namespace Go.Proofs.Ytekgicoibcgecaa
open Go.Ab

/-- no list is too long for a copy -/
structure ShortC (n : Season) : Prop where
  grips : n.net.grips.length < 8796093022208
  anch : n.net.anch.length < 8796093022208
  walls : n.net.walls.length < 3518437208884
  places : n.sea.places.length < 8796093022208
  boats : n.sea.boats.length < 8796093022208
  skies : n.skies.length < 4398046511104
  follows : n.follows.length < 5864062014805
  first : n.first.length < 17592186044416
  days : n.days.length < 8796093022207
  each : ∀ l ∈ n.follows, l.length < 17592186044416

theorem ShortC.short {n : Season} (h : ShortC n) : Short n := by
  obtain ⟨h1, h2, h3, h4, h5, h6, h7, h8, h9, h10⟩ := h
  exact ⟨by omega, by omega, by omega, by omega, by omega, by omega, by omega, fun l hl => by have := h10 l hl; omega⟩

theorem filter_tt {α : Type} (l : List α) : l.filter (fun _ => true) = l := by simp
@[simp] theorem es_ints1 (l : List (List Int)) (x : List Int) : es cInts l ++ [[.sl .no 1 (es cInt x)]] = es cInts (l ++ [x]) := by simp [es]
@[simp] theorem map_cInts (r : Ren) (h : r.c .no = .no) (l) : (es cInts l).map (V.mapAll r) = es cInts l := es_map _ _ (fun _ => by simp [h]) _
@[simp] theorem map_cInts_d (d keep l) : (es cInts l).map (V.mapAll (dropR d keep)) = es cInts l := map_cInts _ rfl l
@[simp] theorem map_cInts_f (d k z e l) : (es cInts l).map (V.mapAll (frzR d k z e)) = es cInts l := map_cInts _ rfl l
@[simp] theorem map_cInts_r (own d loc ls d' lab l) : (es cInts l).map (V.mapAll (renR own d loc ls d' lab)) = es cInts l := map_cInts _ (by cases own <;> rfl) l
@[simp] theorem strip_cInts (l) : (es cInts l).map V.stripAll = es cInts l := es_strip _ (fun _ => by simp) _
@[simp] theorem refs_cInts (own : Bool) (d : Nat) (l) : (es cInts l).flatMap (V.refsAll own d) = [] := es_refs _ _ _ (fun _ => by cases own <;> simp [V.refs, Cap.refs]) _
@[simp] theorem elems_cInts (l) : elemsOk (es cInts l) 1 = true := elemsOk_es _ _ (fun _ => by simp) _
def zeroSeason : List V := [i64 0, i64 0, i64 0, i64 0, .sl .full 2 [], .sl .full 2 [], .sl .full 5 [], i64 0, i64 0, .sl .full 2 [], .sl .full 2 [], .sl .full 4 [], .sl .full 1 [], .sl .full 1 [], .sl .full 2 []]
def copyCell (n : Season) (d : Nat) (a : List (List Int)) : List V := [i64 n.net.wind.lo, i64 n.net.wind.hi, i64 n.net.cur.lo, i64 n.net.cur.hi, .asl d 112 2 n.net.grips.length 0 n.net.grips.length, .asl d 1112 2 n.net.anch.length 0 n.net.anch.length, .asl d 2112 5 n.net.walls.length 0 n.net.walls.length, i64 n.sea.weight.lo, i64 n.sea.weight.hi, .asl d 160 2 n.sea.places.length 0 n.sea.places.length, .asl d 1160 2 n.sea.boats.length 0 n.sea.boats.length,
    .asl d 224 4 n.skies.length 0 n.skies.length, .asl d 62 1 a.length 0 a.length, .asl d 288 1 n.first.length 0 n.first.length, .asl d 352 2 n.days.length 0 n.days.length]
theorem copyCell_12 (n d a) (h : 12 < (copyCell n d a).length) : (copyCell n d a)[12] = .asl d 62 1 a.length 0 a.length := rfl
theorem copyCell_12' (n d a) : (copyCell n d a)[12]? = some (.asl d 62 1 a.length 0 a.length) := rfl
theorem copyCell_len (n d a) : (copyCell n d a).length = 15 := rfl
theorem copyCell_set (n d a b) : (copyCell n d a).set 12 (.asl d 62 1 b.length 0 b.length) = copyCell n d b := rfl
def copyLoc (n : Season) (d : Nat) (a : List (List Int)) : Ab.Loc := [(16, .cell (season0 n)), (32, .cell zeroSeason), (112, .arr 2 (es cSp n.net.grips)), (1112, .arr 2 (es cAnc n.net.anch)), (2112, .arr 5 (es cWal n.net.walls)),
  (160, .arr 2 (es cSp n.sea.places)), (1160, .arr 2 (es cBoat n.sea.boats)), (224, .arr 4 (es cSky n.skies)), (288, .arr 1 (es cInt n.first)), (352, .arr 2 (es cSp n.days)),
  (48, .cell (copyCell n d a)), (62, .arr 1 (es cInts a))]
set_option maxHeartbeats 4000000 in
theorem e_Copy13_l (n0 : Int) (n1 : Int) (n2 : Int) (n3 : Int) (n4 : List Sp) (n5 : List Anc) (n6 : List Wal) (n7 : Int) (n8 : Int) (n9 : List Sp) (n10 : List Boat) (n11 : List Sky) (n12 : List (List Int)) (n13 : List Int) (n14 : List Sp) (hs : ShortC (⟨⟨⟨n0, n1⟩, ⟨n2, n3⟩, n4, n5, n6⟩, ⟨⟨n7, n8⟩, n9, n10⟩, n11, n12, n13, n14⟩ : Season)) (s : Stk) :
    Run T b13l0 [(1, .ptr s.length 16 0), (2, .ptr s.length 32 0), (3, .ptr s.length 48 0), (4, i64 0)] (copyLoc (⟨⟨⟨n0, n1⟩, ⟨n2, n3⟩, n4, n5, n6⟩, ⟨⟨n7, n8⟩, n9, n10⟩, n11, n12, n13, n14⟩ : Season) s.length [] :: s) =
      some (.exit 0, [(1, .ptr s.length 16 0), (2, .ptr s.length 32 0), (3, .ptr s.length 48 0), (4, i64 n12.length), (28, .bool false)], copyLoc (⟨⟨⟨n0, n1⟩, ⟨n2, n3⟩, n4, n5, n6⟩, ⟨⟨n7, n8⟩, n9, n10⟩, n11, n12, n13, n14⟩ : Season) s.length n12 :: s) := by
  obtain ⟨h1, h2, h3, h4, h5, h6, h7, h8, h9, h10⟩ := hs
  simp only at h1 h2 h3 h4 h5 h6 h7 h8 h9 h10
  have key := loop_fold (T := T) (live := [1, 2, 3, 4]) (keep := [16, 32, 48, 62, 112, 160, 224, 288, 352, 1112, 1160, 2112, 2160, 3112, 3160, 4112, 4160, 5112, 5160, 6112, 6160, 7112, 7160, 8112, 8160]) (b := ( .seq ( .seq ( .region false [ ⟨(some 24), .mv (.t 4), none, [], []⟩, ⟨(some 25), .faddr 12 (.t 1), none, [], []⟩, ⟨(some 26), .load none (.t 25), none, [], []⟩, ⟨(some 27), .len (.t 26), none, [], []⟩, ⟨(some 28), .bin .lss (.t 24) (.t 27), none, [], []⟩] [1, 2, 3, 4, 28]) ( .cond (.t 28) ( .skip) ( .exit 0))) ( .seq ( .block 1 ( .region true (spl [ ⟨(some 31), .faddr 12 (.t 3), none, [], []⟩, ⟨(some 32), .load none (.t 31), none, [0], []⟩, ⟨(some 33), .lit [(i64 0)] 0 [], none, [], []⟩, ⟨(some 34), .faddr 12 (.t 1), none, [], []⟩, ⟨(some 35), .load none (.t 34), none, [3], []⟩, ⟨(some 36), .mv (.t 4), none, [], []⟩, ⟨(some 37), .idxs 1 (.t 35) (.t 36), none, [4, 5, 3], []⟩, ⟨(some 38), .load none (.t 37), none, [6, 4, 5, 3], []⟩, ⟨(some 39), .app 1 8 (.t 33) (.t 38), none, [2, 7, 6, 4, 5, 3], []⟩, ⟨(some 40), .lit [(.sl .full 1 [])] 1 [(0, (.t 39))], none, [8, 2, 7, 6, 4, 5, 3], []⟩] [ ⟨(some 41), .app 1 24 (.t 32) (.t 40), none, [1, 9, 0, 8, 2, 7, 6, 4, 5, 3], []⟩, ⟨(some 42), .faddr 12 (.t 3), none, [10, 1, 9, 0, 8, 2, 7, 6, 4, 5, 3], []⟩, ⟨none, .store 1 (.t 42) (.t 41), none, [11, 10, 1, 9, 0, 8, 2, 7, 6, 4, 5, 3], []⟩]) [1, 2, 3, 4])) ( .region false [ ⟨(some 29), .mv (.t 4), none, [], []⟩, ⟨(some 30), .bin .add (.t 29) (.c (i64 1)), none, [], []⟩, ⟨(some 4), .mv (.t 30), none, [], []⟩] [1, 2, 3, 4])))) n12 (fun k (a : List (List Int)) => a.length = k) (fun a x => a ++ [x])
    (fun k _ => [(1, .ptr s.length 16 0), (2, .ptr s.length 32 0), (3, .ptr s.length 48 0), (4, i64 k)]) (fun _ a => copyLoc (⟨⟨⟨n0, n1⟩, ⟨n2, n3⟩, n4, n5, n6⟩, ⟨⟨n7, n8⟩, n9, n10⟩, n11, n12, n13, n14⟩ : Season) s.length a :: s)
    (fun a => (.exit 0, [(1, .ptr s.length 16 0), (2, .ptr s.length 32 0), (3, .ptr s.length 48 0), (4, i64 n12.length), (28, .bool false)], copyLoc (⟨⟨⟨n0, n1⟩, ⟨n2, n3⟩, n4, n5, n6⟩, ⟨⟨n7, n8⟩, n9, n10⟩, n11, n12, n13, n14⟩ : Season) s.length a :: s))
    (by simp) ?_ ?_ ?_ [] (by simp) [(1, .ptr s.length 16 0), (2, .ptr s.length 32 0), (3, .ptr s.length 48 0), (4, i64 0)] (copyLoc (⟨⟨⟨n0, n1⟩, ⟨n2, n3⟩, n4, n5, n6⟩, ⟨⟨n7, n8⟩, n9, n10⟩, n11, n12, n13, n14⟩ : Season) s.length [] :: s) (by simp) (by simp [copyLoc, zeroSeason, season0, copyCell])
  · have e : ∀ (l a : List (List Int)), l.foldl (fun a x => a ++ [x]) a = a ++ l := by
      intro l
      induction l with
      | nil => simp
      | cons x r ih => intro a; simp [ih]
    rw [e, List.nil_append] at key
    exact key
  · intro k a hk hi
    subst hi
    have hx := h10 n12[a.length] (List.getElem_mem hk)
    have hcl : Loc.ren (dropR s.length ((copyLoc (⟨⟨⟨n0, n1⟩, ⟨n2, n3⟩, n4, n5, n6⟩, ⟨⟨n7, n8⟩, n9, n10⟩, n11, n12, n13, n14⟩ : Season) s.length a).map (·.1))) (copyLoc (⟨⟨⟨n0, n1⟩, ⟨n2, n3⟩, n4, n5, n6⟩, ⟨⟨n7, n8⟩, n9, n10⟩, n11, n12, n13, n14⟩ : Season) s.length a) = copyLoc (⟨⟨⟨n0, n1⟩, ⟨n2, n3⟩, n4, n5, n6⟩, ⟨⟨n7, n8⟩, n9, n10⟩, n11, n12, n13, n14⟩ : Season) s.length a := by simp [copyLoc, zeroSeason, season0, copyCell]
    have hcl2 : ∀ m, Loc.ren (dropR s.length (((copyLoc (⟨⟨⟨n0, n1⟩, ⟨n2, n3⟩, n4, n5, n6⟩, ⟨⟨n7, n8⟩, n9, n10⟩, n11, n12, n13, n14⟩ : Season) s.length a).put 624 (.tok m)).map (·.1))) ((copyLoc (⟨⟨⟨n0, n1⟩, ⟨n2, n3⟩, n4, n5, n6⟩, ⟨⟨n7, n8⟩, n9, n10⟩, n11, n12, n13, n14⟩ : Season) s.length a).put 624 (.tok m)) = (copyLoc (⟨⟨⟨n0, n1⟩, ⟨n2, n3⟩, n4, n5, n6⟩, ⟨⟨n7, n8⟩, n9, n10⟩, n11, n12, n13, n14⟩ : Season) s.length a).put 624 (.tok m) := by intro m; simp [copyLoc, zeroSeason, season0, copyCell]
    have m16 : 16 ∈ (copyLoc (⟨⟨⟨n0, n1⟩, ⟨n2, n3⟩, n4, n5, n6⟩, ⟨⟨n7, n8⟩, n9, n10⟩, n11, n12, n13, n14⟩ : Season) s.length a).map (·.1) := by simp [copyLoc]
    have m48 : 48 ∈ (copyLoc (⟨⟨⟨n0, n1⟩, ⟨n2, n3⟩, n4, n5, n6⟩, ⟨⟨n7, n8⟩, n9, n10⟩, n11, n12, n13, n14⟩ : Season) s.length a).map (·.1) := by simp [copyLoc]
    have m62 : 62 ∈ (copyLoc (⟨⟨⟨n0, n1⟩, ⟨n2, n3⟩, n4, n5, n6⟩, ⟨⟨n7, n8⟩, n9, n10⟩, n11, n12, n13, n14⟩ : Season) s.length a).map (·.1) := by simp [copyLoc]
    have g16 : (copyLoc (⟨⟨⟨n0, n1⟩, ⟨n2, n3⟩, n4, n5, n6⟩, ⟨⟨n7, n8⟩, n9, n10⟩, n11, n12, n13, n14⟩ : Season) s.length a).get 16 = some (.cell (season0 (⟨⟨⟨n0, n1⟩, ⟨n2, n3⟩, n4, n5, n6⟩, ⟨⟨n7, n8⟩, n9, n10⟩, n11, n12, n13, n14⟩ : Season))) := rfl
    have g48 : (copyLoc (⟨⟨⟨n0, n1⟩, ⟨n2, n3⟩, n4, n5, n6⟩, ⟨⟨n7, n8⟩, n9, n10⟩, n11, n12, n13, n14⟩ : Season) s.length a).get 48 = some (.cell (copyCell (⟨⟨⟨n0, n1⟩, ⟨n2, n3⟩, n4, n5, n6⟩, ⟨⟨n7, n8⟩, n9, n10⟩, n11, n12, n13, n14⟩ : Season) s.length a)) := rfl
    have n624 : ¬ 624 ∈ (copyLoc (⟨⟨⟨n0, n1⟩, ⟨n2, n3⟩, n4, n5, n6⟩, ⟨⟨n7, n8⟩, n9, n10⟩, n11, n12, n13, n14⟩ : Season) s.length a).map (·.1) := by simp [copyLoc]
    have g62 : (copyLoc (⟨⟨⟨n0, n1⟩, ⟨n2, n3⟩, n4, n5, n6⟩, ⟨⟨n7, n8⟩, n9, n10⟩, n11, n12, n13, n14⟩ : Season) s.length a).get 62 = some (.arr 1 (es cInts a)) := rfl
    have g624 : (copyLoc (⟨⟨⟨n0, n1⟩, ⟨n2, n3⟩, n4, n5, n6⟩, ⟨⟨n7, n8⟩, n9, n10⟩, n11, n12, n13, n14⟩ : Season) s.length a).get 624 = none := rfl
    by_cases h0 : n12[a.length] = []
    · have e0 : es cInts a ++ [[.sl .no 1 []]] = es cInts (a ++ [[]]) := es_ints1 a []
      generalize hF : copyLoc (⟨⟨⟨n0, n1⟩, ⟨n2, n3⟩, n4, n5, n6⟩, ⟨⟨n7, n8⟩, n9, n10⟩, n11, n12, n13, n14⟩ : Season) s.length a = F at *
      simp (maxSteps := 1000000) (disch := first | omega | assumption | decide +kernel | (simp; done) | (simp; omega) | fail) [run_drawnK, hk, h0, e0, appD_full_nil, appA_one, hcl, hcl2, m16, m48, m62, g16, g48, g62, g624, filter_tt, copyCell_12, copyCell_12', copyCell_len, copyCell_set, n624, season0, wk a.length (by omega)]
      subst hF
      simp [copyLoc, zeroSeason, season0, copyCell]
    · have he : es cInt n12[a.length] ≠ [] := by simpa using h0
      generalize hF : copyLoc (⟨⟨⟨n0, n1⟩, ⟨n2, n3⟩, n4, n5, n6⟩, ⟨⟨n7, n8⟩, n9, n10⟩, n11, n12, n13, n14⟩ : Season) s.length a = F at *
      simp (maxSteps := 1000000) (disch := first | omega | assumption | decide +kernel | (simp; done) | (simp; omega) | fail) [run_drawnK, hk, appD_full, appA_one, hcl, hcl2, m16, m48, m62, g16, g48, g62, g624, filter_tt, copyCell_12, copyCell_12', copyCell_len, copyCell_set, n624, season0, wk a.length (by omega)]
      subst hF
      simp [copyLoc, zeroSeason, season0, copyCell]
  · intro k a hk hi
    simp [hi]
  · intro a hi
    simp [copyLoc, season0]

/-- a copied season, as the caller has it -/
def copyCells (n : Season) (d lab : Nat) : List V := [i64 n.net.wind.lo, i64 n.net.wind.hi, i64 n.net.cur.lo, i64 n.net.cur.hi, .asl d lab 2 n.net.grips.length 0 n.net.grips.length, .asl d (lab + 1000) 2 n.net.anch.length 0 n.net.anch.length, .asl d (lab + 2000) 5 n.net.walls.length 0 n.net.walls.length, i64 n.sea.weight.lo, i64 n.sea.weight.hi, .asl d (lab + 3000) 2 n.sea.places.length 0 n.sea.places.length, .asl d (lab + 4000) 2 n.sea.boats.length 0 n.sea.boats.length,
    .asl d (lab + 5000) 4 n.skies.length 0 n.skies.length, .asl d (lab + 6000) 1 n.follows.length 0 n.follows.length, .asl d (lab + 7000) 1 n.first.length 0 n.first.length, .asl d (lab + 8000) 2 n.days.length 0 n.days.length]
set_option maxHeartbeats 4000000 in
theorem e_Copy13 (n0 : Int) (n1 : Int) (n2 : Int) (n3 : Int) (n4 : List Sp) (n5 : List Anc) (n6 : List Wal) (n7 : Int) (n8 : Int) (n9 : List Sp) (n10 : List Boat) (n11 : List Sky) (n12 : List (List Int)) (n13 : List Int) (n14 : List Sp) (hs : ShortC (⟨⟨⟨n0, n1⟩, ⟨n2, n3⟩, n4, n5, n6⟩, ⟨⟨n7, n8⟩, n9, n10⟩, n11, n12, n13, n14⟩ : Season)) (lab) (loc : Ab.Loc) (s : Stk) (k0 : loc.get lab = none) (k1 : loc.get (lab + 1000) = none) (k2 : loc.get (lab + 2000) = none) (k3 : loc.get (lab + 3000) = none) (k4 : loc.get (lab + 4000) = none) (k5 : loc.get (lab + 5000) = none) (k6 : loc.get (lab + 6000) = none) (k7 : loc.get (lab + 7000) = none) (k8 : loc.get (lab + 8000) = none) :
    den T 13 [.agg [i64 n0, i64 n1, i64 n2, i64 n3, .sl .no 2 (es cSp n4), .sl .no 2 (es cAnc n5), .sl .no 5 (es cWal n6), i64 n7, i64 n8, .sl .no 2 (es cSp n9), .sl .no 2 (es cBoat n10), .sl .no 4 (es cSky n11), .sl .no 1 (es cInts n12), .sl .no 1 (es cInt n13), .sl .no 2 (es cSp n14)]] lab (loc :: s) = some (.agg (copyCells (⟨⟨⟨n0, n1⟩, ⟨n2, n3⟩, n4, n5, n6⟩, ⟨⟨n7, n8⟩, n9, n10⟩, n11, n12, n13, n14⟩ : Season) s.length lab), ((((((((loc.put lab (.arr 2 (es cSp n4))).put (lab + 1000) (.arr 2 (es cAnc n5))).put (lab + 2000) (.arr 5 (es cWal n6))).put (lab + 3000) (.arr 2 (es cSp n9))).put (lab + 4000) (.arr 2 (es cBoat n10))).put (lab + 5000) (.arr 4 (es cSky n11))).put (lab + 6000) (.arr 1 (es cInts n12))).put (lab + 7000) (.arr 1 (es cInt n13))).put (lab + 8000) (.arr 2 (es cSp n14)) :: s) := by
  have key := e_Copy13_l n0 n1 n2 n3 n4 n5 n6 n7 n8 n9 n10 n11 n12 n13 n14 hs (loc :: s)
  obtain ⟨h1, h2, h3, h4, h5, h6, h7, h8, h9, h10⟩ := hs
  simp only at h1 h2 h3 h4 h5 h6 h7 h8 h9 h10
  simp only [copyLoc, copyCell, zeroSeason, season0, List.length_cons, es_nil, List.length_nil] at key
  rw [den_fn t13 _ _ _ rfl]
  simp only [b13]
  simp (maxSteps := 6000000) (disch := first | omega | assumption | decide +kernel | (simp; done) | (simp; omega) | fail) [run_drawnK, appmD_es, key, k0, k1, k2, k3, k4, k5, k6, k7, k8, copyCells]
end Go.Proofs.Ytekgicoibcgecaa

/-
  law13: all, worse.
-/
namespace Go.Proofs.Ytekgicoibcgecaa
open Go.Ab

theorem lawBest_ok {n : Season} (hok : seasonOk n = true) : lawBest n = bestS n := by
  have hf := (first_ok hok).2
  have h1 : 0 ≤ bestS n := leastL_ge _ _ 2000 (fun x hx => (worthS_range hok n.days.length x (Nat.le_refl _) (hf x hx).1 (hf x hx).2).1) (by omega)
  have h2 : bestS n ≤ 2000 := leastL_le0 _ _ _
  simp only [lawBest, bestR, hok, if_true]
  rw [if_pos ⟨trivial, h1, h2⟩]

/-- the worths of one day -/
def dayL (n : Season) (day : Nat) : List Int := (List.range n.skies.length).map fun (k : Nat) => worthS n (n.days.length - day) (k : Int)
/-- all worths -/
def allS (n : Season) : List Int := (List.range n.days.length).flatMap (dayL n)
theorem dayL_len (n : Season) (day : Nat) : (dayL n day).length = n.skies.length := by simp [dayL]
theorem flat_len {α β : Type} (f : α → List β) (m : Nat) : ∀ l : List α, (∀ x ∈ l, (f x).length = m) → (l.flatMap f).length = l.length * m
  | [], _ => by simp
  | x :: l, h => by
    rw [List.flatMap_cons, List.length_append, h x (by simp), flat_len f m l (fun y hy => h y (by simp [hy])), List.length_cons]
    have : (l.length + 1) * m = l.length * m + m := by rw [Nat.add_mul, Nat.one_mul]
    omega
theorem flat1 {α β : Type} (f : α → β) : ∀ l : List α, (l.flatMap fun x => [f x]) = l.map f
  | [] => rfl
  | x :: l => by rw [List.flatMap_cons, flat1 f l]; rfl
theorem foldl_app {α β : Type} (f : α → List β) : ∀ (l : List α) (a : List β), l.foldl (fun a x => a ++ f x) a = a ++ l.flatMap f
  | [], a => by simp
  | x :: l, a => by rw [List.foldl_cons, foldl_app f l, List.flatMap_cons, List.append_assoc]

theorem all_l1 (n : Season) (hs : Short n) (hok : seasonOk n = true) (day : Nat) (hd : day < n.days.length) (a : List Int) (ha : a.length < 1000) (s : Stk) :
    Run T b25l1 [(1, .ptr s.length 16 0), (4, .sl (.own s.length 65) 1 (es cInt a)), (5, i64 day), (6, i64 0)] ([(16, .cell (season0 n)), (65, .tok a.length)] :: s) =
      some (.exit 2, [(1, .ptr s.length 16 0), (4, .sl (.own s.length 65) 1 (es cInt (a ++ dayL n day))), (5, i64 day), (6, i64 n.skies.length), (19, .bool false)], [(16, .cell (season0 n)), (65, .tok (a ++ dayL n day).length)] :: s) := by
  obtain ⟨_, _, q3, q4, q5, _, q7, _, _⟩ := seasonOk_iff.1 hok
  have hw := fun (day sky : Int) lab s => e_worth13law n.net.wind.lo n.net.wind.hi n.net.cur.lo n.net.cur.hi n.net.grips n.net.anch n.net.walls n.sea.weight.lo n.sea.weight.hi n.sea.places n.sea.boats n.skies n.follows n.first n.days hs day sky lab s
  have key := loop_fold (T := T) (live := [1, 4, 5, 6]) (keep := [16, 65]) (b := ( .seq ( .seq ( .region false [ ⟨(some 15), .mv (.t 6), none, [], []⟩, ⟨(some 16), .faddr 11 (.t 1), none, [], []⟩, ⟨(some 17), .load none (.t 16), none, [], []⟩, ⟨(some 18), .len (.t 17), none, [], []⟩, ⟨(some 19), .bin .lss (.t 15) (.t 18), none, [], []⟩] [1, 4, 5, 6, 19]) ( .cond (.t 19) ( .skip) ( .exit 2))) ( .seq ( .block 3 ( .seq ( .region false [ ⟨(some 22), .load (some 15) (.t 1), none, [], []⟩, ⟨(some 23), .mv (.t 5), none, [], []⟩, ⟨(some 24), .mv (.t 6), none, [], []⟩, ⟨(some 25), .call 23 [(.t 22), (.t 23), (.t 24)], none, [], []⟩, ⟨(some 7), .mv (.t 25), none, [], []⟩] [1, 4, 5, 6, 7]) ( .seq ( .seq ( .region false [ ⟨(some 26), .mv (.t 7), none, [], []⟩, ⟨(some 27), .bin .lss (.t 26) (.c (i64 0)), none, [], []⟩] [1, 4, 5, 6, 7, 27]) ( .cond (.t 27) ( .seq ( .region false [ ⟨(some 2), .mv (.c (.sl .full 1 [])), none, [], []⟩, ⟨(some 3), .mv (.c (.bool false)), none, [], []⟩] [2, 3]) ( .ret)) ( .skip))) ( .region false [ ⟨(some 28), .mv (.t 4), none, [], []⟩, ⟨(some 29), .mv (.t 7), none, [], []⟩, ⟨(some 30), .lit [(i64 0)] 1 [(0, (.t 29))], none, [], []⟩, ⟨(some 31), .app 1 8 (.t 28) (.t 30), none, [], []⟩, ⟨(some 4), .mv (.t 31), none, [], []⟩] [1, 4, 5, 6])))) ( .region false [ ⟨(some 20), .mv (.t 6), none, [], []⟩, ⟨(some 21), .bin .add (.t 20) (.c (i64 1)), none, [], []⟩, ⟨(some 6), .mv (.t 21), none, [], []⟩] [1, 4, 5, 6])))) (List.range n.skies.length) (fun k (b : List Int) => b.length = a.length + k) (fun b k => b ++ [worthS n (n.days.length - day) (k : Int)])
    (fun k b => [(1, .ptr s.length 16 0), (4, .sl (.own s.length 65) 1 (es cInt b)), (5, i64 day), (6, i64 k)]) (fun _ b => [(16, .cell (season0 n)), (65, .tok b.length)] :: s)
    (fun b => (.exit 2, [(1, .ptr s.length 16 0), (4, .sl (.own s.length 65) 1 (es cInt b)), (5, i64 day), (6, i64 n.skies.length), (19, .bool false)], [(16, .cell (season0 n)), (65, .tok b.length)] :: s))
    (by simp) ?_ ?_ ?_ a (by simp) [(1, .ptr s.length 16 0), (4, .sl (.own s.length 65) 1 (es cInt a)), (5, i64 day), (6, i64 0)] ([(16, .cell (season0 n)), (65, .tok a.length)] :: s) (by simp) (by simp [season0])
  · rw [foldl_app (fun k : Nat => [worthS n (n.days.length - day) (k : Int)])] at key
    have e : (List.range n.skies.length).flatMap (fun k : Nat => [worthS n (n.days.length - day) (k : Int)]) = dayL n day := flat1 _ _
    rw [e] at key
    exact key
  · intro k b hk hi
    simp only [List.length_range] at hk
    simp only [List.getElem_range]
    have hv : lawWorth n day k = worthS n (n.days.length - day) k := lawWorth_ok hok hd (by omega) (by omega)
    have hr := (worthS_range hok (n.days.length - day) k (by omega) (by omega) (by omega)).1
    have hw2 := hw day k
    change ∀ lab s, den T _ _ lab s = some (i64 (lawWorth n day k), s) at hw2
    rw [hv] at hw2
    have hr2 : ¬ worthS n (n.days.length - day) k < 0 := by omega
    simp (maxSteps := 1000000) (disch := first | omega | assumption | decide +kernel | (simp; done) | (simp; omega) | fail) [hk, hw2, hr2, appK_own1, season0, wk k (by omega)]
  · intro k b hk hi
    simp; omega
  · intro b hi
    simp [season0]
theorem all_l0 (n : Season) (hs : Short n) (hok : seasonOk n = true) (s : Stk) :
    Run T b25l0 [(4, .sl (.own s.length 65) 1 []), (1, .ptr s.length 16 0), (4, .sl .full 1 []), (5, i64 0)] ([(16, .cell (season0 n)), (65, .tok 0)] :: s) =
      some (.exit 0, [(1, .ptr s.length 16 0), (4, .sl (.own s.length 65) 1 (es cInt (allS n))), (5, i64 n.days.length), (12, .bool false)], [(16, .cell (season0 n)), (65, .tok (allS n).length)] :: s) := by
  obtain ⟨_, _, q3, q4, q5, _, q7, _, _⟩ := seasonOk_iff.1 hok
  have key := loop_fold (T := T) (live := [1, 4, 5]) (keep := [16, 65]) (b := ( .seq ( .seq ( .region false [ ⟨(some 8), .mv (.t 5), none, [], []⟩, ⟨(some 9), .faddr 14 (.t 1), none, [], []⟩, ⟨(some 10), .load none (.t 9), none, [], []⟩, ⟨(some 11), .len (.t 10), none, [], []⟩, ⟨(some 12), .bin .lss (.t 8) (.t 11), none, [], []⟩] [1, 4, 5, 12]) ( .cond (.t 12) ( .skip) ( .exit 0))) ( .seq ( .block 1 ( .seq ( .region false [ ⟨(some 6), .mv (.c (i64 0)), none, [], []⟩] [1, 4, 5, 6]) ( .block 2 ( b25l1)))) ( .region false [ ⟨(some 13), .mv (.t 5), none, [], []⟩, ⟨(some 14), .bin .add (.t 13) (.c (i64 1)), none, [], []⟩, ⟨(some 5), .mv (.t 14), none, [], []⟩] [1, 4, 5])))) (List.range n.days.length) (fun k (b : List Int) => b.length = k * n.skies.length) (fun b k => b ++ dayL n k)
    (fun k b => [(1, .ptr s.length 16 0), (4, .sl (.own s.length 65) 1 (es cInt b)), (5, i64 k)]) (fun _ b => [(16, .cell (season0 n)), (65, .tok b.length)] :: s)
    (fun b => (.exit 0, [(1, .ptr s.length 16 0), (4, .sl (.own s.length 65) 1 (es cInt b)), (5, i64 n.days.length), (12, .bool false)], [(16, .cell (season0 n)), (65, .tok b.length)] :: s))
    (by simp) ?_ ?_ ?_ [] (by simp) [(4, .sl (.own s.length 65) 1 []), (1, .ptr s.length 16 0), (4, .sl .full 1 []), (5, i64 0)] ([(16, .cell (season0 n)), (65, .tok 0)] :: s) (by simp) (by simp [season0])
  · rw [foldl_app (dayL n), List.nil_append] at key
    exact key
  · intro k b hk hi
    simp only [List.length_range] at hk
    simp only [List.getElem_range]
    have hb : b.length < 1000 := by
      have : k * n.skies.length ≤ 5 * 4 := Nat.mul_le_mul (by omega) q4
      omega
    have h1 := all_l1 n hs hok k hk b hb s
    simp only [season0] at h1
    simp (maxSteps := 1000000) (disch := first | omega | assumption | decide +kernel | (simp; done) | (simp; omega) | fail) [hk, h1, season0, wk k (by omega)]
  · intro k b hk hi
    simp only [List.length_append, List.getElem_range, dayL_len]
    have : (k + 1) * n.skies.length = k * n.skies.length + n.skies.length := by rw [Nat.add_mul, Nat.one_mul]
    omega
  · intro b hi
    simp [season0]
theorem e_all (n : Season) (hs : Short n) (hok : seasonOk n = true) (lab s) : den T 25 [.agg (season0 n)] lab s = some (.tup [.sl .no 1 (es cInt (allS n)), .bool true], s) := by
  have key := all_l0 n hs hok s
  rw [den_fn t25 _ _ _ rfl]
  simp only [b25]
  simp only [season0] at key ⊢
  simp (maxSteps := 1000000) (disch := first | omega | assumption | decide +kernel | (simp; done) | (simp; omega) | fail) [key]

/-- no number of the one is greater than that of the other -/
def leL : List Int → List Int → Prop
  | [], _ => True
  | _ :: _, [] => False
  | x :: k, y :: l => x ≤ y ∧ leL k l
theorem leL_app : ∀ {a b c d : List Int}, a.length = b.length → leL a b → leL c d → leL (a ++ c) (b ++ d)
  | [], [], _, _, _, _, h => h
  | x :: a, y :: b, c, d, hl, h1, h2 => ⟨h1.1, leL_app (by simpa using hl) h1.2 h2⟩
theorem leL_get : ∀ {k l : List Int}, leL k l → k.length ≤ l.length ∧ ∀ (i : Nat) (h1 : i < k.length) (h2 : i < l.length), k[i] ≤ l[i]
  | [], l, _ => ⟨by simp, fun i h => by simp at h⟩
  | x :: k, [], h => by cases h
  | x :: k, y :: l, h => by
    obtain ⟨a, b⟩ := leL_get h.2
    refine ⟨by simp only [List.length_cons]; omega, fun i h1 h2 => ?_⟩
    cases i with
    | zero => exact h.1
    | succ i => exact b i (by simpa using h1) (by simpa using h2)
theorem leL_map (f g : Nat → Int) : ∀ l : List Nat, (∀ x ∈ l, f x ≤ g x) → leL (l.map f) (l.map g)
  | [], _ => trivial
  | x :: l, h => ⟨h x (by simp), leL_map f g l fun y hy => h y (by simp [hy])⟩
theorem leL_flat (f g : Nat → List Int) : ∀ l : List Nat, (∀ x ∈ l, (f x).length = (g x).length ∧ leL (f x) (g x)) → leL (l.flatMap f) (l.flatMap g)
  | [], _ => trivial
  | x :: l, h => leL_app (h x (by simp)).1 (h x (by simp)).2 (leL_flat f g l fun y hy => h y (by simp [hy]))
theorem leL_more : ∀ {a b c : List Int}, leL a b → leL a (b ++ c)
  | [], _, _, _ => trivial
  | _ :: _, [], _, h => by cases h
  | _ :: _, _ :: _, _, h => ⟨h.1, leL_more h.2⟩

/-- what 'worse' asks -/
structure Worse (n o : Season) : Prop where
  skies : n.skies.length = o.skies.length
  days : n.days.length ≤ o.days.length
  le : ∀ day sky : Nat, day < n.days.length → sky < n.skies.length → worthS n (n.days.length - day) sky ≤ worthS o (o.days.length - day) sky
  best : bestS n ≤ bestS o
theorem Worse.all {n o : Season} (h : Worse n o) : leL (allS n) (allS o) := by
  have e : List.range o.days.length = List.range n.days.length ++ (List.range (o.days.length - n.days.length)).map (n.days.length + ·) := by
    have := List.range_add (n := n.days.length) (m := o.days.length - n.days.length)
    rw [show n.days.length + (o.days.length - n.days.length) = o.days.length by have := h.days; omega] at this
    exact this
  rw [allS, allS, e, List.flatMap_append]
  refine leL_more (leL_flat _ _ _ fun day hd => ⟨by rw [dayL_len, dayL_len, h.skies], ?_⟩)
  rw [dayL, dayL, ← h.skies]
  exact leL_map _ _ _ fun sky hk => h.le day sky (List.mem_range.1 hd) (List.mem_range.1 hk)

set_option maxHeartbeats 1000000 in
theorem e_worse (n o : Season) (hs : Short n) (hs2 : Short o) (hok : seasonOk n = true) (hok2 : seasonOk o = true) (h : Worse n o) (lab s) : den T 15 [.agg (season0 n), .agg (season0 o)] lab s = some (.bool true, s) := by
  have h1 := fun lab s => e_all n hs hok lab s
  have h2 := fun lab s => e_all o hs2 hok2 lab s
  have h3 := fun lab s => e_best13law n.net.wind.lo n.net.wind.hi n.net.cur.lo n.net.cur.hi n.net.grips n.net.anch n.net.walls n.sea.weight.lo n.sea.weight.hi n.sea.places n.sea.boats n.skies n.follows n.first n.days hs lab s
  have h4 := fun lab s => e_best13law o.net.wind.lo o.net.wind.hi o.net.cur.lo o.net.cur.hi o.net.grips o.net.anch o.net.walls o.sea.weight.lo o.sea.weight.hi o.sea.places o.sea.boats o.skies o.follows o.first o.days hs2 lab s
  change ∀ lab s, den T _ [.agg (season0 n)] lab s = some (i64 (lawBest n), s) at h3
  change ∀ lab s, den T _ [.agg (season0 o)] lab s = some (i64 (lawBest o), s) at h4
  rw [lawBest_ok hok] at h3
  rw [lawBest_ok hok2] at h4
  have hb : 0 ≤ bestS n := leastL_ge _ _ 2000 (fun x hx => (worthS_range hok n.days.length x (Nat.le_refl _) ((first_ok hok).2 x hx).1 ((first_ok hok).2 x hx).2).1) (by omega)
  have hb1 : ¬ bestS n < 0 := by omega
  have hb2 : ¬ bestS o < bestS n := by have := h.best; omega
  obtain ⟨a1, a2⟩ := leL_get h.all
  have a3 : ¬ ((allS o).length : Int) < (allS n).length := by omega
  have b1 : (allS n).length < 1000 := by
    obtain ⟨_, _, q3, q4, q5, _, q7, _, _⟩ := seasonOk_iff.1 hok
    have := flat_len (dayL n) n.skies.length (List.range n.days.length) (fun x _ => dayL_len n x)
    rw [List.length_range] at this
    rw [allS, this]
    have : n.days.length * n.skies.length ≤ 5 * 4 := Nat.mul_le_mul (by omega) q4
    omega
  generalize allS n = k at *
  generalize allS o = l at *
  have key := loop_fold (T := T) (live := [5, 7, 11]) (keep := [32, 48, 224, 304, 368, 400]) (b := ( .seq ( .seq ( .region false [ ⟨(some 48), .mv (.t 11), none, [], []⟩, ⟨(some 49), .mv (.t 5), none, [], []⟩, ⟨(some 50), .len (.t 49), none, [], []⟩, ⟨(some 51), .bin .lss (.t 48) (.t 50), none, [], []⟩] [5, 7, 11, 51]) ( .cond (.t 51) ( .skip) ( .exit 0))) ( .seq ( .block 1 ( .seq ( .region true (spl [ ⟨(some 54), .mv (.t 5), none, [], []⟩, ⟨(some 55), .mv (.t 11), none, [], []⟩, ⟨(some 56), .idxs 1 (.t 54) (.t 55), none, [0, 1], []⟩, ⟨(some 57), .load none (.t 56), none, [2, 0, 1], []⟩, ⟨(some 58), .mv (.t 7), none, [], []⟩, ⟨(some 59), .mv (.t 11), none, [], []⟩, ⟨(some 60), .idxs 1 (.t 58) (.t 59), none, [4, 5], []⟩, ⟨(some 61), .load none (.t 60), none, [6, 4, 5], []⟩] [ ⟨(some 62), .bin .gtr (.t 57) (.t 61), none, [3, 7, 2, 0, 1, 6, 4, 5], []⟩]) [5, 7, 11, 62]) ( .cond (.t 62) ( .seq ( .region false [ ⟨(some 4), .mv (.c (.bool false)), none, [], []⟩] [4]) ( .ret)) ( .skip)))) ( .region false [ ⟨(some 52), .mv (.t 11), none, [], []⟩, ⟨(some 53), .bin .add (.t 52) (.c (i64 1)), none, [], []⟩, ⟨(some 11), .mv (.t 53), none, [], []⟩] [5, 7, 11])))) (List.range k.length) (fun _ (_ : Unit) => True) (fun _ _ => ())
    (fun i _ => [(5, .sl .no 1 (es cInt k)), (7, .sl .no 1 (es cInt l)), (11, i64 i)]) (fun _ _ => [(32, .cell (season0 n)), (48, .cell (season0 o))] :: s)
    (fun _ => (.exit 0, [(5, .sl .no 1 (es cInt k)), (7, .sl .no 1 (es cInt l)), (11, i64 k.length), (51, .bool false)], [(32, .cell (season0 n)), (48, .cell (season0 o))] :: s))
    (by simp) ?_ (by simp) (by intro a _; simp) () trivial [(5, .sl .no 1 (es cInt k)), (7, .sl .no 1 (es cInt l)), (11, i64 0)] ([(32, .cell (season0 n)), (48, .cell (season0 o))] :: s) (by simp) (by simp [season0])
  · change Run T b15l0 _ _ = _ at key
    rw [den_fn t15 _ _ _ rfl]
    simp only [b15]
    simp only [season0] at key h1 h2 h3 h4 ⊢
    simp (maxSteps := 1000000) (disch := first | omega | assumption | decide +kernel | (simp; done) | (simp; omega) | fail) [run_drawnK, h1, h2, h3, h4, hb1, hb2, a3, key]
  · intro i a hi _
    simp only [List.length_range] at hi
    have hi2 : i < l.length := by omega
    have hc := a2 i hi hi2
    have hc2 : ¬ l[i] < k[i] := by omega
    simp (maxSteps := 1000000) (disch := first | omega | assumption | decide +kernel | (simp; done) | (simp; omega) | fail) [run_drawnK, hi, hi2, hc2, season0, wk i (by omega)]
end Go.Proofs.Ytekgicoibcgecaa

/-
  When no worth is greater; SkiesDay.
-/
namespace Go.Proofs.Ytekgicoibcgecaa
open Go.Ab

theorem held_shortC {m : Season} (h : Held Reach m) : ShortC m := by
  obtain ⟨h1, h2, h3, h4, h5, h6, h7, h8, h9, h10⟩ := h
  simp only [Reach, bytes23, bytes97, bytes99, bytes87, bytes45, bytes34, bytes3, reachBytes] at h1 h2 h3 h4 h5 h6 h7 h8 h9 h10
  exact ⟨by omega, by omega, by omega, by omega, by omega, by omega, by omega, by omega, by omega, fun l hl => by have := h10 l hl; omega⟩
@[simp] theorem frzE_tok (l e loc r n) : frzE l e loc r (some (.tok n)) = (e, loc :: r) := rfl
theorem leastL_le (f : Int → Int) {l : List Int} {x : Int} (hx : x ∈ l) : leastL f l ≤ f x := by
  have : ∀ (l : List Int) (a : Int), x ∈ l → l.foldl (fun a x => min a (f x)) a ≤ f x := by
    intro l
    induction l with
    | nil => intro a h; cases h
    | cons y l ih =>
      intro a h
      simp only [List.foldl_cons]
      rcases List.mem_cons.1 h with rfl | h
      · have := leastL_le0 f l (min a (f x)); omega
      · exact ih _ h
  exact this l 2000 hx
theorem leastL_ge' (g : Int → Int) (b : Int) (hb : b ≤ 2000) {l : List Int} (h : ∀ x ∈ l, b ≤ g x) : b ≤ leastL g l := by
  have : ∀ (l : List Int) (a : Int), b ≤ a → (∀ x ∈ l, b ≤ g x) → b ≤ l.foldl (fun a x => min a (g x)) a := by
    intro l
    induction l with
    | nil => intro a h _; exact h
    | cons y l ih =>
      intro a h h2
      simp only [List.foldl_cons]
      have := h2 y (by simp)
      exact ih _ (by omega) (fun x hx => h2 x (by simp [hx]))
  exact this l 2000 hb h
theorem leastL_mono {f g : Int → Int} {l l' : List Int} (h : ∀ x ∈ l', x ∈ l ∧ f x ≤ g x) : leastL f l ≤ leastL g l' :=
  leastL_ge' g _ (leastL_le0 f l 2000) fun x hx => Int.le_trans (leastL_le f (h x hx).1) (h x hx).2

/-- what makes no worth greater -/
theorem worth_mono {n o : Season} (hn : seasonOk n = true) (ho : seasonOk o = true) (hsk : n.skies.length = o.skies.length) (c : Nat) (hD : n.days.length + c = o.days.length)
    (hfol : ∀ k : Nat, k < n.skies.length → ∀ y : Int, y ∈ o.follows.getD k [] → y ∈ n.follows.getD k [])
    (hmay : ∀ d k : Nat, d < n.days.length → k < n.skies.length → mayS n d k = true → mayS o d k = true ∧ dayLo n d ≤ dayLo o d) :
    ∀ (r : Nat) (sky : Int), r ≤ n.days.length → 0 ≤ sky → sky < (n.skies.length : Int) → worthS n r sky ≤ worthS o (r + c) sky
  | 0, sky, _, h0, h1 => by
    have := (worthS_range ho c sky (by omega) h0 (by omega)).1
    simpa [worthS] using this
  | r + 1, sky, hr, h0, h1 => by
    obtain ⟨hk2, _, hf⟩ := follows_ok ho (k := sky.toNat) (by omega)
    have hfo : o.follows.getD sky.toNat [] = o.follows[sky.toNat] := by simp [List.getD, hk2]
    have hl : leastL (worthS n r) (n.follows.getD sky.toNat []) ≤ leastL (worthS o (r + c)) (o.follows.getD sky.toNat []) :=
      leastL_mono fun x hx => ⟨hfol _ (by omega) x hx, worth_mono hn ho hsk c hD hfol hmay r x (by omega) (hf x (by rw [hfo] at hx; exact hx)).1 (by have := (hf x (by rw [hfo] at hx; exact hx)).2; omega)⟩
    have hd : n.days.length - (r + 1) = o.days.length - (r + 1 + c) := by omega
    have hm := hmay (n.days.length - (r + 1)) sky.toNat (by omega) (by omega)
    rw [show r + 1 + c = (r + c) + 1 by omega, worthS, worthS, show o.days.length - (r + c + 1) = n.days.length - (r + 1) by omega]
    by_cases h : mayS n (n.days.length - (r + 1)) sky.toNat = true
    · obtain ⟨a, b⟩ := hm h
      simp only [h, a, if_true]
      omega
    · simp only [h, Bool.false_eq_true, if_false]
      split <;> omega
theorem Worse.of {n o : Season} (hn : seasonOk n = true) (ho : seasonOk o = true) (hsk : n.skies.length = o.skies.length) (c : Nat) (hD : n.days.length + c = o.days.length)
    (hfol : ∀ k : Nat, k < n.skies.length → ∀ y : Int, y ∈ o.follows.getD k [] → y ∈ n.follows.getD k []) (hfirst : ∀ y : Int, y ∈ o.first → y ∈ n.first)
    (hmay : ∀ d k : Nat, d < n.days.length → k < n.skies.length → mayS n d k = true → mayS o d k = true ∧ dayLo n d ≤ dayLo o d) : Worse n o where
  skies := hsk
  days := by omega
  le := fun day sky hd hk => by
    have := worth_mono hn ho hsk c hD hfol hmay (n.days.length - day) sky (by omega) (by omega) (by omega)
    rwa [show n.days.length - day + c = o.days.length - day by omega] at this
  best := by
    have hf := (first_ok hn).2
    refine leastL_mono fun x hx => ⟨hfirst x hx, ?_⟩
    have := worth_mono hn ho hsk c hD hfol hmay n.days.length x (Nat.le_refl _) (hf x (hfirst x hx)).1 (hf x (hfirst x hx)).2
    rwa [hD] at this

theorem es_sp1 (l : List Sp) (x y : Int) : es cSp l ++ [[i64 x, i64 y]] = es cSp (l ++ [⟨x, y⟩]) := by simp [es]

theorem worse_day {n : Season} {w : Sp} (hn : seasonOk n = true) (ho : seasonOk { n with days := n.days ++ [w] } = true) : Worse n { n with days := n.days ++ [w] } := by
  refine Worse.of hn ho rfl 1 (by simp) (fun _ _ _ h => h) (fun _ h => h) fun d k hd hk h => ?_
  have e1 : (n.days ++ [w])[d]? = n.days[d]? := List.getElem?_append_left hd
  have e2 : holdS { n with days := n.days ++ [w] } d = holdS n d := by simp only [holdS, e1]
  refine ⟨?_, ?_⟩
  · simp only [mayS] at h ⊢
    rw [e2]
    exact h
  · simp only [dayLo, List.getD, e1]
    exact Int.le_refl _

set_option maxHeartbeats 4000000 in
theorem e_SkiesDay (n0 : Int) (n1 : Int) (n2 : Int) (n3 : Int) (n4 : List Sp) (n5 : List Anc) (n6 : List Wal) (n7 : Int) (n8 : Int) (n9 : List Sp) (n10 : List Boat) (n11 : List Sky) (n12 : List (List Int)) (n13 : List Int) (n14 : List Sp) (hs : ShortC (⟨⟨⟨n0, n1⟩, ⟨n2, n3⟩, n4, n5, n6⟩, ⟨⟨n7, n8⟩, n9, n10⟩, n11, n12, n13, n14⟩ : Season)) (w0 : Int) (w1 : Int) (lab s) : den T 5 [.agg [i64 n0, i64 n1, i64 n2, i64 n3, .sl .no 2 (es cSp n4), .sl .no 2 (es cAnc n5), .sl .no 5 (es cWal n6), i64 n7, i64 n8, .sl .no 2 (es cSp n9), .sl .no 2 (es cBoat n10), .sl .no 4 (es cSky n11), .sl .no 1 (es cInts n12), .sl .no 1 (es cInt n13), .sl .no 2 (es cSp n14)], .agg [i64 w0, i64 w1]] lab s = some (.bool true, s) := by
  have hs1 : Short (⟨⟨⟨n0, n1⟩, ⟨n2, n3⟩, n4, n5, n6⟩, ⟨⟨n7, n8⟩, n9, n10⟩, n11, n12, n13, n14⟩ : Season) := hs.short
  have hs2 : Short ⟨⟨⟨n0, n1⟩, ⟨n2, n3⟩, n4, n5, n6⟩, ⟨⟨n7, n8⟩, n9, n10⟩, n11, n12, n13, n14 ++ [⟨w0, w1⟩]⟩ := by
    obtain ⟨a1, a2, a3, a4, a5, a6, a7, a8⟩ := hs1
    have := hs.days
    exact ⟨a1, a2, a3, a4, a5, a6, by simp only [List.length_append, List.length_singleton] at *; omega, a8⟩
  have hd9 := hs.days
  simp only at hd9
  have hr := fun lab s => e_ready n0 n1 n2 n3 n4 n5 n6 n7 n8 n9 n10 n11 n12 n13 n14 hs1.skies hs1.follows hs1.first hs1.days hs1.each lab s
  have hr2 := fun lab s => e_ready n0 n1 n2 n3 n4 n5 n6 n7 n8 n9 n10 n11 n12 n13 (n14 ++ [⟨w0, w1⟩]) hs2.skies hs2.follows hs2.first hs2.days hs2.each lab s
  have hx := e_works
  have hc := fun lab loc s => e_Copy13 n0 n1 n2 n3 n4 n5 n6 n7 n8 n9 n10 n11 n12 n13 n14 hs lab loc s
  rw [den_fn t5 _ _ _ rfl]
  simp only [b5]
  cases c0 : ready (⟨⟨⟨n0, n1⟩, ⟨n2, n3⟩, n4, n5, n6⟩, ⟨⟨n7, n8⟩, n9, n10⟩, n11, n12, n13, n14⟩ : Season)
  · simp (maxSteps := 6000000) (disch := first | omega | assumption | decide +kernel | (simp; done) | (simp; omega) | fail) [run_drawnK, hc, copyCells, hr, hr2, c0, hx, appK_own1, es_sp1]
  cases c1 : ready ⟨⟨⟨n0, n1⟩, ⟨n2, n3⟩, n4, n5, n6⟩, ⟨⟨n7, n8⟩, n9, n10⟩, n11, n12, n13, n14 ++ [⟨w0, w1⟩]⟩
  · simp (maxSteps := 6000000) (disch := first | omega | assumption | decide +kernel | (simp; done) | (simp; omega) | fail) [run_drawnK, hc, copyCells, hr, hr2, c0, c1, hx, appK_own1, es_sp1]
  have hok : seasonOk (⟨⟨⟨n0, n1⟩, ⟨n2, n3⟩, n4, n5, n6⟩, ⟨⟨n7, n8⟩, n9, n10⟩, n11, n12, n13, n14⟩ : Season) = true := by simp only [ready, Bool.and_eq_true] at c0; exact c0.2
  have hok2 : seasonOk ⟨⟨⟨n0, n1⟩, ⟨n2, n3⟩, n4, n5, n6⟩, ⟨⟨n7, n8⟩, n9, n10⟩, n11, n12, n13, n14 ++ [⟨w0, w1⟩]⟩ = true := by simp only [ready, Bool.and_eq_true] at c1; exact c1.2
  have hw := fun lab s => e_worse _ _ hs1 hs2 hok hok2 (worse_day (n := (⟨⟨⟨n0, n1⟩, ⟨n2, n3⟩, n4, n5, n6⟩, ⟨⟨n7, n8⟩, n9, n10⟩, n11, n12, n13, n14⟩ : Season)) hok hok2) lab s
  simp only [season0] at hw
  simp (maxSteps := 6000000) (disch := first | omega | assumption | decide +kernel | (simp; done) | (simp; omega) | fail) [run_drawnK, hc, copyCells, hr, hr2, c0, c1, hx, hw, appK_own1, es_sp1]
end Go.Proofs.Ytekgicoibcgecaa

/-
  What makes a crew hold, and a net safe, still.
-/
namespace Go.Proofs.Ytekgicoibcgecaa
open Go.Ab

@[simp] theorem take_set_len {α : Type} (l : List α) (i : Nat) (x : α) : (l.set i x).take l.length = l.set i x := List.take_of_length_le (by simp)
@[simp] theorem take_map_len {α β : Type} (f : α → β) (l : List α) : (l.map f).take l.length = l.map f := List.take_of_length_le (by simp)
theorem boatAt_ok {n : Sea} (hok : seaOk n = true) (b : Int) : 0 ≤ (boatAt n b).pence := by
  unfold boatAt
  by_cases h : b.toNat < n.boats.length
  · have := (seaOk_iff.1 hok).2.2.2.2.1 _ (List.getElem_mem h)
    simp only [boatOk, Bool.and_eq_true, within_iff] at this
    simp only [List.getD, List.getElem?_eq_getElem h, Option.getD_some]; exact this.2.1
  · simp only [List.getD, List.getElem?_eq_none (Nat.le_of_not_lt h), Option.getD_none]
    decide
theorem cost_ge {n : Sea} (hok : seaOk n = true) (c : List Int) : 0 ≤ costS n c := by
  have : ∀ (c : List Int) (a : Int), 0 ≤ a → 0 ≤ c.foldl (fun a b => a + (boatAt n b).pence) a := by
    intro c
    induction c with
    | nil => intro a h; exact h
    | cons x c ih => intro a h; rw [List.foldl_cons]; have := boatAt_ok hok x; exact ih _ (by omega)
  exact this c 0 (by omega)
theorem cheap_none {n : Sea} (hok : seaOk n = true) : ∀ (l : List (List Int)) (a : Option (List Int) × Int), ((l.foldl (cheapY n) a).2 < 0 ↔ a.2 < 0 ∧ ∀ c ∈ l, holdsS n c = false)
  | [], a => by simp
  | c :: l, a => by
    have h0 := cost_ge hok c
    rw [List.foldl_cons, cheap_none hok l]
    cases h : holdsS n c
    · simp [cheapY, h]
    · by_cases h1 : a.2 < 0 ∨ costS n c < a.2
      · simp [cheapY, h, h1]; intro h; omega
      · have : ¬ a.2 < 0 := fun h => h1 (.inl h)
        simp [cheapY, h, h1]
        exact fun hh => absurd hh this
theorem cheap_iff {n : Sea} (hok : seaOk n = true) : (cheapR n).2 = 0 ↔ ∃ c ∈ crewsFrom n.boats.length n.places.length [], holdsS n c = true := by
  have h := cheap_none hok (crewsFrom n.boats.length n.places.length []) (none, -1)
  change ((cheapS n).2 < 0 ↔ _) at h
  simp only [cheapR, hok, if_true]
  by_cases h1 : (cheapS n).2 < 0
  · simp only [h1, if_true]
    have h2 := (h.1 h1).2
    constructor
    · intro h; omega
    · rintro ⟨c, hc, hh⟩; rw [h2 c hc] at hh; cases hh
  · simp only [h1, if_false, true_iff]
    apply Classical.byContradiction
    intro hn
    refine h1 (h.2 ⟨by decide, fun c hc => ?_⟩)
    cases hh : holdsS n c
    · rfl
    · exact absurd ⟨c, hc, hh⟩ hn
theorem cheap_mono {n m : Sea} (hn : seaOk n = true) (hm : seaOk m = true) (hp : m.places = n.places) (hb : m.boats.length = n.boats.length) (hc : ∀ b : Int, (boatAt n b).carry ≤ (boatAt m b).carry) (hw : m.weight.hi ≤ n.weight.hi) (h : (cheapR n).2 = 0) : (cheapR m).2 = 0 := by
  obtain ⟨c, h1, h2⟩ := (cheap_iff hn).1 h
  refine (cheap_iff hm).2 ⟨c, by rw [hb, hp]; exact h1, ?_⟩
  simp only [holdsS, allB_iff] at h2 ⊢
  intro i hi
  have h3 := h2 i hi
  simp only [holdsAt, decide_eq_true_eq] at h3 ⊢
  have hpart : partS m i = partS n i := by simp only [partS, hp]
  have hneed : needS m i ≤ needS n i := by
    simp only [needS, hpart]
    have h0 := (part_bound hn i).2.2.1
    have := Int.mul_le_mul_of_nonneg_right hw h0
    omega
  have := hc (c.getD i 0)
  omega

theorem sea_day {n : Season} (hok : seasonOk n = true) {d : Nat} (hd : d < n.days.length) : seaOk { n.sea with weight := n.days[d] } = true := by
  obtain ⟨_, h2, _, _, _, _, _, _, h9⟩ := seasonOk_iff.1 hok
  have := allB_iff.1 h9 _ (List.getElem_mem hd)
  simp only [seaOk, Bool.and_eq_true] at h2 ⊢
  simp only [this, h2, and_self]
theorem net_sky {n : Season} (hok : seasonOk n = true) {k : Nat} (hk : k < n.skies.length) : netOk { n.net with wind := n.skies[k].wind, cur := n.skies[k].cur } = true := by
  obtain ⟨h1, _, _, _, h5, _, _, h8, _⟩ := seasonOk_iff.1 hok
  have h9 := allB_iff.1 h8 k (List.mem_range.2 hk)
  have hk2 : k < n.follows.length := by omega
  simp only [skyAt, List.getElem?_eq_getElem hk, List.getElem?_eq_getElem hk2, Bool.and_eq_true] at h9
  obtain ⟨a1, a2, a3, a4, a5, a6, a7, a8⟩ := netOk_iff.1 h1
  exact netOk_iff.2 ⟨h9.1.1, h9.1.2, a3, a4, a5, a6, a7, a8⟩
theorem holdS_mono {n o : Season} (hn : seasonOk n = true) (ho : seasonOk o = true) {d : Nat} (hd : d < n.days.length) (hd2 : d < o.days.length) (hp : o.sea.places = n.sea.places) (hb : o.sea.boats.length = n.sea.boats.length)
    (hc : ∀ b : Int, (boatAt n.sea b).carry ≤ (boatAt o.sea b).carry) (hw : o.days[d].hi ≤ n.days[d].hi) (h : holdS n d = 1) : holdS o d = 1 := by
  simp only [holdS, List.getElem?_eq_getElem hd, List.getElem?_eq_getElem hd2] at h ⊢
  have h1 : (cheapR { n.sea with weight := n.days[d] }).2 = 0 := by
    apply Classical.byContradiction; intro hne; rw [if_neg hne] at h; cases h
  rw [if_pos (cheap_mono (sea_day hn hd) (sea_day ho hd2) hp hb hc hw h1)]

/-! nets -/
theorem load_mono {x : Wal} (hx : walOk x = true) {w c w' c' : Int} (hw : w' ≤ w) (hc : c' ≤ c) : loadW x w' c' ≤ loadW x w c := by
  obtain ⟨h1, h2, _⟩ := walOk_iff.1 hx
  have a := Int.mul_le_mul_of_nonneg_left hw h1.1
  have b := Int.mul_le_mul_of_nonneg_left hc h2.1
  unfold loadW; omega
theorem side_mono {l : List Wal} (hl : ∀ x ∈ l, walOk x = true) {w c w' c' : Int} (hw : w' ≤ w) (hc : c' ≤ c) (a : Int) : sideS l w' c' a ≤ sideS l w c a := by
  unfold sideS
  split
  · cases h : l[a.toNat]? with
    | none => simp
    | some x => exact load_mono (hl x (List.mem_of_getElem? h)) hw hc
  · omega
theorem quiet_mono {n : Net} (hn : netOk n = true) {w c w' c' : Int} {g g' : List Int} (hw : w' ≤ w) (hc : c' ≤ c) (hg : ∀ k, g.getD k 0 ≤ g'.getD k 0) (h : quiet n w c g = true) : quiet n w' c' g' = true := by
  obtain ⟨_, _, _, _, _, _, a7, a8⟩ := netOk_iff.1 hn
  rw [allB_iff] at a7 a8
  simp only [quiet, allB_iff, List.mem_range, decide_eq_true_eq] at h ⊢
  intro k hk
  have h1 := h k hk
  simp only [spareS, List.getElem?_eq_getElem hk] at h1 ⊢
  have b1 := side_mono a8 hw hc ((k : Int) - 1)
  have b2 := side_mono a8 hw hc (k : Int)
  obtain ⟨hwt, _⟩ := ancOk_iff.1 (a7 _ (List.getElem_mem hk))
  have hm := Int.mul_le_mul_of_nonneg_left (hg n.anch[k].bottom.toNat) (show 0 ≤ 2 * n.anch[k].weight by omega)
  unfold bearsS at h1 ⊢
  omega
theorem grips_le {n : Net} (hn : netOk n = true) (k : Nat) : (n.grips.map (·.lo)).getD k 0 ≤ (n.grips.map (·.hi)).getD k 0 := by
  obtain ⟨_, _, _, _, _, a6, _, _⟩ := netOk_iff.1 hn
  rw [allB_iff] at a6
  simp only [List.getD, List.getElem?_map]
  cases h : n.grips[k]? with
  | none => simp
  | some x =>
    have := spanOk_iff.1 (a6 x (List.mem_of_getElem? h))
    simp only [Option.map_some, Option.getD_some]; omega
/-- a net under a calmer sky -/
theorem safe_calmer {n m : Net} (hn : netOk n = true) (hm : netOk m = true) (hg : m.grips = n.grips) (ha : m.anch = n.anch) (hwl : m.walls = n.walls) (h1 : m.wind.hi ≤ n.wind.hi) (h2 : m.cur.hi ≤ n.cur.hi) (h3 : n.wind.lo ≤ m.wind.lo) (h4 : n.cur.lo ≤ m.cur.lo) :
    (safeS n = 1 → safeS m = 1) ∧ (safeS n = 2 → safeS m = 2) := by
  have q : ∀ w c g, quiet m w c g = quiet n w c g := by
    intro w c g
    simp only [quiet, spareS, ha, hwl]
    rfl
  have b1 := spanOk_iff.1 (netOk_iff.1 hm).1
  have b2 := spanOk_iff.1 (netOk_iff.1 hm).2.1
  simp only [safeS, hn, hm, if_true, q, hg]
  refine ⟨fun h => ?_, fun h => ?_⟩
  · by_cases x : quiet n n.wind.hi n.cur.hi (n.grips.map (·.lo)) = true
    · rw [if_pos (quiet_mono hn h1 h2 (fun k => Int.le_refl _) x)]
    · rw [if_neg x] at h; split at h <;> cases h
  · by_cases x : quiet n n.wind.hi n.cur.hi (n.grips.map (·.lo)) = true
    · rw [if_pos x] at h; cases h
    · rw [if_neg x] at h
      by_cases y : quiet n n.wind.lo n.cur.lo (n.grips.map (·.hi)) = true
      · rw [if_pos y] at h; cases h
      · rw [if_neg, if_neg]
        · exact fun z => y (quiet_mono hn h3 h4 (fun k => Int.le_refl _) z)
        · exact fun z => y (quiet_mono hn (by omega) (by omega) (grips_le hn) z)
/-- a net with a heavier anchor -/
theorem safe_heavier {n m : Net} (hn : netOk n = true) (hm : netOk m = true) (hg : m.grips = n.grips) (hl : m.anch.length = n.anch.length) (hb : ∀ (k : Nat) (h1 : k < n.anch.length) (h2 : k < m.anch.length), m.anch[k].bottom = n.anch[k].bottom ∧ n.anch[k].weight ≤ m.anch[k].weight) (hwl : m.walls = n.walls)
    (h1 : m.wind = n.wind) (h2 : m.cur = n.cur) (h : safeS n = 1) : safeS m = 1 := by
  simp only [safeS, hn, hm, if_true, hg, h1, h2] at h ⊢
  have x : quiet n n.wind.hi n.cur.hi (n.grips.map (·.lo)) = true := by
    cases x : quiet n n.wind.hi n.cur.hi (n.grips.map (·.lo))
    · rw [x] at h; simp only [Bool.false_eq_true, if_false] at h; split at h <;> cases h
    · rfl
  rw [if_pos]
  simp only [quiet, allB_iff, List.mem_range, decide_eq_true_eq, hl] at x ⊢
  intro k hk
  have h3 := x k hk
  have hk2 : k < m.anch.length := by omega
  obtain ⟨e1, e2⟩ := hb k hk hk2
  simp only [spareS, List.getElem?_eq_getElem hk, List.getElem?_eq_getElem hk2, hwl, e1] at h3 ⊢
  have hg0 : 0 ≤ (n.grips.map (·.lo)).getD n.anch[k].bottom.toNat 0 := by
    obtain ⟨_, _, _, _, _, a6, _, _⟩ := netOk_iff.1 hn
    rw [allB_iff] at a6
    simp only [List.getD, List.getElem?_map]
    cases h : n.grips[n.anch[k].bottom.toNat]? with
    | none => simp
    | some x =>
      have := spanOk_iff.1 (a6 x (List.mem_of_getElem? h))
      simp only [Option.map_some, Option.getD_some]; omega
  have := Int.mul_le_mul_of_nonneg_right (show 2 * n.anch[k].weight ≤ 2 * m.anch[k].weight by omega) hg0
  omega
end Go.Proofs.Ytekgicoibcgecaa

/-
  Calmer skies, stronger boats, heavier anchors.
-/
namespace Go.Proofs.Ytekgicoibcgecaa
open Go.Ab

def insideS (a b : Sp) : Bool := decide (b.lo ≤ a.lo) && decide (a.lo ≤ a.hi) && decide (a.hi ≤ b.hi)
theorem e_inside13 (a0 : Int) (a1 : Int) (b0 : Int) (b1 : Int) (lab s) : den T 16 [.agg [i64 a0, i64 a1], .agg [i64 b0, i64 b1]] lab s = some (.bool (insideS (⟨a0, a1⟩ : Sp) (⟨b0, b1⟩ : Sp)), s) := by
  rw [den_fn t16 _ _ _ rfl]
  simp only [b16]
  by_cases c0 : b0 ≤ a0
  · by_cases c1 : a0 ≤ a1
    · by_cases c2 : a1 ≤ b1
      · simp (disch := first | omega | assumption | decide +kernel | (simp; done) | (simp; omega) | fail) [c0, c1, c2, insideS]
      · simp (disch := first | omega | assumption | decide +kernel | (simp; done) | (simp; omega) | fail) [c0, c1, c2, insideS]
    · simp (disch := first | omega | assumption | decide +kernel | (simp; done) | (simp; omega) | fail) [c0, c1, insideS]
  · simp (disch := first | omega | assumption | decide +kernel | (simp; done) | (simp; omega) | fail) [c0, insideS]
theorem e_IsBoat (n0 : Int) (n1 : Int) (n2 : List Sp) (n3 : List Boat) (k : Int) (h : n3.length < 4611686018427387904) (lab s) : den T 19 [.agg [i64 n0, i64 n1, .sl .no 2 (es cSp n2), .sl .no 2 (es cBoat n3)], i64 k] lab s = some (.bool (within k 0 (n3.length - 1)), s) := by
  rw [den_fn t19 _ _ _ rfl]
  simp only [b19]
  simp (disch := first | omega | assumption | decide +kernel | (simp; done) | (simp; omega) | fail) [wi]

theorem e_Stronger (n0 : Int) (n1 : Int) (n2 : List Sp) (n3 : List Boat) (h4 : n2.length < 8796093022208) (h5 : n3.length < 8796093022208) (b : Nat) (hb : b < n3.length) (hw : IntKind.i64.wrap (n3[b].carry + 1) = n3[b].carry + 1) (lab) (s : Stk) :
    den T 20 [.agg [i64 n0, i64 n1, .sl .no 2 (es cSp n2), .sl .no 2 (es cBoat n3)], i64 b] lab s = some (.agg [i64 n0, i64 n1, .sl .no 2 (es cSp n2), .sl .no 2 (es cBoat (n3.set b ⟨n3[b].carry + 1, n3[b].pence⟩))], s) := by
  have hc := fun lab loc s => e_Copy05 n0 n1 n2 n3 h4 h5 lab loc s
  have hset : (es cBoat n3).set b [i64 (n3[b].carry + 1), i64 n3[b].pence] = es cBoat (n3.set b ⟨n3[b].carry + 1, n3[b].pence⟩) := by simp [es, List.map_set]
  have hb2 : (b : Int) < n3.length := by omega
  rw [den_fn t20 _ _ _ rfl]
  simp only [b20]
  simp (maxSteps := 1000000) (disch := first | omega | assumption | decide +kernel | (simp; done) | (simp; omega) | fail) [hc, hb, hb2, hw, hset]
theorem e_Heavier02 (n0 : Int) (n1 : Int) (n2 : Int) (n3 : Int) (n4 : List Sp) (n5 : List Anc) (n6 : List Wal) (h4 : n4.length < 8796093022208) (h5 : n5.length < 8796093022208) (h6 : n6.length < 3518437208884) (a : Nat) (ha : a < n5.length) (hw : IntKind.i64.wrap (n5[a].weight + 1) = n5[a].weight + 1) (lab) (s : Stk) :
    den T 46 [.agg [i64 n0, i64 n1, i64 n2, i64 n3, .sl .no 2 (es cSp n4), .sl .no 2 (es cAnc n5), .sl .no 5 (es cWal n6)], i64 a, i64 1] lab s = some (.agg [i64 n0, i64 n1, i64 n2, i64 n3, .sl .no 2 (es cSp n4), .sl .no 2 (es cAnc (n5.set a ⟨n5[a].weight + 1, n5[a].bottom⟩)), .sl .no 5 (es cWal n6)], s) := by
  have hc := fun lab loc s => e_Copy02 n0 n1 n2 n3 n4 n5 n6 h4 h5 h6 lab loc s
  have hset : (es cAnc n5).set a [i64 (n5[a].weight + 1), i64 n5[a].bottom] = es cAnc (n5.set a ⟨n5[a].weight + 1, n5[a].bottom⟩) := by simp [es, List.map_set]
  have ha2 : (a : Int) < n5.length := by omega
  rw [den_fn t46 _ _ _ rfl]
  simp only [b46]
  simp (maxSteps := 1000000) (disch := first | omega | assumption | decide +kernel | (simp; done) | (simp; omega) | fail) [hc, ha, ha2, hw, hset]
set_option maxHeartbeats 4000000 in
theorem e_Heavier13 (n0 : Int) (n1 : Int) (n2 : Int) (n3 : Int) (n4 : List Sp) (n5 : List Anc) (n6 : List Wal) (n7 : Int) (n8 : Int) (n9 : List Sp) (n10 : List Boat) (n11 : List Sky) (n12 : List (List Int)) (n13 : List Int) (n14 : List Sp) (hs : ShortC (⟨⟨⟨n0, n1⟩, ⟨n2, n3⟩, n4, n5, n6⟩, ⟨⟨n7, n8⟩, n9, n10⟩, n11, n12, n13, n14⟩ : Season)) (a : Nat) (ha : a < n5.length) (hw : IntKind.i64.wrap (n5[a].weight + 1) = n5[a].weight + 1) (lab) (s : Stk) :
    den T 21 [.agg [i64 n0, i64 n1, i64 n2, i64 n3, .sl .no 2 (es cSp n4), .sl .no 2 (es cAnc n5), .sl .no 5 (es cWal n6), i64 n7, i64 n8, .sl .no 2 (es cSp n9), .sl .no 2 (es cBoat n10), .sl .no 4 (es cSky n11), .sl .no 1 (es cInts n12), .sl .no 1 (es cInt n13), .sl .no 2 (es cSp n14)], i64 a] lab s = some (.agg (season0 ⟨⟨⟨n0, n1⟩, ⟨n2, n3⟩, n4, n5.set a ⟨n5[a].weight + 1, n5[a].bottom⟩, n6⟩, ⟨⟨n7, n8⟩, n9, n10⟩, n11, n12, n13, n14⟩), s) := by
  have h5 := hs.anch
  have h4 := hs.grips
  have h6 := hs.walls
  simp only at h4 h5 h6
  have hc := fun lab loc s => e_Copy13 n0 n1 n2 n3 n4 n5 n6 n7 n8 n9 n10 n11 n12 n13 n14 hs lab loc s
  have hh := fun lab s => e_Heavier02 n0 n1 n2 n3 n4 n5 n6 h4 h5 h6 a ha hw lab s
  rw [den_fn t21 _ _ _ rfl]
  simp only [b21]
  simp (maxSteps := 6000000) (disch := first | omega | assumption | decide +kernel | (simp; done) | (simp; omega) | fail) [run_drawnK, hc, copyCells, hh, season0]

/-! what is not changed for the worse -/
def calmSky (n : Season) (k : Nat) (x : Sky) : Season := { n with skies := n.skies.set k x }
theorem calmSky_get {n : Season} {k i : Nat} (hi : i < n.skies.length) (x : Sky) : ∃ h : i < (calmSky n k x).skies.length, (calmSky n k x).skies[i] = if k = i then x else n.skies[i] :=
  ⟨by simpa [calmSky] using hi, by simp [calmSky, List.getElem_set]⟩
theorem calmSky_ok {n : Season} (hn : seasonOk n = true) {k : Nat} (hk : k < n.skies.length) {x : Sky} (h1 : insideS x.wind n.skies[k].wind = true) (h2 : insideS x.cur n.skies[k].cur = true) : seasonOk (calmSky n k x) = true := by
  obtain ⟨q1, q2, q3, q4, q5, q6, q7, q8, q9⟩ := seasonOk_iff.1 hn
  have hlen : (calmSky n k x).skies.length = n.skies.length := by simp [calmSky]
  refine seasonOk_iff.2 ⟨q1, q2, by rw [hlen]; exact q3, by rw [hlen]; exact q4, by rw [hlen]; exact q5, by rw [hlen]; exact q6, q7, ?_, q9⟩
  rw [allB_iff] at q8 ⊢
  intro i hi
  rw [hlen] at hi
  have h := q8 i hi
  have hi2 := List.mem_range.1 hi
  have hi3 : i < n.follows.length := by omega
  obtain ⟨hg, e⟩ := calmSky_get (k := k) hi2 x
  have hi4 : i < (calmSky n k x).follows.length := hi3
  simp only [skyAt, List.getElem?_eq_getElem hi2, List.getElem?_eq_getElem hi3, List.getElem?_eq_getElem hg, List.getElem?_eq_getElem hi4, hlen, Bool.and_eq_true, spanOk_iff] at h ⊢
  rw [e]
  by_cases hki : k = i
  · subst hki
    rw [if_pos rfl]
    simp only [insideS, Bool.and_eq_true, decide_eq_true_eq] at h1 h2
    refine ⟨⟨?_, ?_⟩, h.2⟩ <;> omega
  · rw [if_neg hki]; exact h
theorem calmS_at {n : Season} {k : Nat} (hk : k < n.skies.length) : calmS n k = safeS { n.net with wind := n.skies[k].wind, cur := n.skies[k].cur } := by
  simp only [calmS, List.getElem?_eq_getElem hk]
theorem calmS_range {n : Season} (hn : seasonOk n = true) {k : Nat} (hk : k < n.skies.length) : 1 ≤ calmS n k ∧ calmS n k ≤ 3 := by
  rw [calmS_at hk, safeS, if_pos (net_sky hn hk)]
  split
  · omega
  · split <;> omega
theorem calmSky_calm {n : Season} (hn : seasonOk n = true) {k : Nat} (hk : k < n.skies.length) {x : Sky} (h1 : insideS x.wind n.skies[k].wind = true) (h2 : insideS x.cur n.skies[k].cur = true) :
    (calmS n k = 1 → calmS (calmSky n k x) k = 1) ∧ (calmS n k = 2 → calmS (calmSky n k x) k = 2) := by
  have ho := calmSky_ok hn hk h1 h2
  obtain ⟨hk2, e⟩ := calmSky_get (k := k) hk x
  rw [if_pos rfl] at e
  rw [calmS_at hk, calmS_at hk2]
  have a := net_sky hn hk
  have b := net_sky ho hk2
  simp only [insideS, Bool.and_eq_true, decide_eq_true_eq] at h1 h2
  refine safe_calmer a b rfl rfl rfl ?_ ?_ ?_ ?_ <;> simp only [e] <;> omega
theorem worse_calm {n : Season} (hn : seasonOk n = true) {k : Nat} (hk : k < n.skies.length) {x : Sky} (h1 : insideS x.wind n.skies[k].wind = true) (h2 : insideS x.cur n.skies[k].cur = true) : Worse n (calmSky n k x) := by
  have ho := calmSky_ok hn hk h1 h2
  refine Worse.of hn ho (by simp [calmSky]) 0 rfl (fun _ _ _ h => h) (fun _ h => h) fun d j hd hj h => ⟨?_, Int.le_refl _⟩
  simp only [mayS, Bool.and_eq_true, decide_eq_true_eq] at h ⊢
  refine ⟨?_, h.2⟩
  by_cases hkj : k = j
  · subst hkj; exact (calmSky_calm hn hk h1 h2).1 h.1
  · obtain ⟨hj2, e⟩ := calmSky_get (k := k) hj x
    rw [if_neg hkj] at e
    have h1' := h.1
    rw [calmS_at hj] at h1'
    rw [calmS_at hj2, e]; exact h1'
def strong (n : Season) (b : Nat) : Season := { n with sea := { n.sea with boats := n.sea.boats.set b ⟨(n.sea.boats.getD b default).carry + 1, (n.sea.boats.getD b default).pence⟩ } }
theorem worse_strong {n : Season} (hn : seasonOk n = true) {b : Nat} (hb : b < n.sea.boats.length) (ho : seasonOk (strong n b) = true) : Worse n (strong n b) := by
  refine Worse.of hn ho rfl 0 rfl (fun _ _ _ h => h) (fun _ h => h) fun d j hd hj h => ⟨?_, Int.le_refl _⟩
  simp only [mayS, Bool.and_eq_true, decide_eq_true_eq] at h ⊢
  refine ⟨h.1, holdS_mono hn ho hd hd rfl (by simp [strong]) (fun i => ?_) (Int.le_refl _) h.2⟩
  simp only [boatAt, strong, List.getD, List.getElem?_set]
  by_cases hbi : b = i.toNat
  · subst hbi
    simp only [if_true, hb, List.getElem?_eq_getElem hb, Option.getD_some]
    omega
  · rw [if_neg hbi]; exact Int.le_refl _
def heavySeason (n : Season) (a : Nat) : Season := { n with net := { n.net with anch := n.net.anch.set a ⟨(n.net.anch.getD a default).weight + 1, (n.net.anch.getD a default).bottom⟩ } }
theorem worse_heavy {n : Season} (hn : seasonOk n = true) {a : Nat} (ha : a < n.net.anch.length) (ho : seasonOk (heavySeason n a) = true) : Worse n (heavySeason n a) := by
  refine Worse.of hn ho rfl 0 rfl (fun _ _ _ h => h) (fun _ h => h) fun d j hd hj h => ⟨?_, Int.le_refl _⟩
  simp only [mayS, Bool.and_eq_true, decide_eq_true_eq] at h ⊢
  refine ⟨?_, h.2⟩
  rw [calmS_at hj] at h
  rw [calmS_at (n := heavySeason n a) hj]
  refine safe_heavier (net_sky hn hj) (net_sky ho hj) rfl (by simp [heavySeason]) (fun i k1 k2 => ?_) rfl rfl rfl h.1
  simp only [heavySeason, List.getElem_set]
  split
  · rename_i e; subst e
    have : n.net.anch.getD a default = n.net.anch[a] := by simp [List.getD, ha]
    simp only [this]
    exact ⟨trivial, by omega⟩
  · exact ⟨rfl, Int.le_refl _⟩
end Go.Proofs.Ytekgicoibcgecaa
