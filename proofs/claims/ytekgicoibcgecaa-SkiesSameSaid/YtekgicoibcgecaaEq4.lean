/-
  SkiesPut.
-/
import Derived.Test.YtekgicoibcgecaaEq3
set_option linter.unusedSimpArgs false
set_option linter.unusedVariables false
namespace Go.Proofs.Ytekgicoibcgecaa
open Go.Ab

def inB (l : List Int) (x : Int) : Bool := anyB (fun y => decide (y = x)) l
theorem inB_iff {l : List Int} {x : Int} : inB l x = true ↔ x ∈ l := by
  simp only [inB, anyB, List.any_eq_true, decide_eq_true_eq]
  exact ⟨fun ⟨y, h1, h2⟩ => h2 ▸ h1, fun h => ⟨x, h, rfl⟩⟩
/-- each sky can follow -/
def courseL (n : Season) : List Int → List Int → Bool
  | _, [] => true
  | nx, x :: c => inB nx x && courseL n (n.follows.getD x.toNat []) c
def isCourse (n : Season) (c : List Int) : Bool := decide (c.length = n.days.length) && courseL n n.first c
theorem course_mem (n : Season) : ∀ (c c0 nx : List Int), courseL n nx c = true → c0 ++ c ∈ coursesFrom n c.length c0 nx
  | [], c0, nx, _ => by simp [coursesFrom]
  | x :: c, c0, nx, h => by
    simp only [courseL, Bool.and_eq_true] at h
    simp only [List.length_cons, coursesFrom, List.mem_flatMap]
    refine ⟨x, inB_iff.1 h.1, ?_⟩
    have := course_mem n c (c0 ++ [x]) _ h.2
    simpa using this
theorem mem_course (n : Season) : ∀ (r : Nat) (c c0 nx : List Int), c ∈ coursesFrom n r c0 nx → ∃ c1, c = c0 ++ c1 ∧ c1.length = r ∧ courseL n nx c1 = true
  | 0, c, c0, nx, h => by
    simp only [coursesFrom, List.mem_singleton] at h
    exact ⟨[], by simp [h], rfl, rfl⟩
  | r + 1, c, c0, nx, h => by
    simp only [coursesFrom, List.mem_flatMap] at h
    obtain ⟨x, h1, h2⟩ := h
    obtain ⟨c1, rfl, h3, h4⟩ := mem_course n r c (c0 ++ [x]) _ h2
    exact ⟨x :: c1, by simp, by simp [h3], by simp only [courseL, inB_iff.2 h1, h4, Bool.and_self]⟩

theorem e_IsCourse_l (n0 : Int) (n1 : Int) (n2 : Int) (n3 : Int) (n4 : List Sp) (n5 : List Anc) (n6 : List Wal) (n7 : Int) (n8 : Int) (n9 : List Sp) (n10 : List Boat) (n11 : List Sky) (n12 : List (List Int)) (n13 : List Int) (n14 : List Sp) (hs : Short (⟨⟨⟨n0, n1⟩, ⟨n2, n3⟩, n4, n5, n6⟩, ⟨⟨n7, n8⟩, n9, n10⟩, n11, n12, n13, n14⟩ : Season)) (hok : seasonOk (⟨⟨⟨n0, n1⟩, ⟨n2, n3⟩, n4, n5, n6⟩, ⟨⟨n7, n8⟩, n9, n10⟩, n11, n12, n13, n14⟩ : Season) = true) (c : List Int) (hcl : c.length < 4611686018427387904) (s : Stk) :
    ∃ nx', Run T b26l0 [(1, .sl .no 1 (es cInt c)), (2, .ptr s.length 32 0), (5, .sl .no 1 (es cInt n13)), (6, i64 0)] ([(32, .cell [i64 n0, i64 n1, i64 n2, i64 n3, .sl .no 2 (es cSp n4), .sl .no 2 (es cAnc n5), .sl .no 5 (es cWal n6), i64 n7, i64 n8, .sl .no 2 (es cSp n9), .sl .no 2 (es cBoat n10), .sl .no 4 (es cSky n11), .sl .no 1 (es cInts n12), .sl .no 1 (es cInt n13), .sl .no 2 (es cSp n14)])] :: s) =
      some (if courseL (⟨⟨⟨n0, n1⟩, ⟨n2, n3⟩, n4, n5, n6⟩, ⟨⟨n7, n8⟩, n9, n10⟩, n11, n12, n13, n14⟩ : Season) n13 c = true then (.exit 0, [(1, .sl .no 1 (es cInt c)), (2, .ptr s.length 32 0), (5, .sl .no 1 (es cInt nx')), (6, i64 c.length), (18, .bool false)], [(32, .cell [i64 n0, i64 n1, i64 n2, i64 n3, .sl .no 2 (es cSp n4), .sl .no 2 (es cAnc n5), .sl .no 5 (es cWal n6), i64 n7, i64 n8, .sl .no 2 (es cSp n9), .sl .no 2 (es cBoat n10), .sl .no 4 (es cSky n11), .sl .no 1 (es cInts n12), .sl .no 1 (es cInt n13), .sl .no 2 (es cSp n14)])] :: s) else (.ret, [(4, .bool false)], [(32, .cell [i64 n0, i64 n1, i64 n2, i64 n3, .sl .no 2 (es cSp n4), .sl .no 2 (es cAnc n5), .sl .no 5 (es cWal n6), i64 n7, i64 n8, .sl .no 2 (es cSp n9), .sl .no 2 (es cBoat n10), .sl .no 4 (es cSky n11), .sl .no 1 (es cInts n12), .sl .no 1 (es cInt n13), .sl .no 2 (es cSp n14)])] :: s)) := by
  let P : List Int → Prop := fun nx => nx.length < 4611686018427387904 ∧ ∀ x : Int, x ∈ nx → 0 ≤ x ∧ x < (n11.length : Int)
  have key := loop_list (T := T) (live := [1, 2, 5, 6]) (keep := [32]) (b := ( .seq ( .seq ( .region false [ ⟨(some 15), .mv (.t 6), none, [], []⟩, ⟨(some 16), .mv (.t 1), none, [], []⟩, ⟨(some 17), .len (.t 16), none, [], []⟩, ⟨(some 18), .bin .lss (.t 15) (.t 17), none, [], []⟩] [1, 2, 5, 6, 18]) ( .cond (.t 18) ( .skip) ( .exit 0))) ( .seq ( .block 1 ( .seq ( .seq ( .region false [ ⟨(some 21), .mv (.t 5), none, [], []⟩, ⟨(some 22), .mv (.t 1), none, [], []⟩, ⟨(some 23), .mv (.t 6), none, [], []⟩, ⟨(some 24), .idxs 1 (.t 22) (.t 23), none, [], []⟩, ⟨(some 25), .load none (.t 24), none, [], []⟩, ⟨(some 26), .call 41 [(.t 21), (.t 25)], none, [], []⟩, ⟨(some 27), .un .not (.t 26), none, [], []⟩] [1, 2, 6, 27]) ( .cond (.t 27) ( .seq ( .region false [ ⟨(some 4), .mv (.c (.bool false)), none, [], []⟩] [4]) ( .ret)) ( .skip))) ( .region true (spl [ ⟨(some 28), .faddr 12 (.t 2), none, [], []⟩, ⟨(some 29), .load none (.t 28), none, [0], []⟩, ⟨(some 30), .mv (.t 1), none, [], []⟩, ⟨(some 31), .mv (.t 6), none, [], []⟩, ⟨(some 32), .idxs 1 (.t 30) (.t 31), none, [2, 3], []⟩, ⟨(some 33), .load none (.t 32), none, [4, 2, 3], []⟩] [ ⟨(some 34), .idxs 1 (.t 29) (.t 33), none, [1, 5, 0, 4, 2, 3], []⟩, ⟨(some 35), .load none (.t 34), none, [6, 1, 5, 0, 4, 2, 3], []⟩, ⟨(some 5), .mv (.t 35), none, [7, 6, 1, 5, 0, 4, 2, 3], []⟩]) [1, 2, 5, 6]))) ( .region false [ ⟨(some 19), .mv (.t 6), none, [], []⟩, ⟨(some 20), .bin .add (.t 19) (.c (i64 1)), none, [], []⟩, ⟨(some 6), .mv (.t 20), none, [], []⟩] [1, 2, 5, 6])))) c (fun _ (nx : List Int) => P nx)
    (fun k nx => [(1, .sl .no 1 (es cInt c)), (2, .ptr s.length 32 0), (5, .sl .no 1 (es cInt nx)), (6, i64 k)]) (fun _ _ => [(32, .cell [i64 n0, i64 n1, i64 n2, i64 n3, .sl .no 2 (es cSp n4), .sl .no 2 (es cAnc n5), .sl .no 5 (es cWal n6), i64 n7, i64 n8, .sl .no 2 (es cSp n9), .sl .no 2 (es cBoat n10), .sl .no 4 (es cSky n11), .sl .no 1 (es cInts n12), .sl .no 1 (es cInt n13), .sl .no 2 (es cSp n14)])] :: s)
    (fun nx x => if inB nx x = true then .inl (n12.getD x.toNat []) else .inr (.ret, [(4, .bool false)], [(32, .cell [i64 n0, i64 n1, i64 n2, i64 n3, .sl .no 2 (es cSp n4), .sl .no 2 (es cAnc n5), .sl .no 5 (es cWal n6), i64 n7, i64 n8, .sl .no 2 (es cSp n9), .sl .no 2 (es cBoat n10), .sl .no 4 (es cSky n11), .sl .no 1 (es cInts n12), .sl .no 1 (es cInt n13), .sl .no 2 (es cSp n14)])] :: s))
    (fun nx => (.exit 0, [(1, .sl .no 1 (es cInt c)), (2, .ptr s.length 32 0), (5, .sl .no 1 (es cInt nx)), (6, i64 c.length), (18, .bool false)], [(32, .cell [i64 n0, i64 n1, i64 n2, i64 n3, .sl .no 2 (es cSp n4), .sl .no 2 (es cAnc n5), .sl .no 5 (es cWal n6), i64 n7, i64 n8, .sl .no 2 (es cSp n9), .sl .no 2 (es cBoat n10), .sl .no 4 (es cSky n11), .sl .no 1 (es cInts n12), .sl .no 1 (es cInt n13), .sl .no 2 (es cSp n14)])] :: s))
    ?_ ?_ (fun k j q hk hj h => by split at h <;> simp_all; rw [← h]; simp) ?_ (by simp) n13 ⟨hs.first, (first_ok hok).2⟩
    [(1, .sl .no 1 (es cInt c)), (2, .ptr s.length 32 0), (5, .sl .no 1 (es cInt n13)), (6, i64 0)] ([(32, .cell [i64 n0, i64 n1, i64 n2, i64 n3, .sl .no 2 (es cSp n4), .sl .no 2 (es cAnc n5), .sl .no 5 (es cWal n6), i64 n7, i64 n8, .sl .no 2 (es cSp n9), .sl .no 2 (es cBoat n10), .sl .no 4 (es cSky n11), .sl .no 1 (es cInts n12), .sl .no 1 (es cInt n13), .sl .no 2 (es cSp n14)])] :: s) (by simp) (by simp)
  · have e : ∀ (l : List Int) (nx : List Int), ∃ nx', foldS (fun nx (x : Int) => if inB nx x = true then (.inl (n12.getD x.toNat []) : List Int ⊕ (Ex × Env × Stk)) else .inr (.ret, [(4, .bool false)], [(32, .cell [i64 n0, i64 n1, i64 n2, i64 n3, .sl .no 2 (es cSp n4), .sl .no 2 (es cAnc n5), .sl .no 5 (es cWal n6), i64 n7, i64 n8, .sl .no 2 (es cSp n9), .sl .no 2 (es cBoat n10), .sl .no 4 (es cSky n11), .sl .no 1 (es cInts n12), .sl .no 1 (es cInt n13), .sl .no 2 (es cSp n14)])] :: s))
        (fun nx => (.exit 0, [(1, .sl .no 1 (es cInt c)), (2, .ptr s.length 32 0), (5, .sl .no 1 (es cInt nx)), (6, i64 c.length), (18, .bool false)], [(32, .cell [i64 n0, i64 n1, i64 n2, i64 n3, .sl .no 2 (es cSp n4), .sl .no 2 (es cAnc n5), .sl .no 5 (es cWal n6), i64 n7, i64 n8, .sl .no 2 (es cSp n9), .sl .no 2 (es cBoat n10), .sl .no 4 (es cSky n11), .sl .no 1 (es cInts n12), .sl .no 1 (es cInt n13), .sl .no 2 (es cSp n14)])] :: s)) l nx =
        if courseL (⟨⟨⟨n0, n1⟩, ⟨n2, n3⟩, n4, n5, n6⟩, ⟨⟨n7, n8⟩, n9, n10⟩, n11, n12, n13, n14⟩ : Season) nx l = true then (.exit 0, [(1, .sl .no 1 (es cInt c)), (2, .ptr s.length 32 0), (5, .sl .no 1 (es cInt nx')), (6, i64 c.length), (18, .bool false)], [(32, .cell [i64 n0, i64 n1, i64 n2, i64 n3, .sl .no 2 (es cSp n4), .sl .no 2 (es cAnc n5), .sl .no 5 (es cWal n6), i64 n7, i64 n8, .sl .no 2 (es cSp n9), .sl .no 2 (es cBoat n10), .sl .no 4 (es cSky n11), .sl .no 1 (es cInts n12), .sl .no 1 (es cInt n13), .sl .no 2 (es cSp n14)])] :: s) else (.ret, [(4, .bool false)], [(32, .cell [i64 n0, i64 n1, i64 n2, i64 n3, .sl .no 2 (es cSp n4), .sl .no 2 (es cAnc n5), .sl .no 5 (es cWal n6), i64 n7, i64 n8, .sl .no 2 (es cSp n9), .sl .no 2 (es cBoat n10), .sl .no 4 (es cSky n11), .sl .no 1 (es cInts n12), .sl .no 1 (es cInt n13), .sl .no 2 (es cSp n14)])] :: s) := by
      intro l
      induction l with
      | nil => intro nx; exact ⟨nx, rfl⟩
      | cons x l ih =>
        intro nx
        by_cases h : inB nx x = true
        · obtain ⟨nx', h2⟩ := ih (n12.getD x.toNat [])
          exact ⟨nx', by simp only [foldS, courseL, h, if_true, Bool.true_and]; exact h2⟩
        · have h' : inB nx x = false := by simpa using h
          exact ⟨[], by simp [foldS, courseL, h']⟩
    obtain ⟨nx', h⟩ := e c n13
    rw [h] at key
    exact ⟨nx', key⟩
  · intro k nx hk hP
    obtain ⟨hP1, hP2⟩ := hP
    cases h : inB nx c[k]
    · have h' : anyB (fun y => decide (y = c[k])) nx = false := h
      simp (disch := first | omega | assumption | decide +kernel | (simp; done) | (simp; omega) | fail) [hk, h', wk k (by omega)]
    · have h' : anyB (fun y => decide (y = c[k])) nx = true := h
      obtain ⟨x0, x1⟩ := hP2 _ (inB_iff.1 h)
      obtain ⟨hk2, _, hf⟩ := follows_ok hok (k := c[k].toNat) (by simp only; omega)
      simp only at hk2
      have hfo : n12.getD c[k].toNat [] = n12[c[k].toNat] := by simp [List.getD, hk2]
      simp (maxSteps := 1000000) (disch := first | omega | assumption | decide +kernel | (simp; done) | (simp; omega) | fail) [run_drawnK, hk, h', x0, hk2, hfo, wk k (by omega)]
  · intro k nx nx' hk hP h
    cases h2 : inB nx c[k]
    · simp [h2] at h
    · simp only [h2, if_true, Sum.inl.injEq] at h
      subst h
      obtain ⟨x0, x1⟩ := hP.2 _ (inB_iff.1 h2)
      obtain ⟨hk2, _, hf⟩ := follows_ok hok (k := c[k].toNat) (by simp only; omega)
      simp only at hk2 hf
      have hfo : n12.getD c[k].toNat [] = n12[c[k].toNat] := by simp [List.getD, hk2]
      rw [hfo]
      exact ⟨hs.each _ (List.getElem_mem hk2), hf⟩
  · intro nx hP
    simp
theorem e_IsCourse (n0 : Int) (n1 : Int) (n2 : Int) (n3 : Int) (n4 : List Sp) (n5 : List Anc) (n6 : List Wal) (n7 : Int) (n8 : Int) (n9 : List Sp) (n10 : List Boat) (n11 : List Sky) (n12 : List (List Int)) (n13 : List Int) (n14 : List Sp) (hs : Short (⟨⟨⟨n0, n1⟩, ⟨n2, n3⟩, n4, n5, n6⟩, ⟨⟨n7, n8⟩, n9, n10⟩, n11, n12, n13, n14⟩ : Season)) (hok : seasonOk (⟨⟨⟨n0, n1⟩, ⟨n2, n3⟩, n4, n5, n6⟩, ⟨⟨n7, n8⟩, n9, n10⟩, n11, n12, n13, n14⟩ : Season) = true) (c : List Int) (hcl : c.length < 4611686018427387904) (lab s) :
    den T 26 [.agg [i64 n0, i64 n1, i64 n2, i64 n3, .sl .no 2 (es cSp n4), .sl .no 2 (es cAnc n5), .sl .no 5 (es cWal n6), i64 n7, i64 n8, .sl .no 2 (es cSp n9), .sl .no 2 (es cBoat n10), .sl .no 4 (es cSky n11), .sl .no 1 (es cInts n12), .sl .no 1 (es cInt n13), .sl .no 2 (es cSp n14)], .sl .no 1 (es cInt c)] lab s = some (.bool (isCourse (⟨⟨⟨n0, n1⟩, ⟨n2, n3⟩, n4, n5, n6⟩, ⟨⟨n7, n8⟩, n9, n10⟩, n11, n12, n13, n14⟩ : Season) c), s) := by
  obtain ⟨nx', key⟩ := e_IsCourse_l n0 n1 n2 n3 n4 n5 n6 n7 n8 n9 n10 n11 n12 n13 n14 hs hok c hcl s
  rw [den_fn t26 _ _ _ rfl]
  simp only [b26]
  by_cases c0 : (c.length : Int) = n14.length
  · have c0' : c.length = n14.length := by omega
    cases c1 : courseL (⟨⟨⟨n0, n1⟩, ⟨n2, n3⟩, n4, n5, n6⟩, ⟨⟨n7, n8⟩, n9, n10⟩, n11, n12, n13, n14⟩ : Season) n13 c
    · simp (disch := first | omega | assumption | decide +kernel | (simp; done) | (simp; omega) | fail) [c0, c0', c1, key, isCourse]
    · simp (disch := first | omega | assumption | decide +kernel | (simp; done) | (simp; omega) | fail) [c0, c0', c1, key, isCourse]
  · have c0' : ¬ c.length = n14.length := by omega
    simp (disch := first | omega | assumption | decide +kernel | (simp; done) | (simp; omega) | fail) [c0, c0', isCourse]

/-! Off over all courses -/
theorem offQ_all (n : Season) : ∀ (l : List (List Int)) (a : (Int × Int) × Bool), (foldB (offY n) l a).2 = true →
    (foldB (offY n) l a).1.1.1 ≤ a.1.1 ∧ a.1.2 ≤ (foldB (offY n) l a).1.1.2 ∧ ∀ c ∈ l, ∃ k, firstMay n 0 c = some k ∧ (foldB (offY n) l a).1.1.1 ≤ (k : Int) ∧ (k : Int) ≤ (foldB (offY n) l a).1.1.2
  | [], a, _ => by simp [foldB]
  | c :: l, a, h => by
    cases h1 : firstMay n 0 c with
    | none =>
      have e : offY n a c = ((a.1, true), false) := by simp only [offY, h1]
      simp [foldB, e] at h
    | some k =>
      have e : offY n a c = (((min a.1.1 k, max a.1.2 k), a.2), true) := by simp only [offY, h1]
      simp only [foldB, e, if_true] at h ⊢
      obtain ⟨p1, p2, p3⟩ := offQ_all n l _ h
      simp only at p1 p2
      refine ⟨by omega, by omega, ?_⟩
      intro c' hc'
      rcases List.mem_cons.1 hc' with rfl | hc'
      · exact ⟨k, h1, by omega, by omega⟩
      · exact p3 c' hc'
theorem offQ_bounds (n : Season) (N : Int) : ∀ (l : List (List Int)) (a : (Int × Int) × Bool), (∀ c ∈ l, (c.length : Int) ≤ N) → 0 ≤ a.1.1 → a.1.2 < N → 0 ≤ (foldB (offY n) l a).1.1.1 ∧ (foldB (offY n) l a).1.1.2 < N
  | [], a, _, h1, h2 => ⟨h1, h2⟩
  | c :: l, a, hl, h1, h2 => by
    cases hf : firstMay n 0 c with
    | none =>
      have e : offY n a c = ((a.1, true), false) := by simp only [offY, hf]
      simp [foldB, e, h1, h2]
    | some k =>
      have e : offY n a c = (((min a.1.1 k, max a.1.2 k), a.2), true) := by simp only [offY, hf]
      simp only [foldB, e, if_true]
      have hk := (firstMay_lt n c 0 k hf).2
      have hc := hl c (by simp)
      exact offQ_bounds n N l _ (fun c hc => hl c (by simp [hc])) (by simp only; omega) (by simp only; omega)
/-- some course there is -/
theorem courses_some {n : Season} (hok : seasonOk n = true) : ∀ (r : Nat) (c nx : List Int), nx ≠ [] → (∀ x : Int, x ∈ nx → 0 ≤ x ∧ x < (n.skies.length : Int)) → coursesFrom n r c nx ≠ []
  | 0, c, nx, _, _ => by simp [coursesFrom]
  | r + 1, c, nx, hne, hx => by
    cases nx with
    | nil => exact absurd rfl hne
    | cons x nx =>
      obtain ⟨x0, x1⟩ := hx x (by simp)
      obtain ⟨hk2, hn, hf⟩ := follows_ok hok (k := x.toNat) (by omega)
      have hfo : n.follows.getD x.toNat [] = n.follows[x.toNat] := by simp [List.getD, hk2]
      have := courses_some hok r (c ++ [x]) n.follows[x.toNat] hn hf
      simp only [coursesFrom, List.flatMap_cons, hfo]
      intro h
      exact this (List.append_eq_nil_iff.1 h).1
end Go.Proofs.Ytekgicoibcgecaa

/-
  Copies of seasons; all worths; worse.
-/
namespace Go.Proofs.Ytekgicoibcgecaa
open Go.Ab

/-- no list is too long for a copy -/
structure ShortC (n : Season) : Prop where
  grips : n.net.grips.length < 8796093022208
  anch : n.net.anch.length < 8796093022208
  walls : n.net.walls.length < 3518437208884
  places : n.sea.places.length < 8796093022208
  boats : n.sea.boats.length < 8796093022208
  skies : n.skies.length < 4398046511104
  follows : n.follows.length < 5864062014805
  first : n.first.length < 17592186044416
  days : n.days.length < 8796093022207
  each : ∀ l ∈ n.follows, l.length < 17592186044416

theorem ShortC.short {n : Season} (h : ShortC n) : Short n := by
  obtain ⟨h1, h2, h3, h4, h5, h6, h7, h8, h9, h10⟩ := h
  exact ⟨by omega, by omega, by omega, by omega, by omega, by omega, by omega, fun l hl => by have := h10 l hl; omega⟩

theorem filter_tt {α : Type} (l : List α) : l.filter (fun _ => true) = l := by simp
@[simp] theorem es_ints1 (l : List (List Int)) (x : List Int) : es cInts l ++ [[.sl .no 1 (es cInt x)]] = es cInts (l ++ [x]) := by simp [es]
@[simp] theorem map_cInts (r : Ren) (h : r.c .no = .no) (l) : (es cInts l).map (V.mapAll r) = es cInts l := es_map _ _ (fun _ => by simp [h]) _
@[simp] theorem map_cInts_d (d keep l) : (es cInts l).map (V.mapAll (dropR d keep)) = es cInts l := map_cInts _ rfl l
@[simp] theorem map_cInts_f (d k z e l) : (es cInts l).map (V.mapAll (frzR d k z e)) = es cInts l := map_cInts _ rfl l
@[simp] theorem map_cInts_r (own d loc ls d' lab l) : (es cInts l).map (V.mapAll (renR own d loc ls d' lab)) = es cInts l := map_cInts _ (by cases own <;> rfl) l
@[simp] theorem strip_cInts (l) : (es cInts l).map V.stripAll = es cInts l := es_strip _ (fun _ => by simp) _
@[simp] theorem refs_cInts (own : Bool) (d : Nat) (l) : (es cInts l).flatMap (V.refsAll own d) = [] := es_refs _ _ _ (fun _ => by cases own <;> simp [V.refs, Cap.refs]) _
@[simp] theorem elems_cInts (l) : elemsOk (es cInts l) 1 = true := elemsOk_es _ _ (fun _ => by simp) _
def zeroSeason : List V := [i64 0, i64 0, i64 0, i64 0, .sl .full 2 [], .sl .full 2 [], .sl .full 5 [], i64 0, i64 0, .sl .full 2 [], .sl .full 2 [], .sl .full 4 [], .sl .full 1 [], .sl .full 1 [], .sl .full 2 []]
def copyCell (n : Season) (d : Nat) (a : List (List Int)) : List V := [i64 n.net.wind.lo, i64 n.net.wind.hi, i64 n.net.cur.lo, i64 n.net.cur.hi, .asl d 112 2 n.net.grips.length 0 n.net.grips.length, .asl d 1112 2 n.net.anch.length 0 n.net.anch.length, .asl d 2112 5 n.net.walls.length 0 n.net.walls.length, i64 n.sea.weight.lo, i64 n.sea.weight.hi, .asl d 160 2 n.sea.places.length 0 n.sea.places.length, .asl d 1160 2 n.sea.boats.length 0 n.sea.boats.length,
    .asl d 224 4 n.skies.length 0 n.skies.length, .asl d 62 1 a.length 0 a.length, .asl d 288 1 n.first.length 0 n.first.length, .asl d 352 2 n.days.length 0 n.days.length]
theorem copyCell_12 (n d a) (h : 12 < (copyCell n d a).length) : (copyCell n d a)[12] = .asl d 62 1 a.length 0 a.length := rfl
theorem copyCell_12' (n d a) : (copyCell n d a)[12]? = some (.asl d 62 1 a.length 0 a.length) := rfl
theorem copyCell_len (n d a) : (copyCell n d a).length = 15 := rfl
theorem copyCell_set (n d a b) : (copyCell n d a).set 12 (.asl d 62 1 b.length 0 b.length) = copyCell n d b := rfl
def copyLoc (n : Season) (d : Nat) (a : List (List Int)) : Ab.Loc := [(16, .cell (season0 n)), (32, .cell zeroSeason), (112, .arr 2 (es cSp n.net.grips)), (1112, .arr 2 (es cAnc n.net.anch)), (2112, .arr 5 (es cWal n.net.walls)),
  (160, .arr 2 (es cSp n.sea.places)), (1160, .arr 2 (es cBoat n.sea.boats)), (224, .arr 4 (es cSky n.skies)), (288, .arr 1 (es cInt n.first)), (352, .arr 2 (es cSp n.days)),
  (48, .cell (copyCell n d a)), (62, .arr 1 (es cInts a))]
set_option maxHeartbeats 4000000 in
theorem e_Copy13_l (n0 : Int) (n1 : Int) (n2 : Int) (n3 : Int) (n4 : List Sp) (n5 : List Anc) (n6 : List Wal) (n7 : Int) (n8 : Int) (n9 : List Sp) (n10 : List Boat) (n11 : List Sky) (n12 : List (List Int)) (n13 : List Int) (n14 : List Sp) (hs : ShortC (⟨⟨⟨n0, n1⟩, ⟨n2, n3⟩, n4, n5, n6⟩, ⟨⟨n7, n8⟩, n9, n10⟩, n11, n12, n13, n14⟩ : Season)) (s : Stk) :
    Run T b13l0 [(1, .ptr s.length 16 0), (2, .ptr s.length 32 0), (3, .ptr s.length 48 0), (4, i64 0)] (copyLoc (⟨⟨⟨n0, n1⟩, ⟨n2, n3⟩, n4, n5, n6⟩, ⟨⟨n7, n8⟩, n9, n10⟩, n11, n12, n13, n14⟩ : Season) s.length [] :: s) =
      some (.exit 0, [(1, .ptr s.length 16 0), (2, .ptr s.length 32 0), (3, .ptr s.length 48 0), (4, i64 n12.length), (28, .bool false)], copyLoc (⟨⟨⟨n0, n1⟩, ⟨n2, n3⟩, n4, n5, n6⟩, ⟨⟨n7, n8⟩, n9, n10⟩, n11, n12, n13, n14⟩ : Season) s.length n12 :: s) := by
  obtain ⟨h1, h2, h3, h4, h5, h6, h7, h8, h9, h10⟩ := hs
  simp only at h1 h2 h3 h4 h5 h6 h7 h8 h9 h10
  have key := loop_fold (T := T) (live := [1, 2, 3, 4]) (keep := [16, 32, 48, 62, 112, 160, 224, 288, 352, 1112, 1160, 2112, 2160, 3112, 3160, 4112, 4160, 5112, 5160, 6112, 6160, 7112, 7160, 8112, 8160]) (b := ( .seq ( .seq ( .region false [ ⟨(some 24), .mv (.t 4), none, [], []⟩, ⟨(some 25), .faddr 12 (.t 1), none, [], []⟩, ⟨(some 26), .load none (.t 25), none, [], []⟩, ⟨(some 27), .len (.t 26), none, [], []⟩, ⟨(some 28), .bin .lss (.t 24) (.t 27), none, [], []⟩] [1, 2, 3, 4, 28]) ( .cond (.t 28) ( .skip) ( .exit 0))) ( .seq ( .block 1 ( .region true (spl [ ⟨(some 31), .faddr 12 (.t 3), none, [], []⟩, ⟨(some 32), .load none (.t 31), none, [0], []⟩, ⟨(some 33), .lit [(i64 0)] 0 [], none, [], []⟩, ⟨(some 34), .faddr 12 (.t 1), none, [], []⟩, ⟨(some 35), .load none (.t 34), none, [3], []⟩, ⟨(some 36), .mv (.t 4), none, [], []⟩, ⟨(some 37), .idxs 1 (.t 35) (.t 36), none, [4, 5, 3], []⟩, ⟨(some 38), .load none (.t 37), none, [6, 4, 5, 3], []⟩, ⟨(some 39), .app 1 8 (.t 33) (.t 38), none, [2, 7, 6, 4, 5, 3], []⟩, ⟨(some 40), .lit [(.sl .full 1 [])] 1 [(0, (.t 39))], none, [8, 2, 7, 6, 4, 5, 3], []⟩] [ ⟨(some 41), .app 1 24 (.t 32) (.t 40), none, [1, 9, 0, 8, 2, 7, 6, 4, 5, 3], []⟩, ⟨(some 42), .faddr 12 (.t 3), none, [10, 1, 9, 0, 8, 2, 7, 6, 4, 5, 3], []⟩, ⟨none, .store 1 (.t 42) (.t 41), none, [11, 10, 1, 9, 0, 8, 2, 7, 6, 4, 5, 3], []⟩]) [1, 2, 3, 4])) ( .region false [ ⟨(some 29), .mv (.t 4), none, [], []⟩, ⟨(some 30), .bin .add (.t 29) (.c (i64 1)), none, [], []⟩, ⟨(some 4), .mv (.t 30), none, [], []⟩] [1, 2, 3, 4])))) n12 (fun k (a : List (List Int)) => a.length = k) (fun a x => a ++ [x])
    (fun k _ => [(1, .ptr s.length 16 0), (2, .ptr s.length 32 0), (3, .ptr s.length 48 0), (4, i64 k)]) (fun _ a => copyLoc (⟨⟨⟨n0, n1⟩, ⟨n2, n3⟩, n4, n5, n6⟩, ⟨⟨n7, n8⟩, n9, n10⟩, n11, n12, n13, n14⟩ : Season) s.length a :: s)
    (fun a => (.exit 0, [(1, .ptr s.length 16 0), (2, .ptr s.length 32 0), (3, .ptr s.length 48 0), (4, i64 n12.length), (28, .bool false)], copyLoc (⟨⟨⟨n0, n1⟩, ⟨n2, n3⟩, n4, n5, n6⟩, ⟨⟨n7, n8⟩, n9, n10⟩, n11, n12, n13, n14⟩ : Season) s.length a :: s))
    (by simp) ?_ ?_ ?_ [] (by simp) [(1, .ptr s.length 16 0), (2, .ptr s.length 32 0), (3, .ptr s.length 48 0), (4, i64 0)] (copyLoc (⟨⟨⟨n0, n1⟩, ⟨n2, n3⟩, n4, n5, n6⟩, ⟨⟨n7, n8⟩, n9, n10⟩, n11, n12, n13, n14⟩ : Season) s.length [] :: s) (by simp) (by simp [copyLoc, zeroSeason, season0, copyCell])
  · have e : ∀ (l a : List (List Int)), l.foldl (fun a x => a ++ [x]) a = a ++ l := by
      intro l
      induction l with
      | nil => simp
      | cons x r ih => intro a; simp [ih]
    rw [e, List.nil_append] at key
    exact key
  · intro k a hk hi
    subst hi
    have hx := h10 n12[a.length] (List.getElem_mem hk)
    have hcl : Loc.ren (dropR s.length ((copyLoc (⟨⟨⟨n0, n1⟩, ⟨n2, n3⟩, n4, n5, n6⟩, ⟨⟨n7, n8⟩, n9, n10⟩, n11, n12, n13, n14⟩ : Season) s.length a).map (·.1))) (copyLoc (⟨⟨⟨n0, n1⟩, ⟨n2, n3⟩, n4, n5, n6⟩, ⟨⟨n7, n8⟩, n9, n10⟩, n11, n12, n13, n14⟩ : Season) s.length a) = copyLoc (⟨⟨⟨n0, n1⟩, ⟨n2, n3⟩, n4, n5, n6⟩, ⟨⟨n7, n8⟩, n9, n10⟩, n11, n12, n13, n14⟩ : Season) s.length a := by simp [copyLoc, zeroSeason, season0, copyCell]
    have hcl2 : ∀ m, Loc.ren (dropR s.length (((copyLoc (⟨⟨⟨n0, n1⟩, ⟨n2, n3⟩, n4, n5, n6⟩, ⟨⟨n7, n8⟩, n9, n10⟩, n11, n12, n13, n14⟩ : Season) s.length a).put 624 (.tok m)).map (·.1))) ((copyLoc (⟨⟨⟨n0, n1⟩, ⟨n2, n3⟩, n4, n5, n6⟩, ⟨⟨n7, n8⟩, n9, n10⟩, n11, n12, n13, n14⟩ : Season) s.length a).put 624 (.tok m)) = (copyLoc (⟨⟨⟨n0, n1⟩, ⟨n2, n3⟩, n4, n5, n6⟩, ⟨⟨n7, n8⟩, n9, n10⟩, n11, n12, n13, n14⟩ : Season) s.length a).put 624 (.tok m) := by intro m; simp [copyLoc, zeroSeason, season0, copyCell]
    have m16 : 16 ∈ (copyLoc (⟨⟨⟨n0, n1⟩, ⟨n2, n3⟩, n4, n5, n6⟩, ⟨⟨n7, n8⟩, n9, n10⟩, n11, n12, n13, n14⟩ : Season) s.length a).map (·.1) := by simp [copyLoc]
    have m48 : 48 ∈ (copyLoc (⟨⟨⟨n0, n1⟩, ⟨n2, n3⟩, n4, n5, n6⟩, ⟨⟨n7, n8⟩, n9, n10⟩, n11, n12, n13, n14⟩ : Season) s.length a).map (·.1) := by simp [copyLoc]
    have m62 : 62 ∈ (copyLoc (⟨⟨⟨n0, n1⟩, ⟨n2, n3⟩, n4, n5, n6⟩, ⟨⟨n7, n8⟩, n9, n10⟩, n11, n12, n13, n14⟩ : Season) s.length a).map (·.1) := by simp [copyLoc]
    have g16 : (copyLoc (⟨⟨⟨n0, n1⟩, ⟨n2, n3⟩, n4, n5, n6⟩, ⟨⟨n7, n8⟩, n9, n10⟩, n11, n12, n13, n14⟩ : Season) s.length a).get 16 = some (.cell (season0 (⟨⟨⟨n0, n1⟩, ⟨n2, n3⟩, n4, n5, n6⟩, ⟨⟨n7, n8⟩, n9, n10⟩, n11, n12, n13, n14⟩ : Season))) := rfl
    have g48 : (copyLoc (⟨⟨⟨n0, n1⟩, ⟨n2, n3⟩, n4, n5, n6⟩, ⟨⟨n7, n8⟩, n9, n10⟩, n11, n12, n13, n14⟩ : Season) s.length a).get 48 = some (.cell (copyCell (⟨⟨⟨n0, n1⟩, ⟨n2, n3⟩, n4, n5, n6⟩, ⟨⟨n7, n8⟩, n9, n10⟩, n11, n12, n13, n14⟩ : Season) s.length a)) := rfl
    have n624 : ¬ 624 ∈ (copyLoc (⟨⟨⟨n0, n1⟩, ⟨n2, n3⟩, n4, n5, n6⟩, ⟨⟨n7, n8⟩, n9, n10⟩, n11, n12, n13, n14⟩ : Season) s.length a).map (·.1) := by simp [copyLoc]
    have g62 : (copyLoc (⟨⟨⟨n0, n1⟩, ⟨n2, n3⟩, n4, n5, n6⟩, ⟨⟨n7, n8⟩, n9, n10⟩, n11, n12, n13, n14⟩ : Season) s.length a).get 62 = some (.arr 1 (es cInts a)) := rfl
    have g624 : (copyLoc (⟨⟨⟨n0, n1⟩, ⟨n2, n3⟩, n4, n5, n6⟩, ⟨⟨n7, n8⟩, n9, n10⟩, n11, n12, n13, n14⟩ : Season) s.length a).get 624 = none := rfl
    by_cases h0 : n12[a.length] = []
    · have e0 : es cInts a ++ [[.sl .no 1 []]] = es cInts (a ++ [[]]) := es_ints1 a []
      generalize hF : copyLoc (⟨⟨⟨n0, n1⟩, ⟨n2, n3⟩, n4, n5, n6⟩, ⟨⟨n7, n8⟩, n9, n10⟩, n11, n12, n13, n14⟩ : Season) s.length a = F at *
      simp (maxSteps := 1000000) (disch := first | omega | assumption | decide +kernel | (simp; done) | (simp; omega) | fail) [run_drawnK, hk, h0, e0, appD_full_nil, appA_one, hcl, hcl2, m16, m48, m62, g16, g48, g62, g624, filter_tt, copyCell_12, copyCell_12', copyCell_len, copyCell_set, n624, season0, wk a.length (by omega)]
      subst hF
      simp [copyLoc, zeroSeason, season0, copyCell]
    · have he : es cInt n12[a.length] ≠ [] := by simpa using h0
      generalize hF : copyLoc (⟨⟨⟨n0, n1⟩, ⟨n2, n3⟩, n4, n5, n6⟩, ⟨⟨n7, n8⟩, n9, n10⟩, n11, n12, n13, n14⟩ : Season) s.length a = F at *
      simp (maxSteps := 1000000) (disch := first | omega | assumption | decide +kernel | (simp; done) | (simp; omega) | fail) [run_drawnK, hk, appD_full, appA_one, hcl, hcl2, m16, m48, m62, g16, g48, g62, g624, filter_tt, copyCell_12, copyCell_12', copyCell_len, copyCell_set, n624, season0, wk a.length (by omega)]
      subst hF
      simp [copyLoc, zeroSeason, season0, copyCell]
  · intro k a hk hi
    simp [hi]
  · intro a hi
    simp [copyLoc, season0]

/-- a copied season, as the caller has it -/
def copyCells (n : Season) (d lab : Nat) : List V := [i64 n.net.wind.lo, i64 n.net.wind.hi, i64 n.net.cur.lo, i64 n.net.cur.hi, .asl d lab 2 n.net.grips.length 0 n.net.grips.length, .asl d (lab + 1000) 2 n.net.anch.length 0 n.net.anch.length, .asl d (lab + 2000) 5 n.net.walls.length 0 n.net.walls.length, i64 n.sea.weight.lo, i64 n.sea.weight.hi, .asl d (lab + 3000) 2 n.sea.places.length 0 n.sea.places.length, .asl d (lab + 4000) 2 n.sea.boats.length 0 n.sea.boats.length,
    .asl d (lab + 5000) 4 n.skies.length 0 n.skies.length, .asl d (lab + 6000) 1 n.follows.length 0 n.follows.length, .asl d (lab + 7000) 1 n.first.length 0 n.first.length, .asl d (lab + 8000) 2 n.days.length 0 n.days.length]
set_option maxHeartbeats 4000000 in
theorem e_Copy13 (n0 : Int) (n1 : Int) (n2 : Int) (n3 : Int) (n4 : List Sp) (n5 : List Anc) (n6 : List Wal) (n7 : Int) (n8 : Int) (n9 : List Sp) (n10 : List Boat) (n11 : List Sky) (n12 : List (List Int)) (n13 : List Int) (n14 : List Sp) (hs : ShortC (⟨⟨⟨n0, n1⟩, ⟨n2, n3⟩, n4, n5, n6⟩, ⟨⟨n7, n8⟩, n9, n10⟩, n11, n12, n13, n14⟩ : Season)) (lab) (loc : Ab.Loc) (s : Stk) (k0 : loc.get lab = none) (k1 : loc.get (lab + 1000) = none) (k2 : loc.get (lab + 2000) = none) (k3 : loc.get (lab + 3000) = none) (k4 : loc.get (lab + 4000) = none) (k5 : loc.get (lab + 5000) = none) (k6 : loc.get (lab + 6000) = none) (k7 : loc.get (lab + 7000) = none) (k8 : loc.get (lab + 8000) = none) :
    den T 13 [.agg [i64 n0, i64 n1, i64 n2, i64 n3, .sl .no 2 (es cSp n4), .sl .no 2 (es cAnc n5), .sl .no 5 (es cWal n6), i64 n7, i64 n8, .sl .no 2 (es cSp n9), .sl .no 2 (es cBoat n10), .sl .no 4 (es cSky n11), .sl .no 1 (es cInts n12), .sl .no 1 (es cInt n13), .sl .no 2 (es cSp n14)]] lab (loc :: s) = some (.agg (copyCells (⟨⟨⟨n0, n1⟩, ⟨n2, n3⟩, n4, n5, n6⟩, ⟨⟨n7, n8⟩, n9, n10⟩, n11, n12, n13, n14⟩ : Season) s.length lab), ((((((((loc.put lab (.arr 2 (es cSp n4))).put (lab + 1000) (.arr 2 (es cAnc n5))).put (lab + 2000) (.arr 5 (es cWal n6))).put (lab + 3000) (.arr 2 (es cSp n9))).put (lab + 4000) (.arr 2 (es cBoat n10))).put (lab + 5000) (.arr 4 (es cSky n11))).put (lab + 6000) (.arr 1 (es cInts n12))).put (lab + 7000) (.arr 1 (es cInt n13))).put (lab + 8000) (.arr 2 (es cSp n14)) :: s) := by
  have key := e_Copy13_l n0 n1 n2 n3 n4 n5 n6 n7 n8 n9 n10 n11 n12 n13 n14 hs (loc :: s)
  obtain ⟨h1, h2, h3, h4, h5, h6, h7, h8, h9, h10⟩ := hs
  simp only at h1 h2 h3 h4 h5 h6 h7 h8 h9 h10
  simp only [copyLoc, copyCell, zeroSeason, season0, List.length_cons, es_nil, List.length_nil] at key
  rw [den_fn t13 _ _ _ rfl]
  simp only [b13]
  simp (maxSteps := 6000000) (disch := first | omega | assumption | decide +kernel | (simp; done) | (simp; omega) | fail) [run_drawnK, appmD_es, key, k0, k1, k2, k3, k4, k5, k6, k7, k8, copyCells]
end Go.Proofs.Ytekgicoibcgecaa

/-
  law13: all, worse.
-/
namespace Go.Proofs.Ytekgicoibcgecaa
open Go.Ab

theorem lawBest_ok {n : Season} (hok : seasonOk n = true) : lawBest n = bestS n := by
  have hf := (first_ok hok).2
  have h1 : 0 ≤ bestS n := leastL_ge _ _ 2000 (fun x hx => (worthS_range hok n.days.length x (Nat.le_refl _) (hf x hx).1 (hf x hx).2).1) (by omega)
  have h2 : bestS n ≤ 2000 := leastL_le0 _ _ _
  simp only [lawBest, bestR, hok, if_true]
  rw [if_pos ⟨trivial, h1, h2⟩]

/-- the worths of one day -/
def dayL (n : Season) (day : Nat) : List Int := (List.range n.skies.length).map fun (k : Nat) => worthS n (n.days.length - day) (k : Int)
/-- all worths -/
def allS (n : Season) : List Int := (List.range n.days.length).flatMap (dayL n)
theorem dayL_len (n : Season) (day : Nat) : (dayL n day).length = n.skies.length := by simp [dayL]
theorem flat_len {α β : Type} (f : α → List β) (m : Nat) : ∀ l : List α, (∀ x ∈ l, (f x).length = m) → (l.flatMap f).length = l.length * m
  | [], _ => by simp
  | x :: l, h => by
    rw [List.flatMap_cons, List.length_append, h x (by simp), flat_len f m l (fun y hy => h y (by simp [hy])), List.length_cons]
    have : (l.length + 1) * m = l.length * m + m := by rw [Nat.add_mul, Nat.one_mul]
    omega
theorem flat1 {α β : Type} (f : α → β) : ∀ l : List α, (l.flatMap fun x => [f x]) = l.map f
  | [] => rfl
  | x :: l => by rw [List.flatMap_cons, flat1 f l]; rfl
theorem foldl_app {α β : Type} (f : α → List β) : ∀ (l : List α) (a : List β), l.foldl (fun a x => a ++ f x) a = a ++ l.flatMap f
  | [], a => by simp
  | x :: l, a => by rw [List.foldl_cons, foldl_app f l, List.flatMap_cons, List.append_assoc]

theorem all_l1 (n : Season) (hs : Short n) (hok : seasonOk n = true) (day : Nat) (hd : day < n.days.length) (a : List Int) (ha : a.length < 1000) (s : Stk) :
    Run T b25l1 [(1, .ptr s.length 16 0), (4, .sl (.own s.length 65) 1 (es cInt a)), (5, i64 day), (6, i64 0)] ([(16, .cell (season0 n)), (65, .tok a.length)] :: s) =
      some (.exit 2, [(1, .ptr s.length 16 0), (4, .sl (.own s.length 65) 1 (es cInt (a ++ dayL n day))), (5, i64 day), (6, i64 n.skies.length), (19, .bool false)], [(16, .cell (season0 n)), (65, .tok (a ++ dayL n day).length)] :: s) := by
  obtain ⟨_, _, q3, q4, q5, _, q7, _, _⟩ := seasonOk_iff.1 hok
  have hw := fun (day sky : Int) lab s => e_worth13law n.net.wind.lo n.net.wind.hi n.net.cur.lo n.net.cur.hi n.net.grips n.net.anch n.net.walls n.sea.weight.lo n.sea.weight.hi n.sea.places n.sea.boats n.skies n.follows n.first n.days hs day sky lab s
  have key := loop_fold (T := T) (live := [1, 4, 5, 6]) (keep := [16, 65]) (b := ( .seq ( .seq ( .region false [ ⟨(some 15), .mv (.t 6), none, [], []⟩, ⟨(some 16), .faddr 11 (.t 1), none, [], []⟩, ⟨(some 17), .load none (.t 16), none, [], []⟩, ⟨(some 18), .len (.t 17), none, [], []⟩, ⟨(some 19), .bin .lss (.t 15) (.t 18), none, [], []⟩] [1, 4, 5, 6, 19]) ( .cond (.t 19) ( .skip) ( .exit 2))) ( .seq ( .block 3 ( .seq ( .region false [ ⟨(some 22), .load (some 15) (.t 1), none, [], []⟩, ⟨(some 23), .mv (.t 5), none, [], []⟩, ⟨(some 24), .mv (.t 6), none, [], []⟩, ⟨(some 25), .call 23 [(.t 22), (.t 23), (.t 24)], none, [], []⟩, ⟨(some 7), .mv (.t 25), none, [], []⟩] [1, 4, 5, 6, 7]) ( .seq ( .seq ( .region false [ ⟨(some 26), .mv (.t 7), none, [], []⟩, ⟨(some 27), .bin .lss (.t 26) (.c (i64 0)), none, [], []⟩] [1, 4, 5, 6, 7, 27]) ( .cond (.t 27) ( .seq ( .region false [ ⟨(some 2), .mv (.c (.sl .full 1 [])), none, [], []⟩, ⟨(some 3), .mv (.c (.bool false)), none, [], []⟩] [2, 3]) ( .ret)) ( .skip))) ( .region false [ ⟨(some 28), .mv (.t 4), none, [], []⟩, ⟨(some 29), .mv (.t 7), none, [], []⟩, ⟨(some 30), .lit [(i64 0)] 1 [(0, (.t 29))], none, [], []⟩, ⟨(some 31), .app 1 8 (.t 28) (.t 30), none, [], []⟩, ⟨(some 4), .mv (.t 31), none, [], []⟩] [1, 4, 5, 6])))) ( .region false [ ⟨(some 20), .mv (.t 6), none, [], []⟩, ⟨(some 21), .bin .add (.t 20) (.c (i64 1)), none, [], []⟩, ⟨(some 6), .mv (.t 21), none, [], []⟩] [1, 4, 5, 6])))) (List.range n.skies.length) (fun k (b : List Int) => b.length = a.length + k) (fun b k => b ++ [worthS n (n.days.length - day) (k : Int)])
    (fun k b => [(1, .ptr s.length 16 0), (4, .sl (.own s.length 65) 1 (es cInt b)), (5, i64 day), (6, i64 k)]) (fun _ b => [(16, .cell (season0 n)), (65, .tok b.length)] :: s)
    (fun b => (.exit 2, [(1, .ptr s.length 16 0), (4, .sl (.own s.length 65) 1 (es cInt b)), (5, i64 day), (6, i64 n.skies.length), (19, .bool false)], [(16, .cell (season0 n)), (65, .tok b.length)] :: s))
    (by simp) ?_ ?_ ?_ a (by simp) [(1, .ptr s.length 16 0), (4, .sl (.own s.length 65) 1 (es cInt a)), (5, i64 day), (6, i64 0)] ([(16, .cell (season0 n)), (65, .tok a.length)] :: s) (by simp) (by simp [season0])
  · rw [foldl_app (fun k : Nat => [worthS n (n.days.length - day) (k : Int)])] at key
    have e : (List.range n.skies.length).flatMap (fun k : Nat => [worthS n (n.days.length - day) (k : Int)]) = dayL n day := flat1 _ _
    rw [e] at key
    exact key
  · intro k b hk hi
    simp only [List.length_range] at hk
    simp only [List.getElem_range]
    have hv : lawWorth n day k = worthS n (n.days.length - day) k := lawWorth_ok hok hd (by omega) (by omega)
    have hr := (worthS_range hok (n.days.length - day) k (by omega) (by omega) (by omega)).1
    have hw2 := hw day k
    change ∀ lab s, den T _ _ lab s = some (i64 (lawWorth n day k), s) at hw2
    rw [hv] at hw2
    have hr2 : ¬ worthS n (n.days.length - day) k < 0 := by omega
    simp (maxSteps := 1000000) (disch := first | omega | assumption | decide +kernel | (simp; done) | (simp; omega) | fail) [hk, hw2, hr2, appK_own1, season0, wk k (by omega)]
  · intro k b hk hi
    simp; omega
  · intro b hi
    simp [season0]
theorem all_l0 (n : Season) (hs : Short n) (hok : seasonOk n = true) (s : Stk) :
    Run T b25l0 [(4, .sl (.own s.length 65) 1 []), (1, .ptr s.length 16 0), (4, .sl .full 1 []), (5, i64 0)] ([(16, .cell (season0 n)), (65, .tok 0)] :: s) =
      some (.exit 0, [(1, .ptr s.length 16 0), (4, .sl (.own s.length 65) 1 (es cInt (allS n))), (5, i64 n.days.length), (12, .bool false)], [(16, .cell (season0 n)), (65, .tok (allS n).length)] :: s) := by
  obtain ⟨_, _, q3, q4, q5, _, q7, _, _⟩ := seasonOk_iff.1 hok
  have key := loop_fold (T := T) (live := [1, 4, 5]) (keep := [16, 65]) (b := ( .seq ( .seq ( .region false [ ⟨(some 8), .mv (.t 5), none, [], []⟩, ⟨(some 9), .faddr 14 (.t 1), none, [], []⟩, ⟨(some 10), .load none (.t 9), none, [], []⟩, ⟨(some 11), .len (.t 10), none, [], []⟩, ⟨(some 12), .bin .lss (.t 8) (.t 11), none, [], []⟩] [1, 4, 5, 12]) ( .cond (.t 12) ( .skip) ( .exit 0))) ( .seq ( .block 1 ( .seq ( .region false [ ⟨(some 6), .mv (.c (i64 0)), none, [], []⟩] [1, 4, 5, 6]) ( .block 2 ( b25l1)))) ( .region false [ ⟨(some 13), .mv (.t 5), none, [], []⟩, ⟨(some 14), .bin .add (.t 13) (.c (i64 1)), none, [], []⟩, ⟨(some 5), .mv (.t 14), none, [], []⟩] [1, 4, 5])))) (List.range n.days.length) (fun k (b : List Int) => b.length = k * n.skies.length) (fun b k => b ++ dayL n k)
    (fun k b => [(1, .ptr s.length 16 0), (4, .sl (.own s.length 65) 1 (es cInt b)), (5, i64 k)]) (fun _ b => [(16, .cell (season0 n)), (65, .tok b.length)] :: s)
    (fun b => (.exit 0, [(1, .ptr s.length 16 0), (4, .sl (.own s.length 65) 1 (es cInt b)), (5, i64 n.days.length), (12, .bool false)], [(16, .cell (season0 n)), (65, .tok b.length)] :: s))
    (by simp) ?_ ?_ ?_ [] (by simp) [(4, .sl (.own s.length 65) 1 []), (1, .ptr s.length 16 0), (4, .sl .full 1 []), (5, i64 0)] ([(16, .cell (season0 n)), (65, .tok 0)] :: s) (by simp) (by simp [season0])
  · rw [foldl_app (dayL n), List.nil_append] at key
    exact key
  · intro k b hk hi
    simp only [List.length_range] at hk
    simp only [List.getElem_range]
    have hb : b.length < 1000 := by
      have : k * n.skies.length ≤ 5 * 4 := Nat.mul_le_mul (by omega) q4
      omega
    have h1 := all_l1 n hs hok k hk b hb s
    simp only [season0] at h1
    simp (maxSteps := 1000000) (disch := first | omega | assumption | decide +kernel | (simp; done) | (simp; omega) | fail) [hk, h1, season0, wk k (by omega)]
  · intro k b hk hi
    simp only [List.length_append, List.getElem_range, dayL_len]
    have : (k + 1) * n.skies.length = k * n.skies.length + n.skies.length := by rw [Nat.add_mul, Nat.one_mul]
    omega
  · intro b hi
    simp [season0]
theorem e_all (n : Season) (hs : Short n) (hok : seasonOk n = true) (lab s) : den T 25 [.agg (season0 n)] lab s = some (.tup [.sl .no 1 (es cInt (allS n)), .bool true], s) := by
  have key := all_l0 n hs hok s
  rw [den_fn t25 _ _ _ rfl]
  simp only [b25]
  simp only [season0] at key ⊢
  simp (maxSteps := 1000000) (disch := first | omega | assumption | decide +kernel | (simp; done) | (simp; omega) | fail) [key]

/-- no number of the one is greater than that of the other -/
def leL : List Int → List Int → Prop
  | [], _ => True
  | _ :: _, [] => False
  | x :: k, y :: l => x ≤ y ∧ leL k l
theorem leL_app : ∀ {a b c d : List Int}, a.length = b.length → leL a b → leL c d → leL (a ++ c) (b ++ d)
  | [], [], _, _, _, _, h => h
  | x :: a, y :: b, c, d, hl, h1, h2 => ⟨h1.1, leL_app (by simpa using hl) h1.2 h2⟩
theorem leL_get : ∀ {k l : List Int}, leL k l → k.length ≤ l.length ∧ ∀ (i : Nat) (h1 : i < k.length) (h2 : i < l.length), k[i] ≤ l[i]
  | [], l, _ => ⟨by simp, fun i h => by simp at h⟩
  | x :: k, [], h => by cases h
  | x :: k, y :: l, h => by
    obtain ⟨a, b⟩ := leL_get h.2
    refine ⟨by simp only [List.length_cons]; omega, fun i h1 h2 => ?_⟩
    cases i with
    | zero => exact h.1
    | succ i => exact b i (by simpa using h1) (by simpa using h2)
theorem leL_map (f g : Nat → Int) : ∀ l : List Nat, (∀ x ∈ l, f x ≤ g x) → leL (l.map f) (l.map g)
  | [], _ => trivial
  | x :: l, h => ⟨h x (by simp), leL_map f g l fun y hy => h y (by simp [hy])⟩
theorem leL_flat (f g : Nat → List Int) : ∀ l : List Nat, (∀ x ∈ l, (f x).length = (g x).length ∧ leL (f x) (g x)) → leL (l.flatMap f) (l.flatMap g)
  | [], _ => trivial
  | x :: l, h => leL_app (h x (by simp)).1 (h x (by simp)).2 (leL_flat f g l fun y hy => h y (by simp [hy]))
theorem leL_more : ∀ {a b c : List Int}, leL a b → leL a (b ++ c)
  | [], _, _, _ => trivial
  | _ :: _, [], _, h => by cases h
  | _ :: _, _ :: _, _, h => ⟨h.1, leL_more h.2⟩

/-- what 'worse' asks -/
structure Worse (n o : Season) : Prop where
  skies : n.skies.length = o.skies.length
  days : n.days.length ≤ o.days.length
  le : ∀ day sky : Nat, day < n.days.length → sky < n.skies.length → worthS n (n.days.length - day) sky ≤ worthS o (o.days.length - day) sky
  best : bestS n ≤ bestS o
theorem Worse.all {n o : Season} (h : Worse n o) : leL (allS n) (allS o) := by
  have e : List.range o.days.length = List.range n.days.length ++ (List.range (o.days.length - n.days.length)).map (n.days.length + ·) := by
    have := List.range_add (n := n.days.length) (m := o.days.length - n.days.length)
    rw [show n.days.length + (o.days.length - n.days.length) = o.days.length by have := h.days; omega] at this
    exact this
  rw [allS, allS, e, List.flatMap_append]
  refine leL_more (leL_flat _ _ _ fun day hd => ⟨by rw [dayL_len, dayL_len, h.skies], ?_⟩)
  rw [dayL, dayL, ← h.skies]
  exact leL_map _ _ _ fun sky hk => h.le day sky (List.mem_range.1 hd) (List.mem_range.1 hk)

set_option maxHeartbeats 1000000 in
theorem e_worse (n o : Season) (hs : Short n) (hs2 : Short o) (hok : seasonOk n = true) (hok2 : seasonOk o = true) (h : Worse n o) (lab s) : den T 15 [.agg (season0 n), .agg (season0 o)] lab s = some (.bool true, s) := by
  have h1 := fun lab s => e_all n hs hok lab s
  have h2 := fun lab s => e_all o hs2 hok2 lab s
  have h3 := fun lab s => e_best13law n.net.wind.lo n.net.wind.hi n.net.cur.lo n.net.cur.hi n.net.grips n.net.anch n.net.walls n.sea.weight.lo n.sea.weight.hi n.sea.places n.sea.boats n.skies n.follows n.first n.days hs lab s
  have h4 := fun lab s => e_best13law o.net.wind.lo o.net.wind.hi o.net.cur.lo o.net.cur.hi o.net.grips o.net.anch o.net.walls o.sea.weight.lo o.sea.weight.hi o.sea.places o.sea.boats o.skies o.follows o.first o.days hs2 lab s
  change ∀ lab s, den T _ [.agg (season0 n)] lab s = some (i64 (lawBest n), s) at h3
  change ∀ lab s, den T _ [.agg (season0 o)] lab s = some (i64 (lawBest o), s) at h4
  rw [lawBest_ok hok] at h3
  rw [lawBest_ok hok2] at h4
  have hb : 0 ≤ bestS n := leastL_ge _ _ 2000 (fun x hx => (worthS_range hok n.days.length x (Nat.le_refl _) ((first_ok hok).2 x hx).1 ((first_ok hok).2 x hx).2).1) (by omega)
  have hb1 : ¬ bestS n < 0 := by omega
  have hb2 : ¬ bestS o < bestS n := by have := h.best; omega
  obtain ⟨a1, a2⟩ := leL_get h.all
  have a3 : ¬ ((allS o).length : Int) < (allS n).length := by omega
  have b1 : (allS n).length < 1000 := by
    obtain ⟨_, _, q3, q4, q5, _, q7, _, _⟩ := seasonOk_iff.1 hok
    have := flat_len (dayL n) n.skies.length (List.range n.days.length) (fun x _ => dayL_len n x)
    rw [List.length_range] at this
    rw [allS, this]
    have : n.days.length * n.skies.length ≤ 5 * 4 := Nat.mul_le_mul (by omega) q4
    omega
  generalize allS n = k at *
  generalize allS o = l at *
  have key := loop_fold (T := T) (live := [5, 7, 11]) (keep := [32, 48, 224, 304, 368, 400]) (b := ( .seq ( .seq ( .region false [ ⟨(some 48), .mv (.t 11), none, [], []⟩, ⟨(some 49), .mv (.t 5), none, [], []⟩, ⟨(some 50), .len (.t 49), none, [], []⟩, ⟨(some 51), .bin .lss (.t 48) (.t 50), none, [], []⟩] [5, 7, 11, 51]) ( .cond (.t 51) ( .skip) ( .exit 0))) ( .seq ( .block 1 ( .seq ( .region true (spl [ ⟨(some 54), .mv (.t 5), none, [], []⟩, ⟨(some 55), .mv (.t 11), none, [], []⟩, ⟨(some 56), .idxs 1 (.t 54) (.t 55), none, [0, 1], []⟩, ⟨(some 57), .load none (.t 56), none, [2, 0, 1], []⟩, ⟨(some 58), .mv (.t 7), none, [], []⟩, ⟨(some 59), .mv (.t 11), none, [], []⟩, ⟨(some 60), .idxs 1 (.t 58) (.t 59), none, [4, 5], []⟩, ⟨(some 61), .load none (.t 60), none, [6, 4, 5], []⟩] [ ⟨(some 62), .bin .gtr (.t 57) (.t 61), none, [3, 7, 2, 0, 1, 6, 4, 5], []⟩]) [5, 7, 11, 62]) ( .cond (.t 62) ( .seq ( .region false [ ⟨(some 4), .mv (.c (.bool false)), none, [], []⟩] [4]) ( .ret)) ( .skip)))) ( .region false [ ⟨(some 52), .mv (.t 11), none, [], []⟩, ⟨(some 53), .bin .add (.t 52) (.c (i64 1)), none, [], []⟩, ⟨(some 11), .mv (.t 53), none, [], []⟩] [5, 7, 11])))) (List.range k.length) (fun _ (_ : Unit) => True) (fun _ _ => ())
    (fun i _ => [(5, .sl .no 1 (es cInt k)), (7, .sl .no 1 (es cInt l)), (11, i64 i)]) (fun _ _ => [(32, .cell (season0 n)), (48, .cell (season0 o))] :: s)
    (fun _ => (.exit 0, [(5, .sl .no 1 (es cInt k)), (7, .sl .no 1 (es cInt l)), (11, i64 k.length), (51, .bool false)], [(32, .cell (season0 n)), (48, .cell (season0 o))] :: s))
    (by simp) ?_ (by simp) (by intro a _; simp) () trivial [(5, .sl .no 1 (es cInt k)), (7, .sl .no 1 (es cInt l)), (11, i64 0)] ([(32, .cell (season0 n)), (48, .cell (season0 o))] :: s) (by simp) (by simp [season0])
  · change Run T b15l0 _ _ = _ at key
    rw [den_fn t15 _ _ _ rfl]
    simp only [b15]
    simp only [season0] at key h1 h2 h3 h4 ⊢
    simp (maxSteps := 1000000) (disch := first | omega | assumption | decide +kernel | (simp; done) | (simp; omega) | fail) [run_drawnK, h1, h2, h3, h4, hb1, hb2, a3, key]
  · intro i a hi _
    simp only [List.length_range] at hi
    have hi2 : i < l.length := by omega
    have hc := a2 i hi hi2
    have hc2 : ¬ l[i] < k[i] := by omega
    simp (maxSteps := 1000000) (disch := first | omega | assumption | decide +kernel | (simp; done) | (simp; omega) | fail) [run_drawnK, hi, hi2, hc2, season0, wk i (by omega)]
end Go.Proofs.Ytekgicoibcgecaa

/-
  When no worth is greater; SkiesDay.
-/
namespace Go.Proofs.Ytekgicoibcgecaa
open Go.Ab

theorem held_shortC {m : Season} (h : Held Reach m) : ShortC m := by
  obtain ⟨h1, h2, h3, h4, h5, h6, h7, h8, h9, h10⟩ := h
  simp only [Reach, bytes23, bytes97, bytes99, bytes87, bytes45, bytes34, bytes3, reachBytes] at h1 h2 h3 h4 h5 h6 h7 h8 h9 h10
  exact ⟨by omega, by omega, by omega, by omega, by omega, by omega, by omega, by omega, by omega, fun l hl => by have := h10 l hl; omega⟩
@[simp] theorem frzE_tok (l e loc r n) : frzE l e loc r (some (.tok n)) = (e, loc :: r) := rfl
theorem leastL_le (f : Int → Int) {l : List Int} {x : Int} (hx : x ∈ l) : leastL f l ≤ f x := by
  have : ∀ (l : List Int) (a : Int), x ∈ l → l.foldl (fun a x => min a (f x)) a ≤ f x := by
    intro l
    induction l with
    | nil => intro a h; cases h
    | cons y l ih =>
      intro a h
      simp only [List.foldl_cons]
      rcases List.mem_cons.1 h with rfl | h
      · have := leastL_le0 f l (min a (f x)); omega
      · exact ih _ h
  exact this l 2000 hx
theorem leastL_ge' (g : Int → Int) (b : Int) (hb : b ≤ 2000) {l : List Int} (h : ∀ x ∈ l, b ≤ g x) : b ≤ leastL g l := by
  have : ∀ (l : List Int) (a : Int), b ≤ a → (∀ x ∈ l, b ≤ g x) → b ≤ l.foldl (fun a x => min a (g x)) a := by
    intro l
    induction l with
    | nil => intro a h _; exact h
    | cons y l ih =>
      intro a h h2
      simp only [List.foldl_cons]
      have := h2 y (by simp)
      exact ih _ (by omega) (fun x hx => h2 x (by simp [hx]))
  exact this l 2000 hb h
theorem leastL_mono {f g : Int → Int} {l l' : List Int} (h : ∀ x ∈ l', x ∈ l ∧ f x ≤ g x) : leastL f l ≤ leastL g l' :=
  leastL_ge' g _ (leastL_le0 f l 2000) fun x hx => Int.le_trans (leastL_le f (h x hx).1) (h x hx).2

/-- what makes no worth greater -/
theorem worth_mono {n o : Season} (hn : seasonOk n = true) (ho : seasonOk o = true) (hsk : n.skies.length = o.skies.length) (c : Nat) (hD : n.days.length + c = o.days.length)
    (hfol : ∀ k : Nat, k < n.skies.length → ∀ y : Int, y ∈ o.follows.getD k [] → y ∈ n.follows.getD k [])
    (hmay : ∀ d k : Nat, d < n.days.length → k < n.skies.length → mayS n d k = true → mayS o d k = true ∧ dayLo n d ≤ dayLo o d) :
    ∀ (r : Nat) (sky : Int), r ≤ n.days.length → 0 ≤ sky → sky < (n.skies.length : Int) → worthS n r sky ≤ worthS o (r + c) sky
  | 0, sky, _, h0, h1 => by
    have := (worthS_range ho c sky (by omega) h0 (by omega)).1
    simpa [worthS] using this
  | r + 1, sky, hr, h0, h1 => by
    obtain ⟨hk2, _, hf⟩ := follows_ok ho (k := sky.toNat) (by omega)
    have hfo : o.follows.getD sky.toNat [] = o.follows[sky.toNat] := by simp [List.getD, hk2]
    have hl : leastL (worthS n r) (n.follows.getD sky.toNat []) ≤ leastL (worthS o (r + c)) (o.follows.getD sky.toNat []) :=
      leastL_mono fun x hx => ⟨hfol _ (by omega) x hx, worth_mono hn ho hsk c hD hfol hmay r x (by omega) (hf x (by rw [hfo] at hx; exact hx)).1 (by have := (hf x (by rw [hfo] at hx; exact hx)).2; omega)⟩
    have hd : n.days.length - (r + 1) = o.days.length - (r + 1 + c) := by omega
    have hm := hmay (n.days.length - (r + 1)) sky.toNat (by omega) (by omega)
    rw [show r + 1 + c = (r + c) + 1 by omega, worthS, worthS, show o.days.length - (r + c + 1) = n.days.length - (r + 1) by omega]
    by_cases h : mayS n (n.days.length - (r + 1)) sky.toNat = true
    · obtain ⟨a, b⟩ := hm h
      simp only [h, a, if_true]
      omega
    · simp only [h, Bool.false_eq_true, if_false]
      split <;> omega
theorem Worse.of {n o : Season} (hn : seasonOk n = true) (ho : seasonOk o = true) (hsk : n.skies.length = o.skies.length) (c : Nat) (hD : n.days.length + c = o.days.length)
    (hfol : ∀ k : Nat, k < n.skies.length → ∀ y : Int, y ∈ o.follows.getD k [] → y ∈ n.follows.getD k []) (hfirst : ∀ y : Int, y ∈ o.first → y ∈ n.first)
    (hmay : ∀ d k : Nat, d < n.days.length → k < n.skies.length → mayS n d k = true → mayS o d k = true ∧ dayLo n d ≤ dayLo o d) : Worse n o where
  skies := hsk
  days := by omega
  le := fun day sky hd hk => by
    have := worth_mono hn ho hsk c hD hfol hmay (n.days.length - day) sky (by omega) (by omega) (by omega)
    rwa [show n.days.length - day + c = o.days.length - day by omega] at this
  best := by
    have hf := (first_ok hn).2
    refine leastL_mono fun x hx => ⟨hfirst x hx, ?_⟩
    have := worth_mono hn ho hsk c hD hfol hmay n.days.length x (Nat.le_refl _) (hf x (hfirst x hx)).1 (hf x (hfirst x hx)).2
    rwa [hD] at this

theorem es_sp1 (l : List Sp) (x y : Int) : es cSp l ++ [[i64 x, i64 y]] = es cSp (l ++ [⟨x, y⟩]) := by simp [es]

theorem worse_day {n : Season} {w : Sp} (hn : seasonOk n = true) (ho : seasonOk { n with days := n.days ++ [w] } = true) : Worse n { n with days := n.days ++ [w] } := by
  refine Worse.of hn ho rfl 1 (by simp) (fun _ _ _ h => h) (fun _ h => h) fun d k hd hk h => ?_
  have e1 : (n.days ++ [w])[d]? = n.days[d]? := List.getElem?_append_left hd
  have e2 : holdS { n with days := n.days ++ [w] } d = holdS n d := by simp only [holdS, e1]
  refine ⟨?_, ?_⟩
  · simp only [mayS] at h ⊢
    rw [e2]
    exact h
  · simp only [dayLo, List.getD, e1]
    exact Int.le_refl _

set_option maxHeartbeats 4000000 in
theorem e_SkiesDay (n0 : Int) (n1 : Int) (n2 : Int) (n3 : Int) (n4 : List Sp) (n5 : List Anc) (n6 : List Wal) (n7 : Int) (n8 : Int) (n9 : List Sp) (n10 : List Boat) (n11 : List Sky) (n12 : List (List Int)) (n13 : List Int) (n14 : List Sp) (hs : ShortC (⟨⟨⟨n0, n1⟩, ⟨n2, n3⟩, n4, n5, n6⟩, ⟨⟨n7, n8⟩, n9, n10⟩, n11, n12, n13, n14⟩ : Season)) (w0 : Int) (w1 : Int) (lab s) : den T 5 [.agg [i64 n0, i64 n1, i64 n2, i64 n3, .sl .no 2 (es cSp n4), .sl .no 2 (es cAnc n5), .sl .no 5 (es cWal n6), i64 n7, i64 n8, .sl .no 2 (es cSp n9), .sl .no 2 (es cBoat n10), .sl .no 4 (es cSky n11), .sl .no 1 (es cInts n12), .sl .no 1 (es cInt n13), .sl .no 2 (es cSp n14)], .agg [i64 w0, i64 w1]] lab s = some (.bool true, s) := by
  have hs1 : Short (⟨⟨⟨n0, n1⟩, ⟨n2, n3⟩, n4, n5, n6⟩, ⟨⟨n7, n8⟩, n9, n10⟩, n11, n12, n13, n14⟩ : Season) := hs.short
  have hs2 : Short ⟨⟨⟨n0, n1⟩, ⟨n2, n3⟩, n4, n5, n6⟩, ⟨⟨n7, n8⟩, n9, n10⟩, n11, n12, n13, n14 ++ [⟨w0, w1⟩]⟩ := by
    obtain ⟨a1, a2, a3, a4, a5, a6, a7, a8⟩ := hs1
    have := hs.days
    exact ⟨a1, a2, a3, a4, a5, a6, by simp only [List.length_append, List.length_singleton] at *; omega, a8⟩
  have hd9 := hs.days
  simp only at hd9
  have hr := fun lab s => e_ready n0 n1 n2 n3 n4 n5 n6 n7 n8 n9 n10 n11 n12 n13 n14 hs1.skies hs1.follows hs1.first hs1.days hs1.each lab s
  have hr2 := fun lab s => e_ready n0 n1 n2 n3 n4 n5 n6 n7 n8 n9 n10 n11 n12 n13 (n14 ++ [⟨w0, w1⟩]) hs2.skies hs2.follows hs2.first hs2.days hs2.each lab s
  have hx := e_works
  have hc := fun lab loc s => e_Copy13 n0 n1 n2 n3 n4 n5 n6 n7 n8 n9 n10 n11 n12 n13 n14 hs lab loc s
  rw [den_fn t5 _ _ _ rfl]
  simp only [b5]
  cases c0 : ready (⟨⟨⟨n0, n1⟩, ⟨n2, n3⟩, n4, n5, n6⟩, ⟨⟨n7, n8⟩, n9, n10⟩, n11, n12, n13, n14⟩ : Season)
  · simp (maxSteps := 6000000) (disch := first | omega | assumption | decide +kernel | (simp; done) | (simp; omega) | fail) [run_drawnK, hc, copyCells, hr, hr2, c0, hx, appK_own1, es_sp1]
  cases c1 : ready ⟨⟨⟨n0, n1⟩, ⟨n2, n3⟩, n4, n5, n6⟩, ⟨⟨n7, n8⟩, n9, n10⟩, n11, n12, n13, n14 ++ [⟨w0, w1⟩]⟩
  · simp (maxSteps := 6000000) (disch := first | omega | assumption | decide +kernel | (simp; done) | (simp; omega) | fail) [run_drawnK, hc, copyCells, hr, hr2, c0, c1, hx, appK_own1, es_sp1]
  have hok : seasonOk (⟨⟨⟨n0, n1⟩, ⟨n2, n3⟩, n4, n5, n6⟩, ⟨⟨n7, n8⟩, n9, n10⟩, n11, n12, n13, n14⟩ : Season) = true := by simp only [ready, Bool.and_eq_true] at c0; exact c0.2
  have hok2 : seasonOk ⟨⟨⟨n0, n1⟩, ⟨n2, n3⟩, n4, n5, n6⟩, ⟨⟨n7, n8⟩, n9, n10⟩, n11, n12, n13, n14 ++ [⟨w0, w1⟩]⟩ = true := by simp only [ready, Bool.and_eq_true] at c1; exact c1.2
  have hw := fun lab s => e_worse _ _ hs1 hs2 hok hok2 (worse_day (n := (⟨⟨⟨n0, n1⟩, ⟨n2, n3⟩, n4, n5, n6⟩, ⟨⟨n7, n8⟩, n9, n10⟩, n11, n12, n13, n14⟩ : Season)) hok hok2) lab s
  simp only [season0] at hw
  simp (maxSteps := 6000000) (disch := first | omega | assumption | decide +kernel | (simp; done) | (simp; omega) | fail) [run_drawnK, hc, copyCells, hr, hr2, c0, c1, hx, hw, appK_own1, es_sp1]
end Go.Proofs.Ytekgicoibcgecaa

/-
  SkiesSame.
-/
namespace Go.Proofs.Ytekgicoibcgecaa
open Go.Ab

def selfs (L : Nat) : List (List Int) := (List.range L).map fun (i : Nat) => [(i : Int)]
def fullF (L : Nat) : List (List V) := (List.range L).map fun (i : Nat) => [.sl .full 1 [[i64 i]]]
@[simp] theorem selfs_len (L : Nat) : (selfs L).length = L := by simp [selfs]
@[simp] theorem selfs_take (L : Nat) : (selfs L).take L = selfs L := List.take_of_length_le (by simp)
@[simp] theorem fullF_len (L : Nat) : (fullF L).length = L := by simp [fullF]
@[simp] theorem strip_fullF (L : Nat) : (fullF L).map V.stripAll = es cInts (selfs L) := by simp [fullF, selfs, es, cInt, Function.comp_def]
theorem map_fullF (r : Ren) (h : r.c .full = .full) (L : Nat) : (fullF L).map (V.mapAll r) = fullF L := by simp [fullF, h, Function.comp_def]
@[simp] theorem map_fullF_d (d keep L) : (fullF L).map (V.mapAll (dropR d keep)) = fullF L := map_fullF _ rfl L
@[simp] theorem map_fullF_f (d k z e L) : (fullF L).map (V.mapAll (frzR d k z e)) = fullF L := map_fullF _ rfl L
theorem fold_set0 {α : Type} (F : Nat → α) (l : List α) : ∀ k, k ≤ l.length → (List.range k).foldl (fun a i => a.set i (F i)) l = (List.range k).map F ++ l.drop k
  | 0, _ => by simp
  | k + 1, h => by
    rw [List.range_succ, List.foldl_append, fold_set0 F l k (by omega), List.map_append, List.foldl_cons, List.foldl_nil]
    rw [List.drop_eq_getElem_cons (show k < l.length by omega), List.set_append_right _ _ (by simp)]
    simp only [List.length_map, List.length_range, Nat.sub_self, List.set_cons_zero, List.append_assoc, List.map_cons, List.map_nil, List.cons_append, List.nil_append]

def sameS (n : Season) : Season := { n with follows := selfs n.follows.length }
theorem sameS_ok {n : Season} (hn : seasonOk n = true) : seasonOk (sameS n) = true := by
  obtain ⟨q1, q2, q3, q4, q5, q6, q7, q8, q9⟩ := seasonOk_iff.1 hn
  refine seasonOk_iff.2 ⟨q1, q2, q3, q4, by simpa [sameS] using q5, q6, q7, ?_, q9⟩
  rw [allB_iff] at q8 ⊢
  intro i hi
  have h := q8 i hi
  have hi2 : i < n.skies.length := List.mem_range.1 hi
  have hi3 : i < n.follows.length := by omega
  have hi4 : i < (sameS n).follows.length := by simpa [sameS] using hi3
  have hi5 : i < (sameS n).skies.length := hi2
  simp only [skyAt, List.getElem?_eq_getElem hi2, List.getElem?_eq_getElem hi3, List.getElem?_eq_getElem hi4, List.getElem?_eq_getElem hi5, Bool.and_eq_true] at h ⊢
  refine ⟨h.1, ?_⟩
  have e : (sameS n).follows[i] = [(i : Int)] := by simp [sameS, selfs]
  rw [e]
  have h1 : within (i : Int) 0 ((n.skies.length : Int) - 1) = true := within_iff.2 ⟨by omega, by omega⟩
  have h2 : (sameS n).skies.length = n.skies.length := rfl
  simp [areSkies, rising, allB, risingAt, h1, h2]
/-- the greatest Low of the last r days that hold -/
def highS (n : Season) : Nat → Int
  | 0 => 0
  | r + 1 => if holdS n (n.days.length - (r + 1)) = 1 then max (highS n r) (dayLo n (n.days.length - (r + 1))) else highS n r
theorem dayLo_range {n : Season} (hn : seasonOk n = true) {d : Nat} (hd : d < n.days.length) : 0 ≤ dayLo n d ∧ dayLo n d ≤ 2000 := by
  have h := spanOk_iff.1 (allB_iff.1 (seasonOk_iff.1 hn).2.2.2.2.2.2.2.2 _ (List.getElem_mem hd))
  simp only [dayLo, List.getD, List.getElem?_eq_getElem hd, Option.getD_some]; omega
theorem highS_range {n : Season} (hn : seasonOk n = true) : ∀ r, r ≤ n.days.length → 0 ≤ highS n r ∧ highS n r ≤ 2000
  | 0, _ => by simp [highS]
  | r + 1, h => by
    have ih := highS_range hn r (by omega)
    have := dayLo_range hn (d := n.days.length - (r + 1)) (by omega)
    simp only [highS]
    split <;> omega
theorem worth_same {n : Season} (hn : seasonOk n = true) : ∀ (r k : Nat), r ≤ n.days.length → k < n.skies.length → worthS (sameS n) r k = if calmS n k = 1 then highS n r else 0
  | 0, k, _, _ => by simp [worthS, highS]
  | r + 1, k, hr, hk => by
    have ih := worth_same hn r k (by omega) hk
    have hrg := highS_range hn r (by omega)
    have hlo := dayLo_range hn (d := n.days.length - (r + 1)) (by omega)
    have hk3 : k < n.follows.length := by have := (seasonOk_iff.1 hn).2.2.2.2.1; omega
    have e : (sameS n).follows.getD k [] = [(k : Int)] := by simp [sameS, selfs, List.getD, hk3]
    have hl : leastL (worthS (sameS n) r) [(k : Int)] = worthS (sameS n) r k := by
      simp only [leastL, List.foldl_cons, List.foldl_nil]
      rw [ih]; split <;> omega
    rw [worthS, Int.toNat_natCast, e, hl, ih]
    have hm : mayS (sameS n) ((sameS n).days.length - (r + 1)) k = (decide (calmS n k = 1) && decide (holdS n (n.days.length - (r + 1)) = 1)) := rfl
    have hd : dayLo (sameS n) ((sameS n).days.length - (r + 1)) = dayLo n (n.days.length - (r + 1)) := rfl
    rw [hm, hd, highS]
    by_cases h1 : calmS n k = 1
    · by_cases h2 : holdS n (n.days.length - (r + 1)) = 1
      · simp [h1, h2]
      · simp [h1, h2]
    · simp [h1]
def highF (n : Season) (a : Int) (d : Nat) : Int := if holdS n d = 1 then max a (dayLo n d) else a
theorem fold_high (n : Season) : ∀ (r : Nat) (a : Int), r ≤ n.days.length → 0 ≤ a → (∀ d, d < n.days.length → 0 ≤ dayLo n d) → (List.range' (n.days.length - r) r).foldl (highF n) a = max a (highS n r)
  | 0, a, _, ha, _ => by simp [highS]; omega
  | r + 1, a, hr, ha, hd => by
    rw [List.range'_succ, List.foldl_cons, show n.days.length - (r + 1) + 1 = n.days.length - r by omega]
    have h0 := hd (n.days.length - (r + 1)) (by omega)
    have h1 : 0 ≤ highF n a (n.days.length - (r + 1)) := by unfold highF; split <;> omega
    rw [fold_high n r _ (by omega) h1 hd, highS, highF]
    split <;> omega
theorem fold_high0 {n : Season} (hn : seasonOk n = true) : (List.range n.days.length).foldl (highF n) 0 = highS n n.days.length := by
  have h := fold_high n n.days.length 0 (Nat.le_refl _) (by omega) (fun d hd => (dayLo_range hn hd).1)
  rw [Nat.sub_self, ← List.range_eq_range'] at h
  have := (highS_range hn n.days.length (Nat.le_refl _)).1
  rw [h]; omega

set_option maxHeartbeats 4000000 in
theorem e_Same_l0 (n0 : Int) (n1 : Int) (n2 : Int) (n3 : Int) (n4 : List Sp) (n5 : List Anc) (n6 : List Wal) (n7 : Int) (n8 : Int) (n9 : List Sp) (n10 : List Boat) (n11 : List Sky) (n12 : List (List Int)) (n13 : List Int) (n14 : List Sp) (hl : n12.length ≤ 4) (s : Stk) (F : List (List V) → Ab.Loc) (hF : F = fun a => [(16, .cell [i64 n0, i64 n1, i64 n2, i64 n3, .sl .no 2 (es cSp n4), .sl .no 2 (es cAnc n5), .sl .no 5 (es cWal n6), i64 n7, i64 n8, .sl .no 2 (es cSp n9), .sl .no 2 (es cBoat n10), .sl .no 4 (es cSky n11), .sl .no 1 (es cInts n12), .sl .no 1 (es cInt n13), .sl .no 2 (es cSp n14)]), (384, .arr 2 (es cSp n4)), (1384, .arr 2 (es cAnc n5)), (2384, .arr 5 (es cWal n6)), (3384, .arr 2 (es cSp n9)), (4384, .arr 2 (es cBoat n10)), (5384, .arr 4 (es cSky n11)), (6384, .arr 1 a), (7384, .arr 1 (es cInt n13)), (8384, .arr 2 (es cSp n14)), (48, .cell (copyCells (⟨⟨⟨n0, n1⟩, ⟨n2, n3⟩, n4, n5, n6⟩, ⟨⟨n7, n8⟩, n9, n10⟩, n11, n12, n13, n14⟩ : Season) s.length 384))]) :
    Run T b6l0 [(1, .ptr s.length 16 0), (3, .ptr s.length 48 0), (4, i64 0)] (F (es cInts n12) :: s) =
      some (.exit 0, [(1, .ptr s.length 16 0), (3, .ptr s.length 48 0), (4, i64 n12.length), (29, .bool false)], F (fullF n12.length) :: s) := by
  have hgc : ∀ a : List (List V), (∀ d keep, a.map (V.mapAll (dropR d keep)) = a) → Loc.gc s.length [16, 48, 224, 352, 384, 768, 1152, 1328, 1384, 1392, 2384, 3384, 4384, 5384, 6384, 7384, 8384] (F a) = F a := by intro a ha; subst hF; simp [copyCells, ha]
  have g16 : ∀ a, (F a).get 16 = some (.cell [i64 n0, i64 n1, i64 n2, i64 n3, .sl .no 2 (es cSp n4), .sl .no 2 (es cAnc n5), .sl .no 5 (es cWal n6), i64 n7, i64 n8, .sl .no 2 (es cSp n9), .sl .no 2 (es cBoat n10), .sl .no 4 (es cSky n11), .sl .no 1 (es cInts n12), .sl .no 1 (es cInt n13), .sl .no 2 (es cSp n14)]) := by intro a; subst hF; rfl
  have g48 : ∀ a, (F a).get 48 = some (.cell (copyCells (⟨⟨⟨n0, n1⟩, ⟨n2, n3⟩, n4, n5, n6⟩, ⟨⟨n7, n8⟩, n9, n10⟩, n11, n12, n13, n14⟩ : Season) s.length 384)) := by intro a; subst hF; rfl
  have gar : ∀ a, (F a).get 6384 = some (.arr 1 a) := by intro a; subst hF; rfl
  have put : ∀ a b, (F a).put 6384 (.arr 1 b) = F b := by intro a b; subst hF; rfl
  have c12 : (copyCells (⟨⟨⟨n0, n1⟩, ⟨n2, n3⟩, n4, n5, n6⟩, ⟨⟨n7, n8⟩, n9, n10⟩, n11, n12, n13, n14⟩ : Season) s.length 384)[12]? = some (.asl s.length 6384 1 n12.length 0 n12.length) := rfl
  have c12g : ∀ h, (copyCells (⟨⟨⟨n0, n1⟩, ⟨n2, n3⟩, n4, n5, n6⟩, ⟨⟨n7, n8⟩, n9, n10⟩, n11, n12, n13, n14⟩ : Season) s.length 384)[12]'h = .asl s.length 6384 1 n12.length 0 n12.length := fun _ => rfl
  have clen : (copyCells (⟨⟨⟨n0, n1⟩, ⟨n2, n3⟩, n4, n5, n6⟩, ⟨⟨n7, n8⟩, n9, n10⟩, n11, n12, n13, n14⟩ : Season) s.length 384).length = 15 := rfl
  have key := loop_fold (T := T) (live := [1, 3, 4]) (keep := [16, 48, 224, 352, 384, 768, 1152, 1328, 1384, 1392, 2384, 3384, 4384, 5384, 6384, 7384, 8384]) (b := ( .seq ( .seq ( .region false [ ⟨(some 25), .mv (.t 4), none, [], []⟩, ⟨(some 26), .faddr 12 (.t 3), none, [], []⟩, ⟨(some 27), .load none (.t 26), none, [], []⟩, ⟨(some 28), .len (.t 27), none, [], []⟩, ⟨(some 29), .bin .lss (.t 25) (.t 28), none, [], []⟩] [1, 3, 4, 29]) ( .cond (.t 29) ( .skip) ( .exit 0))) ( .seq ( .block 1 ( .region false [ ⟨(some 32), .faddr 12 (.t 3), none, [], []⟩, ⟨(some 33), .load none (.t 32), none, [], []⟩, ⟨(some 34), .mv (.t 4), none, [], []⟩, ⟨(some 35), .mv (.t 4), none, [], []⟩, ⟨(some 36), .lit [(i64 0)] 1 [(0, (.t 35))], none, [], []⟩, ⟨(some 37), .idxs 1 (.t 33) (.t 34), none, [], []⟩, ⟨none, .store 1 (.t 37) (.t 36), none, [], []⟩] [1, 3, 4])) ( .region false [ ⟨(some 30), .mv (.t 4), none, [], []⟩, ⟨(some 31), .bin .add (.t 30) (.c (i64 1)), none, [], []⟩, ⟨(some 4), .mv (.t 31), none, [], []⟩] [1, 3, 4])))) (List.range n12.length) (fun _ (a : List (List V)) => (a.length = n12.length ∧ ∀ x ∈ a, x.length = 1) ∧ ∀ d keep, a.map (V.mapAll (dropR d keep)) = a) (fun a i => a.set i [.sl .full 1 [[i64 i]]])
    (fun i _ => [(1, .ptr s.length 16 0), (3, .ptr s.length 48 0), (4, i64 i)]) (fun _ a => F a :: s)
    (fun a => (.exit 0, [(1, .ptr s.length 16 0), (3, .ptr s.length 48 0), (4, i64 n12.length), (29, .bool false)], F a :: s))
    (by simp) ?_ ?_ ?_ (es cInts n12) ⟨⟨by simp, fun x hx => by simp only [es, List.mem_map] at hx; obtain ⟨l, _, rfl⟩ := hx; rfl⟩, fun d keep => by simp⟩ [(1, .ptr s.length 16 0), (3, .ptr s.length 48 0), (4, i64 0)] (F (es cInts n12) :: s) (by simp) (by simp [hgc, -locGc_eq])
  · have e := fold_set0 (fun i : Nat => ([.sl .full 1 [[i64 i]]] : List V)) (es cInts n12) n12.length (by simp)
    rw [e, List.drop_of_length_le (by simp), List.append_nil] at key
    exact key
  · intro i a hk hi
    simp only [List.length_range] at hk
    obtain ⟨⟨hi1, hi0⟩, hi2⟩ := hi
    have hk2 : i < a.length := by omega
    have hi3 : ∀ d keep, (a.set i [.sl .full 1 [[i64 i]]]).map (V.mapAll (dropR d keep)) = a.set i [.sl .full 1 [[i64 i]]] := by
      intro d keep
      rw [List.map_set, hi2]
      simp
    obtain ⟨y, hy⟩ : ∃ y, a[i] = [y] := by
      have := hi0 a[i] (List.getElem_mem hk2)
      match h : a[i], this with
      | [y], _ => exact ⟨y, rfl⟩
    simp only [List.getElem_range]
    clear hF
    simp (maxSteps := 1000000) (disch := first | omega | assumption | decide +kernel | (simp; done) | (simp; omega) | fail) [hk, hk2, hi1, hy, hgc, hi3, -locGc_eq, g16, g48, gar, put, c12, c12g, clen, wk i (by omega)]
  · intro k a hk hi
    refine ⟨⟨by simpa using hi.1.1, fun x hx => ?_⟩, fun d keep => ?_⟩
    · rcases List.mem_or_eq_of_mem_set hx with h | rfl
      · exact hi.1.2 x h
      · rfl
    rw [List.map_set, hi.2]
    simp
  · intro a hi
    simp [g48, c12, c12g, clen, gar, hi.1.1]

set_option maxHeartbeats 4000000 in
theorem e_Same_l1 (n0 : Int) (n1 : Int) (n2 : Int) (n3 : Int) (n4 : List Sp) (n5 : List Anc) (n6 : List Wal) (n7 : Int) (n8 : Int) (n9 : List Sp) (n10 : List Boat) (n11 : List Sky) (n12 : List (List Int)) (n13 : List Int) (n14 : List Sp) (hs : Short (⟨⟨⟨n0, n1⟩, ⟨n2, n3⟩, n4, n5, n6⟩, ⟨⟨n7, n8⟩, n9, n10⟩, n11, n12, n13, n14⟩ : Season)) (hok : seasonOk (⟨⟨⟨n0, n1⟩, ⟨n2, n3⟩, n4, n5, n6⟩, ⟨⟨n7, n8⟩, n9, n10⟩, n11, n12, n13, n14⟩ : Season) = true) (C : List V) (hC : V.stripAll C = season0 (sameS (⟨⟨⟨n0, n1⟩, ⟨n2, n3⟩, n4, n5, n6⟩, ⟨⟨n7, n8⟩, n9, n10⟩, n11, n12, n13, n14⟩ : Season))) (hC2 : C.length = 15) (F : Ab.Loc) (s : Stk) (g16 : F.get 16 = some (.cell [i64 n0, i64 n1, i64 n2, i64 n3, .sl .no 2 (es cSp n4), .sl .no 2 (es cAnc n5), .sl .no 5 (es cWal n6), i64 n7, i64 n8, .sl .no 2 (es cSp n9), .sl .no 2 (es cBoat n10), .sl .no 4 (es cSky n11), .sl .no 1 (es cInts n12), .sl .no 1 (es cInt n13), .sl .no 2 (es cSp n14)])) (g48 : F.get 48 = some (.cell C))
    (hgc : Loc.gc s.length [16, 48, 224, 352, 384, 1152, 1328, 1384, 1392, 2384, 3384, 4384, 5384, 6384, 7384, 8384] F = F) :
    Run T b6l1 [(1, .ptr s.length 16 0), (3, .ptr s.length 48 0), (5, i64 0), (6, i64 0)] (F :: s) =
      some (.exit 2, [(1, .ptr s.length 16 0), (3, .ptr s.length 48 0), (5, i64 (highS (⟨⟨⟨n0, n1⟩, ⟨n2, n3⟩, n4, n5, n6⟩, ⟨⟨n7, n8⟩, n9, n10⟩, n11, n12, n13, n14⟩ : Season) n14.length)), (6, i64 n14.length), (42, .bool false)], F :: s) := by
  obtain ⟨_, _, q3, q4, q5, _, q7, _, _⟩ := seasonOk_iff.1 hok
  simp only at q4 q5 q7
  have ho := sameS_ok hok
  have hs2 : Short (sameS (⟨⟨⟨n0, n1⟩, ⟨n2, n3⟩, n4, n5, n6⟩, ⟨⟨n7, n8⟩, n9, n10⟩, n11, n12, n13, n14⟩ : Season)) := by
    obtain ⟨a1, a2, a3, a4, a5, a6, a7, a8⟩ := hs
    refine ⟨a1, a2, a3, a4, by simpa [sameS] using a5, a6, a7, fun l hl => ?_⟩
    simp only [sameS, selfs, List.mem_map] at hl
    obtain ⟨i, _, rfl⟩ := hl
    simp
  have hH : ∀ (d : Nat), d < n14.length → ∀ lab s, den T 22 [.agg (season0 (sameS (⟨⟨⟨n0, n1⟩, ⟨n2, n3⟩, n4, n5, n6⟩, ⟨⟨n7, n8⟩, n9, n10⟩, n11, n12, n13, n14⟩ : Season))), i64 d] lab s = some (.tup [.bool (decide (holdS (⟨⟨⟨n0, n1⟩, ⟨n2, n3⟩, n4, n5, n6⟩, ⟨⟨n7, n8⟩, n9, n10⟩, n11, n12, n13, n14⟩ : Season) d = 1)), i64 0], s) := by
    intro d hd lab s
    have h := e_Holds n0 n1 n2 n3 n4 n5 n6 n7 n8 n9 n10 n11 (selfs n12.length) n13 n14 hs2 d lab s
    have hd1 : isDayS (sameS (⟨⟨⟨n0, n1⟩, ⟨n2, n3⟩, n4, n5, n6⟩, ⟨⟨n7, n8⟩, n9, n10⟩, n11, n12, n13, n14⟩ : Season)) (d : Int) = true := within_iff.2 ⟨by omega, by simp only [sameS]; omega⟩
    have e : holdsR (sameS (⟨⟨⟨n0, n1⟩, ⟨n2, n3⟩, n4, n5, n6⟩, ⟨⟨n7, n8⟩, n9, n10⟩, n11, n12, n13, n14⟩ : Season)) d = (decide (holdS (⟨⟨⟨n0, n1⟩, ⟨n2, n3⟩, n4, n5, n6⟩, ⟨⟨n7, n8⟩, n9, n10⟩, n11, n12, n13, n14⟩ : Season) d = 1), 0) := by simp [holdsR, ho, hd1]; rfl
    change den T _ _ lab s = some (.tup [.bool (holdsR (sameS (⟨⟨⟨n0, n1⟩, ⟨n2, n3⟩, n4, n5, n6⟩, ⟨⟨n7, n8⟩, n9, n10⟩, n11, n12, n13, n14⟩ : Season)) d).1, i64 (holdsR (sameS (⟨⟨⟨n0, n1⟩, ⟨n2, n3⟩, n4, n5, n6⟩, ⟨⟨n7, n8⟩, n9, n10⟩, n11, n12, n13, n14⟩ : Season)) d).2], s) at h
    rw [e] at h
    exact h
  have htk : C.take 15 = C := List.take_of_length_le (by omega)
  have key := loop_fold (T := T) (live := [1, 3, 5, 6]) (keep := [16, 48, 224, 352, 384, 1152, 1328, 1384, 1392, 2384, 3384, 4384, 5384, 6384, 7384, 8384]) (b := ( .seq ( .seq ( .region false [ ⟨(some 38), .mv (.t 6), none, [], []⟩, ⟨(some 39), .faddr 14 (.t 1), none, [], []⟩, ⟨(some 40), .load none (.t 39), none, [], []⟩, ⟨(some 41), .len (.t 40), none, [], []⟩, ⟨(some 42), .bin .lss (.t 38) (.t 41), none, [], []⟩] [1, 3, 5, 6, 42]) ( .cond (.t 42) ( .skip) ( .exit 2))) ( .seq ( .block 3 ( .seq ( .region false [ ⟨(some 46), .load (some 15) (.t 3), none, [], []⟩, ⟨(some 47), .mv (.t 6), none, [], []⟩, ⟨(some 48), .call 22 [(.t 46), (.t 47)], none, [], []⟩, ⟨(some 45), .mv (.t 48), none, [], []⟩, ⟨(some 49), .ext (.t 45) 0, none, [], []⟩, ⟨(some 50), .ext (.t 45) 1, none, [], []⟩, ⟨(some 7), .mv (.t 49), none, [], []⟩, ⟨(some 8), .mv (.t 50), none, [], []⟩] [1, 3, 5, 6, 7, 8]) ( .seq ( .seq ( .region false [ ⟨(some 51), .mv (.t 8), none, [], []⟩, ⟨(some 52), .bin .neq (.t 51) (.c (i64 0)), none, [], []⟩] [1, 3, 5, 6, 7, 52]) ( .cond (.t 52) ( .seq ( .region false [ ⟨(some 2), .mv (.c (.bool false)), none, [], []⟩] [2]) ( .ret)) ( .skip))) ( .seq ( .region false [ ⟨(some 53), .mv (.t 7), none, [], []⟩] [1, 3, 5, 6, 53]) ( .cond (.t 53) ( .region false [ ⟨(some 54), .mv (.t 5), none, [], []⟩, ⟨(some 55), .faddr 14 (.t 1), none, [], []⟩, ⟨(some 56), .load none (.t 55), none, [], []⟩, ⟨(some 57), .mv (.t 6), none, [], []⟩, ⟨(some 58), .idxs 2 (.t 56) (.t 57), none, [], []⟩, ⟨(some 59), .faddr 0 (.t 58), none, [], []⟩, ⟨(some 60), .load none (.t 59), none, [], []⟩, ⟨(some 61), .mm true (.t 54) (.t 60), none, [], []⟩, ⟨(some 5), .mv (.t 61), none, [], []⟩] [1, 3, 5, 6]) ( .skip)))))) ( .region false [ ⟨(some 43), .mv (.t 6), none, [], []⟩, ⟨(some 44), .bin .add (.t 43) (.c (i64 1)), none, [], []⟩, ⟨(some 6), .mv (.t 44), none, [], []⟩] [1, 3, 5, 6])))) (List.range n14.length) (fun _ (_ : Int) => True) (highF (⟨⟨⟨n0, n1⟩, ⟨n2, n3⟩, n4, n5, n6⟩, ⟨⟨n7, n8⟩, n9, n10⟩, n11, n12, n13, n14⟩ : Season))
    (fun i a => [(1, .ptr s.length 16 0), (3, .ptr s.length 48 0), (5, i64 a), (6, i64 i)]) (fun _ _ => F :: s)
    (fun a => (.exit 2, [(1, .ptr s.length 16 0), (3, .ptr s.length 48 0), (5, i64 a), (6, i64 n14.length), (42, .bool false)], F :: s))
    (by simp) ?_ (by simp) ?_ 0 trivial [(1, .ptr s.length 16 0), (3, .ptr s.length 48 0), (5, i64 0), (6, i64 0)] (F :: s) (by simp) (by simp [hgc, -locGc_eq])
  · have e := fold_high0 hok
    simp only at e
    rw [e] at key
    exact key
  · intro i a hk _
    simp only [List.length_range] at hk
    have hk2 : (i : Int) < n14.length := by omega
    have hh := hH i hk
    have hlo : dayLo (⟨⟨⟨n0, n1⟩, ⟨n2, n3⟩, n4, n5, n6⟩, ⟨⟨n7, n8⟩, n9, n10⟩, n11, n12, n13, n14⟩ : Season) i = n14[i].lo := by simp [dayLo, hk]
    simp only [List.getElem_range, highF]
    by_cases h1 : holdS (⟨⟨⟨n0, n1⟩, ⟨n2, n3⟩, n4, n5, n6⟩, ⟨⟨n7, n8⟩, n9, n10⟩, n11, n12, n13, n14⟩ : Season) i = 1
    · simp only [h1, decide_true] at hh
      simp only [h1, if_true, hlo]
      simp (maxSteps := 1000000) (disch := first | omega | assumption | decide +kernel | (simp; done) | (simp; omega) | fail) [hk, hk2, hh, hC, hC2, htk, hgc, -locGc_eq, g16, g48, wk i (by omega)]
    · simp only [h1, decide_false] at hh
      simp only [h1, if_false]
      simp (maxSteps := 1000000) (disch := first | omega | assumption | decide +kernel | (simp; done) | (simp; omega) | fail) [hk, hk2, hh, hC, hC2, htk, hgc, -locGc_eq, g16, g48, wk i (by omega)]
  · intro a _
    simp [g16]

set_option maxHeartbeats 4000000 in
theorem e_Same_l2 (n0 : Int) (n1 : Int) (n2 : Int) (n3 : Int) (n4 : List Sp) (n5 : List Anc) (n6 : List Wal) (n7 : Int) (n8 : Int) (n9 : List Sp) (n10 : List Boat) (n11 : List Sky) (n12 : List (List Int)) (n13 : List Int) (n14 : List Sp) (hs : Short (⟨⟨⟨n0, n1⟩, ⟨n2, n3⟩, n4, n5, n6⟩, ⟨⟨n7, n8⟩, n9, n10⟩, n11, n12, n13, n14⟩ : Season)) (hok : seasonOk (⟨⟨⟨n0, n1⟩, ⟨n2, n3⟩, n4, n5, n6⟩, ⟨⟨n7, n8⟩, n9, n10⟩, n11, n12, n13, n14⟩ : Season) = true) (hD : 0 < n14.length) (C : List V) (hC : V.stripAll C = season0 (sameS (⟨⟨⟨n0, n1⟩, ⟨n2, n3⟩, n4, n5, n6⟩, ⟨⟨n7, n8⟩, n9, n10⟩, n11, n12, n13, n14⟩ : Season))) (hC2 : C.length = 15) (F : Ab.Loc) (s : Stk) (g16 : F.get 16 = some (.cell [i64 n0, i64 n1, i64 n2, i64 n3, .sl .no 2 (es cSp n4), .sl .no 2 (es cAnc n5), .sl .no 5 (es cWal n6), i64 n7, i64 n8, .sl .no 2 (es cSp n9), .sl .no 2 (es cBoat n10), .sl .no 4 (es cSky n11), .sl .no 1 (es cInts n12), .sl .no 1 (es cInt n13), .sl .no 2 (es cSp n14)])) (g48 : F.get 48 = some (.cell C))
    (hgc : Loc.gc s.length [16, 48, 224, 352, 384, 768, 1384, 1392, 2384, 3384, 4384, 5384, 6384, 7384, 8384] F = F) :
    Run T b6l2 [(1, .ptr s.length 16 0), (3, .ptr s.length 48 0), (5, i64 (highS (⟨⟨⟨n0, n1⟩, ⟨n2, n3⟩, n4, n5, n6⟩, ⟨⟨n7, n8⟩, n9, n10⟩, n11, n12, n13, n14⟩ : Season) n14.length)), (9, i64 0)] (F :: s) =
      some (.exit 4, [(1, .ptr s.length 16 0), (3, .ptr s.length 48 0), (5, i64 (highS (⟨⟨⟨n0, n1⟩, ⟨n2, n3⟩, n4, n5, n6⟩, ⟨⟨n7, n8⟩, n9, n10⟩, n11, n12, n13, n14⟩ : Season) n14.length)), (9, i64 n11.length), (66, .bool false)], F :: s) := by
  obtain ⟨_, _, q3, q4, q5, _, q7, _, _⟩ := seasonOk_iff.1 hok
  simp only at q4 q5 q7
  have ho := sameS_ok hok
  have hs2 : Short (sameS (⟨⟨⟨n0, n1⟩, ⟨n2, n3⟩, n4, n5, n6⟩, ⟨⟨n7, n8⟩, n9, n10⟩, n11, n12, n13, n14⟩ : Season)) := by
    obtain ⟨a1, a2, a3, a4, a5, a6, a7, a8⟩ := hs
    refine ⟨a1, a2, a3, a4, by simpa [sameS] using a5, a6, a7, fun l hl => ?_⟩
    simp only [sameS, selfs, List.mem_map] at hl
    obtain ⟨i, _, rfl⟩ := hl
    simp
  have hH : ∀ (k : Nat), k < n11.length → ∀ lab s, den T 17 [.agg (season0 (sameS (⟨⟨⟨n0, n1⟩, ⟨n2, n3⟩, n4, n5, n6⟩, ⟨⟨n7, n8⟩, n9, n10⟩, n11, n12, n13, n14⟩ : Season))), i64 k] lab s = some (.tup [i64 (calmS (⟨⟨⟨n0, n1⟩, ⟨n2, n3⟩, n4, n5, n6⟩, ⟨⟨n7, n8⟩, n9, n10⟩, n11, n12, n13, n14⟩ : Season) k), i64 0], s) := by
    intro k hk lab s
    have h := e_Calm n0 n1 n2 n3 n4 n5 n6 n7 n8 n9 n10 n11 (selfs n12.length) n13 n14 hs2 k lab s
    have hk1 : isSkyS (sameS (⟨⟨⟨n0, n1⟩, ⟨n2, n3⟩, n4, n5, n6⟩, ⟨⟨n7, n8⟩, n9, n10⟩, n11, n12, n13, n14⟩ : Season)) (k : Int) = true := within_iff.2 ⟨by omega, by simp only [sameS]; omega⟩
    have e : calmR (sameS (⟨⟨⟨n0, n1⟩, ⟨n2, n3⟩, n4, n5, n6⟩, ⟨⟨n7, n8⟩, n9, n10⟩, n11, n12, n13, n14⟩ : Season)) k = (calmS (⟨⟨⟨n0, n1⟩, ⟨n2, n3⟩, n4, n5, n6⟩, ⟨⟨n7, n8⟩, n9, n10⟩, n11, n12, n13, n14⟩ : Season) k, 0) := by simp [calmR, ho, hk1]; rfl
    change den T _ _ lab s = some (.tup [i64 (calmR (sameS (⟨⟨⟨n0, n1⟩, ⟨n2, n3⟩, n4, n5, n6⟩, ⟨⟨n7, n8⟩, n9, n10⟩, n11, n12, n13, n14⟩ : Season)) k).1, i64 (calmR (sameS (⟨⟨⟨n0, n1⟩, ⟨n2, n3⟩, n4, n5, n6⟩, ⟨⟨n7, n8⟩, n9, n10⟩, n11, n12, n13, n14⟩ : Season)) k).2], s) at h
    rw [e] at h
    exact h
  have hW : ∀ (k : Nat), k < n11.length → ∀ lab s, den T 23 [.agg (season0 (sameS (⟨⟨⟨n0, n1⟩, ⟨n2, n3⟩, n4, n5, n6⟩, ⟨⟨n7, n8⟩, n9, n10⟩, n11, n12, n13, n14⟩ : Season))), i64 0, i64 k] lab s = some (i64 (if calmS (⟨⟨⟨n0, n1⟩, ⟨n2, n3⟩, n4, n5, n6⟩, ⟨⟨n7, n8⟩, n9, n10⟩, n11, n12, n13, n14⟩ : Season) k = 1 then highS (⟨⟨⟨n0, n1⟩, ⟨n2, n3⟩, n4, n5, n6⟩, ⟨⟨n7, n8⟩, n9, n10⟩, n11, n12, n13, n14⟩ : Season) n14.length else 0), s) := by
    intro k hk lab s
    have h := e_worth13law n0 n1 n2 n3 n4 n5 n6 n7 n8 n9 n10 n11 (selfs n12.length) n13 n14 hs2 0 k lab s
    change den T _ _ lab s = some (i64 (lawWorth (sameS (⟨⟨⟨n0, n1⟩, ⟨n2, n3⟩, n4, n5, n6⟩, ⟨⟨n7, n8⟩, n9, n10⟩, n11, n12, n13, n14⟩ : Season)) 0 k), s) at h
    have e := lawWorth_ok (n := sameS (⟨⟨⟨n0, n1⟩, ⟨n2, n3⟩, n4, n5, n6⟩, ⟨⟨n7, n8⟩, n9, n10⟩, n11, n12, n13, n14⟩ : Season)) ho (day := 0) (sky := k) hD (by omega) (by simp only [sameS]; omega)
    have e2 := worth_same (n := (⟨⟨⟨n0, n1⟩, ⟨n2, n3⟩, n4, n5, n6⟩, ⟨⟨n7, n8⟩, n9, n10⟩, n11, n12, n13, n14⟩ : Season)) hok n14.length k (Nat.le_refl _) hk
    rw [show ((0 : Nat) : Int) = 0 from rfl] at e
    rw [e] at h
    rw [Nat.sub_zero] at h
    change den T _ _ lab s = some (i64 (worthS (sameS (⟨⟨⟨n0, n1⟩, ⟨n2, n3⟩, n4, n5, n6⟩, ⟨⟨n7, n8⟩, n9, n10⟩, n11, n12, n13, n14⟩ : Season)) n14.length k), s) at h
    rw [e2] at h
    exact h
  have htk : C.take 15 = C := List.take_of_length_le (by omega)
  have key := loop_fold (T := T) (live := [1, 3, 5, 9]) (keep := [16, 48, 224, 352, 384, 768, 1384, 1392, 2384, 3384, 4384, 5384, 6384, 7384, 8384]) (b := ( .seq ( .seq ( .region false [ ⟨(some 62), .mv (.t 9), none, [], []⟩, ⟨(some 63), .faddr 11 (.t 1), none, [], []⟩, ⟨(some 64), .load none (.t 63), none, [], []⟩, ⟨(some 65), .len (.t 64), none, [], []⟩, ⟨(some 66), .bin .lss (.t 62) (.t 65), none, [], []⟩] [1, 3, 5, 9, 66]) ( .cond (.t 66) ( .skip) ( .exit 4))) ( .seq ( .block 5 ( .seq ( .region false [ ⟨(some 70), .load (some 15) (.t 3), none, [], []⟩, ⟨(some 71), .mv (.t 9), none, [], []⟩, ⟨(some 72), .call 17 [(.t 70), (.t 71)], none, [], []⟩, ⟨(some 69), .mv (.t 72), none, [], []⟩, ⟨(some 73), .ext (.t 69) 0, none, [], []⟩, ⟨(some 74), .ext (.t 69) 1, none, [], []⟩, ⟨(some 10), .mv (.t 73), none, [], []⟩, ⟨(some 11), .mv (.t 74), none, [], []⟩] [1, 3, 5, 9, 10, 11]) ( .seq ( .region false [ ⟨(some 12), .mv (.c (i64 0)), none, [], []⟩] [1, 3, 5, 9, 10, 11, 12]) ( .seq ( .seq ( .region false [ ⟨(some 75), .mv (.t 10), none, [], []⟩, ⟨(some 76), .bin .eql (.t 75) (.c (i64 1)), none, [], []⟩] [1, 3, 5, 9, 11, 12, 76]) ( .cond (.t 76) ( .region false [ ⟨(some 77), .mv (.t 5), none, [], []⟩, ⟨(some 12), .mv (.t 77), none, [], []⟩] [1, 3, 5, 9, 11, 12]) ( .skip))) ( .seq ( .region false [ ⟨(some 78), .mv (.t 11), none, [], []⟩, ⟨(some 79), .bin .neq (.t 78) (.c (i64 0)), none, [], []⟩, ⟨(some 80), .mv (.t 79), none, [], []⟩, ⟨(some 81), .load (some 15) (.t 3), (some (80, false)), [], []⟩, ⟨(some 82), .mv (.t 9), (some (80, false)), [], []⟩, ⟨(some 83), .call 23 [(.t 81), (.c (i64 0)), (.t 82)], (some (80, false)), [], []⟩, ⟨(some 84), .mv (.t 12), (some (80, false)), [], []⟩, ⟨(some 85), .bin .neq (.t 83) (.t 84), (some (80, false)), [], []⟩, ⟨(some 86), .pick (.t 80) (.c (.bool true)) (.t 85), none, [], []⟩] [1, 3, 5, 9, 86]) ( .cond (.t 86) ( .seq ( .region false [ ⟨(some 2), .mv (.c (.bool false)), none, [], []⟩] [2]) ( .ret)) ( .skip))))))) ( .region false [ ⟨(some 67), .mv (.t 9), none, [], []⟩, ⟨(some 68), .bin .add (.t 67) (.c (i64 1)), none, [], []⟩, ⟨(some 9), .mv (.t 68), none, [], []⟩] [1, 3, 5, 9])))) (List.range n11.length) (fun _ (_ : Unit) => True) (fun _ _ => ())
    (fun i _ => [(1, .ptr s.length 16 0), (3, .ptr s.length 48 0), (5, i64 (highS (⟨⟨⟨n0, n1⟩, ⟨n2, n3⟩, n4, n5, n6⟩, ⟨⟨n7, n8⟩, n9, n10⟩, n11, n12, n13, n14⟩ : Season) n14.length)), (9, i64 i)]) (fun _ _ => F :: s)
    (fun _ => (.exit 4, [(1, .ptr s.length 16 0), (3, .ptr s.length 48 0), (5, i64 (highS (⟨⟨⟨n0, n1⟩, ⟨n2, n3⟩, n4, n5, n6⟩, ⟨⟨n7, n8⟩, n9, n10⟩, n11, n12, n13, n14⟩ : Season) n14.length)), (9, i64 n11.length), (66, .bool false)], F :: s))
    (by simp) ?_ (by simp) (by intro a _; simp [g16]) () trivial [(1, .ptr s.length 16 0), (3, .ptr s.length 48 0), (5, i64 (highS (⟨⟨⟨n0, n1⟩, ⟨n2, n3⟩, n4, n5, n6⟩, ⟨⟨n7, n8⟩, n9, n10⟩, n11, n12, n13, n14⟩ : Season) n14.length)), (9, i64 0)] (F :: s) (by simp) (by simp [hgc, -locGc_eq])
  · exact key
  · intro i a hk _
    simp only [List.length_range] at hk
    have hk2 : (i : Int) < n11.length := by omega
    have hh := hH i hk
    have hw := hW i hk
    by_cases h1 : calmS (⟨⟨⟨n0, n1⟩, ⟨n2, n3⟩, n4, n5, n6⟩, ⟨⟨n7, n8⟩, n9, n10⟩, n11, n12, n13, n14⟩ : Season) i = 1
    · rw [h1] at hh
      rw [if_pos h1] at hw
      simp (maxSteps := 1000000) (disch := first | omega | assumption | decide +kernel | (simp; done) | (simp; omega) | fail) [run_drawnK, hk, hk2, hh, hw, hC, hC2, htk, hgc, -locGc_eq, g16, g48, wk i (by omega)]
    · rw [if_neg h1] at hw
      simp (maxSteps := 1000000) (disch := first | omega | assumption | decide +kernel | (simp; done) | (simp; omega) | fail) [run_drawnK, hk, hk2, hh, hw, h1, hC, hC2, htk, hgc, -locGc_eq, g16, g48, wk i (by omega)]

set_option maxHeartbeats 8000000 in
theorem e_SkiesSame (n0 : Int) (n1 : Int) (n2 : Int) (n3 : Int) (n4 : List Sp) (n5 : List Anc) (n6 : List Wal) (n7 : Int) (n8 : Int) (n9 : List Sp) (n10 : List Boat) (n11 : List Sky) (n12 : List (List Int)) (n13 : List Int) (n14 : List Sp) (hs : ShortC (⟨⟨⟨n0, n1⟩, ⟨n2, n3⟩, n4, n5, n6⟩, ⟨⟨n7, n8⟩, n9, n10⟩, n11, n12, n13, n14⟩ : Season)) (lab s) : den T 6 [.agg [i64 n0, i64 n1, i64 n2, i64 n3, .sl .no 2 (es cSp n4), .sl .no 2 (es cAnc n5), .sl .no 5 (es cWal n6), i64 n7, i64 n8, .sl .no 2 (es cSp n9), .sl .no 2 (es cBoat n10), .sl .no 4 (es cSky n11), .sl .no 1 (es cInts n12), .sl .no 1 (es cInt n13), .sl .no 2 (es cSp n14)]] lab s = some (.bool true, s) := by
  have hs1 : Short (⟨⟨⟨n0, n1⟩, ⟨n2, n3⟩, n4, n5, n6⟩, ⟨⟨n7, n8⟩, n9, n10⟩, n11, n12, n13, n14⟩ : Season) := hs.short
  have hr := fun lab s => e_ready n0 n1 n2 n3 n4 n5 n6 n7 n8 n9 n10 n11 n12 n13 n14 hs1.skies hs1.follows hs1.first hs1.days hs1.each lab s
  have hx := e_works
  have hc := fun lab loc s => e_Copy13 n0 n1 n2 n3 n4 n5 n6 n7 n8 n9 n10 n11 n12 n13 n14 hs lab loc s
  rw [den_fn t6 _ _ _ rfl]
  simp only [b6]
  cases c0 : ready (⟨⟨⟨n0, n1⟩, ⟨n2, n3⟩, n4, n5, n6⟩, ⟨⟨n7, n8⟩, n9, n10⟩, n11, n12, n13, n14⟩ : Season)
  · simp (maxSteps := 1000000) (disch := first | omega | assumption | decide +kernel | (simp; done) | (simp; omega) | fail) [run_drawnK, hr, c0, hx]
  have hok : seasonOk (⟨⟨⟨n0, n1⟩, ⟨n2, n3⟩, n4, n5, n6⟩, ⟨⟨n7, n8⟩, n9, n10⟩, n11, n12, n13, n14⟩ : Season) = true := by simp only [ready, Bool.and_eq_true] at c0; exact c0.2
  obtain ⟨_, _, q3, q4, q5, _, q7, _, q9⟩ := seasonOk_iff.1 hok
  simp only at q3 q4 q5 q7
  by_cases hD0 : n14 = []
  · have hD1 : (n14 = []) = True := eq_true hD0
    simp (maxSteps := 1000000) (disch := first | omega | assumption | decide +kernel | (simp; done) | (simp; omega) | fail) [run_drawnK, hr, c0, hx, hD1]
  have hD : 0 < n14.length := List.length_pos_iff.2 hD0
  have hl0 := e_Same_l0 n0 n1 n2 n3 n4 n5 n6 n7 n8 n9 n10 n11 n12 n13 n14 (by omega) s _ rfl
  simp only [copyCells] at hl0
  have hl1 := fun F => e_Same_l1 n0 n1 n2 n3 n4 n5 n6 n7 n8 n9 n10 n11 n12 n13 n14 hs1 hok [i64 n0, i64 n1, i64 n2, i64 n3, .sl (.own s.length 384) 2 (es cSp n4), .sl (.own s.length 1384) 2 (es cAnc n5), .sl (.own s.length 2384) 5 (es cWal n6), i64 n7, i64 n8, .sl (.own s.length 3384) 2 (es cSp n9), .sl (.own s.length 4384) 2 (es cBoat n10), .sl (.own s.length 5384) 4 (es cSky n11), .sl (.own s.length 6384) 1 (es cInts (selfs n12.length)), .sl (.own s.length 7384) 1 (es cInt n13), .sl (.own s.length 8384) 2 (es cSp n14)] (by simp [season0, sameS]) rfl F s
  have hl2 := fun F => e_Same_l2 n0 n1 n2 n3 n4 n5 n6 n7 n8 n9 n10 n11 n12 n13 n14 hs1 hok hD [i64 n0, i64 n1, i64 n2, i64 n3, .sl (.own s.length 384) 2 (es cSp n4), .sl (.own s.length 1384) 2 (es cAnc n5), .sl (.own s.length 2384) 5 (es cWal n6), i64 n7, i64 n8, .sl (.own s.length 3384) 2 (es cSp n9), .sl (.own s.length 4384) 2 (es cBoat n10), .sl (.own s.length 5384) 4 (es cSky n11), .sl (.own s.length 6384) 1 (es cInts (selfs n12.length)), .sl (.own s.length 7384) 1 (es cInt n13), .sl (.own s.length 8384) 2 (es cSp n14)] (by simp [season0, sameS]) rfl F s
  simp (maxSteps := 6000000) (disch := first | omega | assumption | decide +kernel | (simp; done) | (simp; omega) | fail) [run_drawnK, hr, c0, hD0, hx, hc, copyCells, hl0, hl1, hl2]
end Go.Proofs.Ytekgicoibcgecaa
