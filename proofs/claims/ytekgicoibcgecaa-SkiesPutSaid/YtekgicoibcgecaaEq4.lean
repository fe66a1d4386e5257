/-
  SkiesPut.
-/
import Derived.Test.YtekgicoibcgecaaEq3
set_option linter.unusedSimpArgs false
set_option linter.unusedVariables false
namespace Go.Proofs.Ytekgicoibcgecaa
open Go.Ab

def inB (l : List Int) (x : Int) : Bool := anyB (fun y => decide (y = x)) l
theorem inB_iff {l : List Int} {x : Int} : inB l x = true ↔ x ∈ l := by
  simp only [inB, anyB, List.any_eq_true, decide_eq_true_eq]
  exact ⟨fun ⟨y, h1, h2⟩ => h2 ▸ h1, fun h => ⟨x, h, rfl⟩⟩
/-- each sky can follow -/
def courseL (n : Season) : List Int → List Int → Bool
  | _, [] => true
  | nx, x :: c => inB nx x && courseL n (n.follows.getD x.toNat []) c
def isCourse (n : Season) (c : List Int) : Bool := decide (c.length = n.days.length) && courseL n n.first c
theorem course_mem (n : Season) : ∀ (c c0 nx : List Int), courseL n nx c = true → c0 ++ c ∈ coursesFrom n c.length c0 nx
  | [], c0, nx, _ => by simp [coursesFrom]
  | x :: c, c0, nx, h => by
    simp only [courseL, Bool.and_eq_true] at h
    simp only [List.length_cons, coursesFrom, List.mem_flatMap]
    refine ⟨x, inB_iff.1 h.1, ?_⟩
    have := course_mem n c (c0 ++ [x]) _ h.2
    simpa using this
theorem mem_course (n : Season) : ∀ (r : Nat) (c c0 nx : List Int), c ∈ coursesFrom n r c0 nx → ∃ c1, c = c0 ++ c1 ∧ c1.length = r ∧ courseL n nx c1 = true
  | 0, c, c0, nx, h => by
    simp only [coursesFrom, List.mem_singleton] at h
    exact ⟨[], by simp [h], rfl, rfl⟩
  | r + 1, c, c0, nx, h => by
    simp only [coursesFrom, List.mem_flatMap] at h
    obtain ⟨x, h1, h2⟩ := h
    obtain ⟨c1, rfl, h3, h4⟩ := mem_course n r c (c0 ++ [x]) _ h2
    exact ⟨x :: c1, by simp, by simp [h3], by simp only [courseL, inB_iff.2 h1, h4, Bool.and_self]⟩

theorem e_IsCourse_l (n0 : Int) (n1 : Int) (n2 : Int) (n3 : Int) (n4 : List Sp) (n5 : List Anc) (n6 : List Wal) (n7 : Int) (n8 : Int) (n9 : List Sp) (n10 : List Boat) (n11 : List Sky) (n12 : List (List Int)) (n13 : List Int) (n14 : List Sp) (hs : Short (⟨⟨⟨n0, n1⟩, ⟨n2, n3⟩, n4, n5, n6⟩, ⟨⟨n7, n8⟩, n9, n10⟩, n11, n12, n13, n14⟩ : Season)) (hok : seasonOk (⟨⟨⟨n0, n1⟩, ⟨n2, n3⟩, n4, n5, n6⟩, ⟨⟨n7, n8⟩, n9, n10⟩, n11, n12, n13, n14⟩ : Season) = true) (c : List Int) (hcl : c.length < 4611686018427387904) (s : Stk) :
    ∃ nx', Run T b26l0 [(1, .sl .no 1 (es cInt c)), (2, .ptr s.length 32 0), (5, .sl .no 1 (es cInt n13)), (6, i64 0)] ([(32, .cell [i64 n0, i64 n1, i64 n2, i64 n3, .sl .no 2 (es cSp n4), .sl .no 2 (es cAnc n5), .sl .no 5 (es cWal n6), i64 n7, i64 n8, .sl .no 2 (es cSp n9), .sl .no 2 (es cBoat n10), .sl .no 4 (es cSky n11), .sl .no 1 (es cInts n12), .sl .no 1 (es cInt n13), .sl .no 2 (es cSp n14)])] :: s) =
      some (if courseL (⟨⟨⟨n0, n1⟩, ⟨n2, n3⟩, n4, n5, n6⟩, ⟨⟨n7, n8⟩, n9, n10⟩, n11, n12, n13, n14⟩ : Season) n13 c = true then (.exit 0, [(1, .sl .no 1 (es cInt c)), (2, .ptr s.length 32 0), (5, .sl .no 1 (es cInt nx')), (6, i64 c.length), (18, .bool false)], [(32, .cell [i64 n0, i64 n1, i64 n2, i64 n3, .sl .no 2 (es cSp n4), .sl .no 2 (es cAnc n5), .sl .no 5 (es cWal n6), i64 n7, i64 n8, .sl .no 2 (es cSp n9), .sl .no 2 (es cBoat n10), .sl .no 4 (es cSky n11), .sl .no 1 (es cInts n12), .sl .no 1 (es cInt n13), .sl .no 2 (es cSp n14)])] :: s) else (.ret, [(4, .bool false)], [(32, .cell [i64 n0, i64 n1, i64 n2, i64 n3, .sl .no 2 (es cSp n4), .sl .no 2 (es cAnc n5), .sl .no 5 (es cWal n6), i64 n7, i64 n8, .sl .no 2 (es cSp n9), .sl .no 2 (es cBoat n10), .sl .no 4 (es cSky n11), .sl .no 1 (es cInts n12), .sl .no 1 (es cInt n13), .sl .no 2 (es cSp n14)])] :: s)) := by
  let P : List Int → Prop := fun nx => nx.length < 4611686018427387904 ∧ ∀ x : Int, x ∈ nx → 0 ≤ x ∧ x < (n11.length : Int)
  have key := loop_list (T := T) (live := [1, 2, 5, 6]) (keep := [32]) (b := ( .seq ( .seq ( .region false [ ⟨(some 15), .mv (.t 6), none, [], []⟩, ⟨(some 16), .mv (.t 1), none, [], []⟩, ⟨(some 17), .len (.t 16), none, [], []⟩, ⟨(some 18), .bin .lss (.t 15) (.t 17), none, [], []⟩] [1, 2, 5, 6, 18]) ( .cond (.t 18) ( .skip) ( .exit 0))) ( .seq ( .block 1 ( .seq ( .seq ( .region false [ ⟨(some 21), .mv (.t 5), none, [], []⟩, ⟨(some 22), .mv (.t 1), none, [], []⟩, ⟨(some 23), .mv (.t 6), none, [], []⟩, ⟨(some 24), .idxs 1 (.t 22) (.t 23), none, [], []⟩, ⟨(some 25), .load none (.t 24), none, [], []⟩, ⟨(some 26), .call 41 [(.t 21), (.t 25)], none, [], []⟩, ⟨(some 27), .un .not (.t 26), none, [], []⟩] [1, 2, 6, 27]) ( .cond (.t 27) ( .seq ( .region false [ ⟨(some 4), .mv (.c (.bool false)), none, [], []⟩] [4]) ( .ret)) ( .skip))) ( .region true (spl [ ⟨(some 28), .faddr 12 (.t 2), none, [], []⟩, ⟨(some 29), .load none (.t 28), none, [0], []⟩, ⟨(some 30), .mv (.t 1), none, [], []⟩, ⟨(some 31), .mv (.t 6), none, [], []⟩, ⟨(some 32), .idxs 1 (.t 30) (.t 31), none, [2, 3], []⟩, ⟨(some 33), .load none (.t 32), none, [4, 2, 3], []⟩] [ ⟨(some 34), .idxs 1 (.t 29) (.t 33), none, [1, 5, 0, 4, 2, 3], []⟩, ⟨(some 35), .load none (.t 34), none, [6, 1, 5, 0, 4, 2, 3], []⟩, ⟨(some 5), .mv (.t 35), none, [7, 6, 1, 5, 0, 4, 2, 3], []⟩]) [1, 2, 5, 6]))) ( .region false [ ⟨(some 19), .mv (.t 6), none, [], []⟩, ⟨(some 20), .bin .add (.t 19) (.c (i64 1)), none, [], []⟩, ⟨(some 6), .mv (.t 20), none, [], []⟩] [1, 2, 5, 6])))) c (fun _ (nx : List Int) => P nx)
    (fun k nx => [(1, .sl .no 1 (es cInt c)), (2, .ptr s.length 32 0), (5, .sl .no 1 (es cInt nx)), (6, i64 k)]) (fun _ _ => [(32, .cell [i64 n0, i64 n1, i64 n2, i64 n3, .sl .no 2 (es cSp n4), .sl .no 2 (es cAnc n5), .sl .no 5 (es cWal n6), i64 n7, i64 n8, .sl .no 2 (es cSp n9), .sl .no 2 (es cBoat n10), .sl .no 4 (es cSky n11), .sl .no 1 (es cInts n12), .sl .no 1 (es cInt n13), .sl .no 2 (es cSp n14)])] :: s)
    (fun nx x => if inB nx x = true then .inl (n12.getD x.toNat []) else .inr (.ret, [(4, .bool false)], [(32, .cell [i64 n0, i64 n1, i64 n2, i64 n3, .sl .no 2 (es cSp n4), .sl .no 2 (es cAnc n5), .sl .no 5 (es cWal n6), i64 n7, i64 n8, .sl .no 2 (es cSp n9), .sl .no 2 (es cBoat n10), .sl .no 4 (es cSky n11), .sl .no 1 (es cInts n12), .sl .no 1 (es cInt n13), .sl .no 2 (es cSp n14)])] :: s))
    (fun nx => (.exit 0, [(1, .sl .no 1 (es cInt c)), (2, .ptr s.length 32 0), (5, .sl .no 1 (es cInt nx)), (6, i64 c.length), (18, .bool false)], [(32, .cell [i64 n0, i64 n1, i64 n2, i64 n3, .sl .no 2 (es cSp n4), .sl .no 2 (es cAnc n5), .sl .no 5 (es cWal n6), i64 n7, i64 n8, .sl .no 2 (es cSp n9), .sl .no 2 (es cBoat n10), .sl .no 4 (es cSky n11), .sl .no 1 (es cInts n12), .sl .no 1 (es cInt n13), .sl .no 2 (es cSp n14)])] :: s))
    ?_ ?_ (fun k j q hk hj h => by split at h <;> simp_all; rw [← h]; simp) ?_ (by simp) n13 ⟨hs.first, (first_ok hok).2⟩
    [(1, .sl .no 1 (es cInt c)), (2, .ptr s.length 32 0), (5, .sl .no 1 (es cInt n13)), (6, i64 0)] ([(32, .cell [i64 n0, i64 n1, i64 n2, i64 n3, .sl .no 2 (es cSp n4), .sl .no 2 (es cAnc n5), .sl .no 5 (es cWal n6), i64 n7, i64 n8, .sl .no 2 (es cSp n9), .sl .no 2 (es cBoat n10), .sl .no 4 (es cSky n11), .sl .no 1 (es cInts n12), .sl .no 1 (es cInt n13), .sl .no 2 (es cSp n14)])] :: s) (by simp) (by simp)
  · have e : ∀ (l : List Int) (nx : List Int), ∃ nx', foldS (fun nx (x : Int) => if inB nx x = true then (.inl (n12.getD x.toNat []) : List Int ⊕ (Ex × Env × Stk)) else .inr (.ret, [(4, .bool false)], [(32, .cell [i64 n0, i64 n1, i64 n2, i64 n3, .sl .no 2 (es cSp n4), .sl .no 2 (es cAnc n5), .sl .no 5 (es cWal n6), i64 n7, i64 n8, .sl .no 2 (es cSp n9), .sl .no 2 (es cBoat n10), .sl .no 4 (es cSky n11), .sl .no 1 (es cInts n12), .sl .no 1 (es cInt n13), .sl .no 2 (es cSp n14)])] :: s))
        (fun nx => (.exit 0, [(1, .sl .no 1 (es cInt c)), (2, .ptr s.length 32 0), (5, .sl .no 1 (es cInt nx)), (6, i64 c.length), (18, .bool false)], [(32, .cell [i64 n0, i64 n1, i64 n2, i64 n3, .sl .no 2 (es cSp n4), .sl .no 2 (es cAnc n5), .sl .no 5 (es cWal n6), i64 n7, i64 n8, .sl .no 2 (es cSp n9), .sl .no 2 (es cBoat n10), .sl .no 4 (es cSky n11), .sl .no 1 (es cInts n12), .sl .no 1 (es cInt n13), .sl .no 2 (es cSp n14)])] :: s)) l nx =
        if courseL (⟨⟨⟨n0, n1⟩, ⟨n2, n3⟩, n4, n5, n6⟩, ⟨⟨n7, n8⟩, n9, n10⟩, n11, n12, n13, n14⟩ : Season) nx l = true then (.exit 0, [(1, .sl .no 1 (es cInt c)), (2, .ptr s.length 32 0), (5, .sl .no 1 (es cInt nx')), (6, i64 c.length), (18, .bool false)], [(32, .cell [i64 n0, i64 n1, i64 n2, i64 n3, .sl .no 2 (es cSp n4), .sl .no 2 (es cAnc n5), .sl .no 5 (es cWal n6), i64 n7, i64 n8, .sl .no 2 (es cSp n9), .sl .no 2 (es cBoat n10), .sl .no 4 (es cSky n11), .sl .no 1 (es cInts n12), .sl .no 1 (es cInt n13), .sl .no 2 (es cSp n14)])] :: s) else (.ret, [(4, .bool false)], [(32, .cell [i64 n0, i64 n1, i64 n2, i64 n3, .sl .no 2 (es cSp n4), .sl .no 2 (es cAnc n5), .sl .no 5 (es cWal n6), i64 n7, i64 n8, .sl .no 2 (es cSp n9), .sl .no 2 (es cBoat n10), .sl .no 4 (es cSky n11), .sl .no 1 (es cInts n12), .sl .no 1 (es cInt n13), .sl .no 2 (es cSp n14)])] :: s) := by
      intro l
      induction l with
      | nil => intro nx; exact ⟨nx, rfl⟩
      | cons x l ih =>
        intro nx
        by_cases h : inB nx x = true
        · obtain ⟨nx', h2⟩ := ih (n12.getD x.toNat [])
          exact ⟨nx', by simp only [foldS, courseL, h, if_true, Bool.true_and]; exact h2⟩
        · have h' : inB nx x = false := by simpa using h
          exact ⟨[], by simp [foldS, courseL, h']⟩
    obtain ⟨nx', h⟩ := e c n13
    rw [h] at key
    exact ⟨nx', key⟩
  · intro k nx hk hP
    obtain ⟨hP1, hP2⟩ := hP
    cases h : inB nx c[k]
    · have h' : anyB (fun y => decide (y = c[k])) nx = false := h
      simp (disch := first | omega | decide +kernel | (simp; done) | (simp; omega) | fail) [hk, h', wk k (by omega)]
    · have h' : anyB (fun y => decide (y = c[k])) nx = true := h
      obtain ⟨x0, x1⟩ := hP2 _ (inB_iff.1 h)
      obtain ⟨hk2, _, hf⟩ := follows_ok hok (k := c[k].toNat) (by simp only; omega)
      simp only at hk2
      have hfo : n12.getD c[k].toNat [] = n12[c[k].toNat] := by simp [List.getD, hk2]
      simp (maxSteps := 4000000) (disch := first | omega | decide +kernel | (simp; done) | (simp; omega) | fail) [run_drawnK, hk, h', x0, hk2, hfo, wk k (by omega)]
  · intro k nx nx' hk hP h
    cases h2 : inB nx c[k]
    · simp [h2] at h
    · simp only [h2, if_true, Sum.inl.injEq] at h
      subst h
      obtain ⟨x0, x1⟩ := hP.2 _ (inB_iff.1 h2)
      obtain ⟨hk2, _, hf⟩ := follows_ok hok (k := c[k].toNat) (by simp only; omega)
      simp only at hk2 hf
      have hfo : n12.getD c[k].toNat [] = n12[c[k].toNat] := by simp [List.getD, hk2]
      rw [hfo]
      exact ⟨hs.each _ (List.getElem_mem hk2), hf⟩
  · intro nx hP
    simp
theorem e_IsCourse (n0 : Int) (n1 : Int) (n2 : Int) (n3 : Int) (n4 : List Sp) (n5 : List Anc) (n6 : List Wal) (n7 : Int) (n8 : Int) (n9 : List Sp) (n10 : List Boat) (n11 : List Sky) (n12 : List (List Int)) (n13 : List Int) (n14 : List Sp) (hs : Short (⟨⟨⟨n0, n1⟩, ⟨n2, n3⟩, n4, n5, n6⟩, ⟨⟨n7, n8⟩, n9, n10⟩, n11, n12, n13, n14⟩ : Season)) (hok : seasonOk (⟨⟨⟨n0, n1⟩, ⟨n2, n3⟩, n4, n5, n6⟩, ⟨⟨n7, n8⟩, n9, n10⟩, n11, n12, n13, n14⟩ : Season) = true) (c : List Int) (hcl : c.length < 4611686018427387904) (lab s) :
    den T 26 [.agg [i64 n0, i64 n1, i64 n2, i64 n3, .sl .no 2 (es cSp n4), .sl .no 2 (es cAnc n5), .sl .no 5 (es cWal n6), i64 n7, i64 n8, .sl .no 2 (es cSp n9), .sl .no 2 (es cBoat n10), .sl .no 4 (es cSky n11), .sl .no 1 (es cInts n12), .sl .no 1 (es cInt n13), .sl .no 2 (es cSp n14)], .sl .no 1 (es cInt c)] lab s = some (.bool (isCourse (⟨⟨⟨n0, n1⟩, ⟨n2, n3⟩, n4, n5, n6⟩, ⟨⟨n7, n8⟩, n9, n10⟩, n11, n12, n13, n14⟩ : Season) c), s) := by
  obtain ⟨nx', key⟩ := e_IsCourse_l n0 n1 n2 n3 n4 n5 n6 n7 n8 n9 n10 n11 n12 n13 n14 hs hok c hcl s
  rw [den_fn t26 _ _ _ rfl]
  simp only [b26]
  by_cases c0 : (c.length : Int) = n14.length
  · have c0' : c.length = n14.length := by omega
    cases c1 : courseL (⟨⟨⟨n0, n1⟩, ⟨n2, n3⟩, n4, n5, n6⟩, ⟨⟨n7, n8⟩, n9, n10⟩, n11, n12, n13, n14⟩ : Season) n13 c
    · simp (disch := first | omega | decide +kernel | (simp; done) | (simp; omega) | fail) [c0, c0', c1, key, isCourse]
    · simp (disch := first | omega | decide +kernel | (simp; done) | (simp; omega) | fail) [c0, c0', c1, key, isCourse]
  · have c0' : ¬ c.length = n14.length := by omega
    simp (disch := first | omega | decide +kernel | (simp; done) | (simp; omega) | fail) [c0, c0', isCourse]

/-! Off over all courses -/
theorem offQ_all (n : Season) : ∀ (l : List (List Int)) (a : (Int × Int) × Bool), (foldB (offY n) l a).2 = true →
    (foldB (offY n) l a).1.1.1 ≤ a.1.1 ∧ a.1.2 ≤ (foldB (offY n) l a).1.1.2 ∧ ∀ c ∈ l, ∃ k, firstMay n 0 c = some k ∧ (foldB (offY n) l a).1.1.1 ≤ (k : Int) ∧ (k : Int) ≤ (foldB (offY n) l a).1.1.2
  | [], a, _ => by simp [foldB]
  | c :: l, a, h => by
    cases h1 : firstMay n 0 c with
    | none =>
      have e : offY n a c = ((a.1, true), false) := by simp only [offY, h1]
      simp [foldB, e] at h
    | some k =>
      have e : offY n a c = (((min a.1.1 k, max a.1.2 k), a.2), true) := by simp only [offY, h1]
      simp only [foldB, e, if_true] at h ⊢
      obtain ⟨p1, p2, p3⟩ := offQ_all n l _ h
      simp only at p1 p2
      refine ⟨by omega, by omega, ?_⟩
      intro c' hc'
      rcases List.mem_cons.1 hc' with rfl | hc'
      · exact ⟨k, h1, by omega, by omega⟩
      · exact p3 c' hc'
theorem offQ_bounds (n : Season) (N : Int) : ∀ (l : List (List Int)) (a : (Int × Int) × Bool), (∀ c ∈ l, (c.length : Int) ≤ N) → 0 ≤ a.1.1 → a.1.2 < N → 0 ≤ (foldB (offY n) l a).1.1.1 ∧ (foldB (offY n) l a).1.1.2 < N
  | [], a, _, h1, h2 => ⟨h1, h2⟩
  | c :: l, a, hl, h1, h2 => by
    cases hf : firstMay n 0 c with
    | none =>
      have e : offY n a c = ((a.1, true), false) := by simp only [offY, hf]
      simp [foldB, e, h1, h2]
    | some k =>
      have e : offY n a c = (((min a.1.1 k, max a.1.2 k), a.2), true) := by simp only [offY, hf]
      simp only [foldB, e, if_true]
      have hk := (firstMay_lt n c 0 k hf).2
      have hc := hl c (by simp)
      exact offQ_bounds n N l _ (fun c hc => hl c (by simp [hc])) (by simp only; omega) (by simp only; omega)
/-- some course there is -/
theorem courses_some {n : Season} (hok : seasonOk n = true) : ∀ (r : Nat) (c nx : List Int), nx ≠ [] → (∀ x : Int, x ∈ nx → 0 ≤ x ∧ x < (n.skies.length : Int)) → coursesFrom n r c nx ≠ []
  | 0, c, nx, _, _ => by simp [coursesFrom]
  | r + 1, c, nx, hne, hx => by
    cases nx with
    | nil => exact absurd rfl hne
    | cons x nx =>
      obtain ⟨x0, x1⟩ := hx x (by simp)
      obtain ⟨hk2, hn, hf⟩ := follows_ok hok (k := x.toNat) (by omega)
      have hfo : n.follows.getD x.toNat [] = n.follows[x.toNat] := by simp [List.getD, hk2]
      have := courses_some hok r (c ++ [x]) n.follows[x.toNat] hn hf
      simp only [coursesFrom, List.flatMap_cons, hfo]
      intro h
      exact this (List.append_eq_nil_iff.1 h).1
end Go.Proofs.Ytekgicoibcgecaa

/-
  SkiesPut: the equation.
-/
namespace Go.Proofs.Ytekgicoibcgecaa
open Go.Ab

def putG (n : Season) (a : Int × Int) (x : Int) : Int × Int := (a.1 - 1, if mayS n a.1.toNat x.toNat = true then a.1 else a.2)
theorem putG_first (n : Season) (v : Int) : ∀ (l : List Int) (k : Nat), l.reverse.foldl (putG n) ((k : Int) + l.length - 1, v) = ((k : Int) - 1, match firstMay n k l with
    | some j => (j : Int)
    | none => v)
  | [], k => by simp [firstMay]
  | x :: l, k => by
    have ih := putG_first n v l (k + 1)
    rw [List.reverse_cons, List.foldl_append]
    rw [show (k : Int) + ((x :: l).length : Nat) - 1 = ((k + 1 : Nat) : Int) + (l.length : Nat) - 1 by simp only [List.length_cons]; omega, ih]
    simp only [List.foldl_cons, List.foldl_nil, putG, firstMay]
    rw [show ((k + 1 : Nat) : Int) - 1 = (k : Int) by omega, Int.toNat_natCast]
    split <;> simp_all

set_option maxHeartbeats 1000000 in
theorem e_SkiesPut_l (n0 : Int) (n1 : Int) (n2 : Int) (n3 : Int) (n4 : List Sp) (n5 : List Anc) (n6 : List Wal) (n7 : Int) (n8 : Int) (n9 : List Sp) (n10 : List Boat) (n11 : List Sky) (n12 : List (List Int)) (n13 : List Int) (n14 : List Sp) (hs : Short (⟨⟨⟨n0, n1⟩, ⟨n2, n3⟩, n4, n5, n6⟩, ⟨⟨n7, n8⟩, n9, n10⟩, n11, n12, n13, n14⟩ : Season)) (hok : seasonOk (⟨⟨⟨n0, n1⟩, ⟨n2, n3⟩, n4, n5, n6⟩, ⟨⟨n7, n8⟩, n9, n10⟩, n11, n12, n13, n14⟩ : Season) = true) (c : List Int) (hcl : c.length = n14.length) (hc : ∀ x : Int, x ∈ c → 0 ≤ x ∧ x < (n11.length : Int)) (lo hi e : Int) (s : Stk) :
    Run T b8l0 [(1, .sl .no 1 (es cInt c)), (2, .ptr s.length 32 0), (5, .ptr s.length 80 0), (6, i64 e), (7, i64 c.length), (8, i64 ((c.length : Int) - 1))] ([(32, .cell [i64 n0, i64 n1, i64 n2, i64 n3, .sl .no 2 (es cSp n4), .sl .no 2 (es cAnc n5), .sl .no 5 (es cWal n6), i64 n7, i64 n8, .sl .no 2 (es cSp n9), .sl .no 2 (es cBoat n10), .sl .no 4 (es cSky n11), .sl .no 1 (es cInts n12), .sl .no 1 (es cInt n13), .sl .no 2 (es cSp n14)]), (80, .cell [i64 lo, i64 hi])] :: s) =
      some (.exit 0, [(1, .sl .no 1 (es cInt c)), (2, .ptr s.length 32 0), (5, .ptr s.length 80 0), (6, i64 e), (7, i64 (match firstMay (⟨⟨⟨n0, n1⟩, ⟨n2, n3⟩, n4, n5, n6⟩, ⟨⟨n7, n8⟩, n9, n10⟩, n11, n12, n13, n14⟩ : Season) 0 c with
        | some j => (j : Int)
        | none => (c.length : Int))), (8, i64 (-1)), (65, .bool false)], [(32, .cell [i64 n0, i64 n1, i64 n2, i64 n3, .sl .no 2 (es cSp n4), .sl .no 2 (es cAnc n5), .sl .no 5 (es cWal n6), i64 n7, i64 n8, .sl .no 2 (es cSp n9), .sl .no 2 (es cBoat n10), .sl .no 4 (es cSky n11), .sl .no 1 (es cInts n12), .sl .no 1 (es cInt n13), .sl .no 2 (es cSp n14)]), (80, .cell [i64 lo, i64 hi])] :: s) := by
  obtain ⟨_, _, q3, q4, q5, _, q7, _, _⟩ := seasonOk_iff.1 hok
  simp only at q4 q7
  have hm := fun (day sky : Int) lab s => e_may13law n0 n1 n2 n3 n4 n5 n6 n7 n8 n9 n10 n11 n12 n13 n14 hs day sky lab s
  have key := loop_fold (T := T) (live := [1, 2, 5, 6, 7, 8]) (keep := [32, 80, 192, 352, 400, 448, 512, 656, 752, 1552]) (b := ( .seq ( .seq ( .region false [ ⟨(some 64), .mv (.t 8), none, [], []⟩, ⟨(some 65), .bin .geq (.t 64) (.c (i64 0)), none, [], []⟩] [1, 2, 5, 6, 7, 8, 65]) ( .cond (.t 65) ( .skip) ( .exit 0))) ( .seq ( .block 1 ( .seq ( .region true (spl [ ⟨(some 69), .load (some 15) (.t 2), none, [], []⟩, ⟨(some 70), .mv (.t 8), none, [], []⟩, ⟨(some 71), .mv (.t 1), none, [], []⟩, ⟨(some 72), .mv (.t 8), none, [], []⟩, ⟨(some 73), .idxs 1 (.t 71) (.t 72), none, [2, 3], []⟩, ⟨(some 74), .load none (.t 73), none, [4, 2, 3], []⟩, ⟨(some 75), .call 29 [(.t 69), (.t 70), (.t 74)], none, [0, 1, 5, 4, 2, 3], []⟩, ⟨(some 68), .mv (.t 75), none, [6, 0, 1, 5, 4, 2, 3], []⟩, ⟨(some 76), .ext (.t 68) 0, none, [7, 6, 0, 1, 5, 4, 2, 3], []⟩, ⟨(some 77), .ext (.t 68) 1, none, [7, 6, 0, 1, 5, 4, 2, 3], []⟩, ⟨(some 9), .mv (.t 76), none, [8, 7, 6, 0, 1, 5, 4, 2, 3], []⟩] [ ⟨(some 10), .mv (.t 77), none, [9, 10, 8, 7, 6, 0, 1, 5, 4, 2, 3], []⟩]) [1, 2, 5, 6, 7, 8, 9, 10]) ( .seq ( .seq ( .region false [ ⟨(some 78), .mv (.t 10), none, [], []⟩, ⟨(some 79), .un .not (.t 78), none, [], []⟩] [1, 2, 5, 6, 7, 8, 9, 79]) ( .cond (.t 79) ( .seq ( .region false [ ⟨(some 4), .mv (.c (.bool false)), none, [], []⟩] [4]) ( .ret)) ( .skip))) ( .seq ( .region false [ ⟨(some 80), .mv (.t 9), none, [], []⟩] [1, 2, 5, 6, 7, 8, 80]) ( .cond (.t 80) ( .region false [ ⟨(some 81), .mv (.t 8), none, [], []⟩, ⟨(some 7), .mv (.t 81), none, [], []⟩] [1, 2, 5, 6, 7, 8]) ( .skip)))))) ( .region false [ ⟨(some 66), .mv (.t 8), none, [], []⟩, ⟨(some 67), .bin .sub (.t 66) (.c (i64 1)), none, [], []⟩, ⟨(some 8), .mv (.t 67), none, [], []⟩] [1, 2, 5, 6, 7, 8])))) c.reverse (fun k (a : Int × Int) => a.1 = (c.length : Int) - 1 - k) (putG (⟨⟨⟨n0, n1⟩, ⟨n2, n3⟩, n4, n5, n6⟩, ⟨⟨n7, n8⟩, n9, n10⟩, n11, n12, n13, n14⟩ : Season))
    (fun _ a => [(1, .sl .no 1 (es cInt c)), (2, .ptr s.length 32 0), (5, .ptr s.length 80 0), (6, i64 e), (7, i64 a.2), (8, i64 a.1)]) (fun _ _ => [(32, .cell [i64 n0, i64 n1, i64 n2, i64 n3, .sl .no 2 (es cSp n4), .sl .no 2 (es cAnc n5), .sl .no 5 (es cWal n6), i64 n7, i64 n8, .sl .no 2 (es cSp n9), .sl .no 2 (es cBoat n10), .sl .no 4 (es cSky n11), .sl .no 1 (es cInts n12), .sl .no 1 (es cInt n13), .sl .no 2 (es cSp n14)]), (80, .cell [i64 lo, i64 hi])] :: s)
    (fun a => (.exit 0, [(1, .sl .no 1 (es cInt c)), (2, .ptr s.length 32 0), (5, .ptr s.length 80 0), (6, i64 e), (7, i64 a.2), (8, i64 a.1), (65, .bool false)], [(32, .cell [i64 n0, i64 n1, i64 n2, i64 n3, .sl .no 2 (es cSp n4), .sl .no 2 (es cAnc n5), .sl .no 5 (es cWal n6), i64 n7, i64 n8, .sl .no 2 (es cSp n9), .sl .no 2 (es cBoat n10), .sl .no 4 (es cSky n11), .sl .no 1 (es cInts n12), .sl .no 1 (es cInt n13), .sl .no 2 (es cSp n14)]), (80, .cell [i64 lo, i64 hi])] :: s))
    (by simp) ?_ (fun k a hk hi => by simp only [putG]; omega) ?_ ((c.length : Int) - 1, (c.length : Int)) (by omega) [(1, .sl .no 1 (es cInt c)), (2, .ptr s.length 32 0), (5, .ptr s.length 80 0), (6, i64 e), (7, i64 c.length), (8, i64 ((c.length : Int) - 1))] ([(32, .cell [i64 n0, i64 n1, i64 n2, i64 n3, .sl .no 2 (es cSp n4), .sl .no 2 (es cAnc n5), .sl .no 5 (es cWal n6), i64 n7, i64 n8, .sl .no 2 (es cSp n9), .sl .no 2 (es cBoat n10), .sl .no 4 (es cSky n11), .sl .no 1 (es cInts n12), .sl .no 1 (es cInt n13), .sl .no 2 (es cSp n14)]), (80, .cell [i64 lo, i64 hi])] :: s) (by simp) (by simp)
  · have h := putG_first (⟨⟨⟨n0, n1⟩, ⟨n2, n3⟩, n4, n5, n6⟩, ⟨⟨n7, n8⟩, n9, n10⟩, n11, n12, n13, n14⟩ : Season) (c.length : Int) c 0
    rw [show ((0 : Nat) : Int) + (c.length : Int) - 1 = (c.length : Int) - 1 by omega] at h
    rw [h] at key
    exact key
  · intro k a hk hi
    simp only [List.length_reverse] at hk
    obtain ⟨j, v⟩ := a
    simp only at hi
    obtain ⟨i, rfl⟩ : ∃ i : Nat, j = i := ⟨c.length - 1 - k, by omega⟩
    have hi2 : i = c.length - 1 - k := by omega
    have hil : i < c.length := by omega
    have hx : c.reverse[k]'(by simpa using hk) = c[i] := by rw [List.getElem_reverse]; congr 1; omega
    rw [hx]
    obtain ⟨x0, x1⟩ := hc c[i] (List.getElem_mem hil)
    have hd : isDayS (⟨⟨⟨n0, n1⟩, ⟨n2, n3⟩, n4, n5, n6⟩, ⟨⟨n7, n8⟩, n9, n10⟩, n11, n12, n13, n14⟩ : Season) i = true := within_iff.2 ⟨by omega, by simp only; omega⟩
    have hk2 : isSkyS (⟨⟨⟨n0, n1⟩, ⟨n2, n3⟩, n4, n5, n6⟩, ⟨⟨n7, n8⟩, n9, n10⟩, n11, n12, n13, n14⟩ : Season) c[i] = true := within_iff.2 ⟨x0, by simp only; omega⟩
    have hmr : mayR (⟨⟨⟨n0, n1⟩, ⟨n2, n3⟩, n4, n5, n6⟩, ⟨⟨n7, n8⟩, n9, n10⟩, n11, n12, n13, n14⟩ : Season) i c[i] = (mayS (⟨⟨⟨n0, n1⟩, ⟨n2, n3⟩, n4, n5, n6⟩, ⟨⟨n7, n8⟩, n9, n10⟩, n11, n12, n13, n14⟩ : Season) i c[i].toNat, 0) := by simp [mayR, hok, hd, hk2]
    have hm2 := hm i c[i]
    rw [hmr] at hm2
    have hpos : ¬ (i : Int) < 0 := by omega
    simp only [putG, Int.toNat_natCast]
    cases c0 : mayS (⟨⟨⟨n0, n1⟩, ⟨n2, n3⟩, n4, n5, n6⟩, ⟨⟨n7, n8⟩, n9, n10⟩, n11, n12, n13, n14⟩ : Season) i c[i].toNat
    · rw [c0] at hm2
      simp (maxSteps := 4000000) (disch := first | omega | decide +kernel | (simp; done) | (simp; omega) | fail) [run_drawnK, hil, hm2, wi, hpos]
    · rw [c0] at hm2
      simp (maxSteps := 4000000) (disch := first | omega | decide +kernel | (simp; done) | (simp; omega) | fail) [run_drawnK, hil, hm2, wi, hpos]
  · intro a hi
    obtain ⟨j, v⟩ := a
    simp only [List.length_reverse] at hi
    obtain rfl : j = -1 := by omega
    simp

set_option maxHeartbeats 4000000 in
theorem e_SkiesPut (n0 : Int) (n1 : Int) (n2 : Int) (n3 : Int) (n4 : List Sp) (n5 : List Anc) (n6 : List Wal) (n7 : Int) (n8 : Int) (n9 : List Sp) (n10 : List Boat) (n11 : List Sky) (n12 : List (List Int)) (n13 : List Int) (n14 : List Sp) (hs : Short (⟨⟨⟨n0, n1⟩, ⟨n2, n3⟩, n4, n5, n6⟩, ⟨⟨n7, n8⟩, n9, n10⟩, n11, n12, n13, n14⟩ : Season)) (c : List Int) (hcl : c.length < 4611686018427387904) (lab s) : den T 8 [.agg [i64 n0, i64 n1, i64 n2, i64 n3, .sl .no 2 (es cSp n4), .sl .no 2 (es cAnc n5), .sl .no 5 (es cWal n6), i64 n7, i64 n8, .sl .no 2 (es cSp n9), .sl .no 2 (es cBoat n10), .sl .no 4 (es cSky n11), .sl .no 1 (es cInts n12), .sl .no 1 (es cInt n13), .sl .no 2 (es cSp n14)], .sl .no 1 (es cInt c)] lab s = some (.bool true, s) := by
  have hr := fun lab s => e_ready n0 n1 n2 n3 n4 n5 n6 n7 n8 n9 n10 n11 n12 n13 n14 hs.skies hs.follows hs.first hs.days hs.each lab s
  have hx := e_works
  have ho := fun lab s => e_Off n0 n1 n2 n3 n4 n5 n6 n7 n8 n9 n10 n11 n12 n13 n14 hs lab s
  have hd := fun (day : Int) lab s => e_IsDay13 n0 n1 n2 n3 n4 n5 n6 n7 n8 n9 n10 n11 n12 n13 n14 day hs.days lab s
  rw [den_fn t8 _ _ _ rfl]
  simp only [b8]
  cases c0 : ready (⟨⟨⟨n0, n1⟩, ⟨n2, n3⟩, n4, n5, n6⟩, ⟨⟨n7, n8⟩, n9, n10⟩, n11, n12, n13, n14⟩ : Season)
  · simp (disch := first | omega | decide +kernel | (simp; done) | (simp; omega) | fail) [hr, c0, hx]
  have hok : seasonOk (⟨⟨⟨n0, n1⟩, ⟨n2, n3⟩, n4, n5, n6⟩, ⟨⟨n7, n8⟩, n9, n10⟩, n11, n12, n13, n14⟩ : Season) = true := by simp only [ready, Bool.and_eq_true] at c0; exact c0.2
  by_cases c1 : (40 : Int) < c.length
  · simp (disch := first | omega | decide +kernel | (simp; done) | (simp; omega) | fail) [hr, c0, c1, hx]
  have hic := fun lab s => e_IsCourse n0 n1 n2 n3 n4 n5 n6 n7 n8 n9 n10 n11 n12 n13 n14 hs hok c hcl lab s
  cases c2 : isCourse (⟨⟨⟨n0, n1⟩, ⟨n2, n3⟩, n4, n5, n6⟩, ⟨⟨n7, n8⟩, n9, n10⟩, n11, n12, n13, n14⟩ : Season) c
  · simp (disch := first | omega | decide +kernel | (simp; done) | (simp; omega) | fail) [hr, c0, c1, hx, hic, c2]
  have c2' := c2
  simp only [isCourse, Bool.and_eq_true, decide_eq_true_eq] at c2'
  obtain ⟨hlen, hcl2⟩ := c2'
  have hmem : c ∈ coursesFrom (⟨⟨⟨n0, n1⟩, ⟨n2, n3⟩, n4, n5, n6⟩, ⟨⟨n7, n8⟩, n9, n10⟩, n11, n12, n13, n14⟩ : Season) n14.length [] n13 := by rw [← hlen]; exact course_mem (⟨⟨⟨n0, n1⟩, ⟨n2, n3⟩, n4, n5, n6⟩, ⟨⟨n7, n8⟩, n9, n10⟩, n11, n12, n13, n14⟩ : Season) c [] n13 hcl2
  have hco := coursesFrom_ok hok n14.length [] n13 (by simp) (by simp) (first_ok hok).2
  have hcr := (hco c hmem).2
  have hor : offR (⟨⟨⟨n0, n1⟩, ⟨n2, n3⟩, n4, n5, n6⟩, ⟨⟨n7, n8⟩, n9, n10⟩, n11, n12, n13, n14⟩ : Season) = if (offQ (⟨⟨⟨n0, n1⟩, ⟨n2, n3⟩, n4, n5, n6⟩, ⟨⟨n7, n8⟩, n9, n10⟩, n11, n12, n13, n14⟩ : Season)).2 = true then ((offQ (⟨⟨⟨n0, n1⟩, ⟨n2, n3⟩, n4, n5, n6⟩, ⟨⟨n7, n8⟩, n9, n10⟩, n11, n12, n13, n14⟩ : Season)).1.1, 0) else ((0, 0), 3) := by rw [offR, if_pos hok]
  have hal := offQ_all (⟨⟨⟨n0, n1⟩, ⟨n2, n3⟩, n4, n5, n6⟩, ⟨⟨n7, n8⟩, n9, n10⟩, n11, n12, n13, n14⟩ : Season) (coursesFrom (⟨⟨⟨n0, n1⟩, ⟨n2, n3⟩, n4, n5, n6⟩, ⟨⟨n7, n8⟩, n9, n10⟩, n11, n12, n13, n14⟩ : Season) n14.length [] n13) (((n14.length : Int), -1), false)
  have hbo := offQ_bounds (⟨⟨⟨n0, n1⟩, ⟨n2, n3⟩, n4, n5, n6⟩, ⟨⟨n7, n8⟩, n9, n10⟩, n11, n12, n13, n14⟩ : Season) (n14.length : Int) (coursesFrom (⟨⟨⟨n0, n1⟩, ⟨n2, n3⟩, n4, n5, n6⟩, ⟨⟨n7, n8⟩, n9, n10⟩, n11, n12, n13, n14⟩ : Season) n14.length [] n13) (((n14.length : Int), -1), false) (fun e he => by have := (hco e he).1; simp only at this; omega) (by simp) (by simp only; omega)
  change (offQ (⟨⟨⟨n0, n1⟩, ⟨n2, n3⟩, n4, n5, n6⟩, ⟨⟨n7, n8⟩, n9, n10⟩, n11, n12, n13, n14⟩ : Season)).2 = true → _ at hal
  change 0 ≤ (offQ (⟨⟨⟨n0, n1⟩, ⟨n2, n3⟩, n4, n5, n6⟩, ⟨⟨n7, n8⟩, n9, n10⟩, n11, n12, n13, n14⟩ : Season)).1.1.1 ∧ (offQ (⟨⟨⟨n0, n1⟩, ⟨n2, n3⟩, n4, n5, n6⟩, ⟨⟨n7, n8⟩, n9, n10⟩, n11, n12, n13, n14⟩ : Season)).1.1.2 < _ at hbo
  have hall : (offQ (⟨⟨⟨n0, n1⟩, ⟨n2, n3⟩, n4, n5, n6⟩, ⟨⟨n7, n8⟩, n9, n10⟩, n11, n12, n13, n14⟩ : Season)).2 = true → ∃ k, firstMay (⟨⟨⟨n0, n1⟩, ⟨n2, n3⟩, n4, n5, n6⟩, ⟨⟨n7, n8⟩, n9, n10⟩, n11, n12, n13, n14⟩ : Season) 0 c = some k ∧ (offQ (⟨⟨⟨n0, n1⟩, ⟨n2, n3⟩, n4, n5, n6⟩, ⟨⟨n7, n8⟩, n9, n10⟩, n11, n12, n13, n14⟩ : Season)).1.1.1 ≤ (k : Int) ∧ (k : Int) ≤ (offQ (⟨⟨⟨n0, n1⟩, ⟨n2, n3⟩, n4, n5, n6⟩, ⟨⟨n7, n8⟩, n9, n10⟩, n11, n12, n13, n14⟩ : Season)).1.1.2 := fun h => (hal h).2.2 c hmem
  have key := fun lo hi e => e_SkiesPut_l n0 n1 n2 n3 n4 n5 n6 n7 n8 n9 n10 n11 n12 n13 n14 hs hok c hlen hcr lo hi e s
  rw [hor] at ho
  generalize offQ (⟨⟨⟨n0, n1⟩, ⟨n2, n3⟩, n4, n5, n6⟩, ⟨⟨n7, n8⟩, n9, n10⟩, n11, n12, n13, n14⟩ : Season) = q at *
  obtain ⟨⟨⟨lo, hi⟩, b1⟩, b2⟩ := q
  cases b2
  · simp (maxSteps := 4000000) (disch := first | omega | decide +kernel | (simp; done) | (simp; omega) | fail) [run_drawnK, hr, c0, c1, hx, hic, c2, ho, key, wi]
  · obtain ⟨k, hk, hk1, hk2⟩ := hall rfl
    simp only at hk1 hk2 hbo
    simp only [hk] at key
    have d1 : within lo 0 ((n14.length : Int) - 1) = true := within_iff.2 ⟨by omega, by omega⟩
    have d2 : within hi 0 ((n14.length : Int) - 1) = true := within_iff.2 ⟨by omega, by omega⟩
    have d3 : ¬ hi < lo := by omega
    simp (maxSteps := 4000000) (disch := first | omega | decide +kernel | (simp; done) | (simp; omega) | fail) [run_drawnK, hr, c0, c1, hx, hic, c2, ho, key, wi, hd, d1, d2, d3, hk1, hk2]
end Go.Proofs.Ytekgicoibcgecaa
