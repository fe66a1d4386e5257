/-
  skies: Off, Regret.
-/
import Derived.Test.YtekgicoibcgecaaGreatEq2
import Derived.Test.YtekgicoibcgecaaGreatAb6
set_option linter.unusedSimpArgs false
set_option linter.unusedVariables false
namespace Go.Proofs.YtekgicoibcgecaaGreat
open Go.Ab
theorem coursesFrom_ok {n : Season} (hok : seasonOk n = true) : ∀ (r : Nat) (c nx : List Int), c.length + r = n.days.length → (∀ x : Int, x ∈ c → 0 ≤ x ∧ x < (n.skies.length : Int)) → (∀ x : Int, x ∈ nx → 0 ≤ x ∧ x < (n.skies.length : Int)) →
 ∀ e ∈ coursesFrom n r c nx, e.length = n.days.length ∧ ∀ x : Int, x ∈ e → 0 ≤ x ∧ x < (n.skies.length : Int)
 | 0, c, nx, hr, hc, _, e, he => by
   simp only [coursesFrom, List.mem_singleton] at he
   subst he
   exact ⟨by omega, hc⟩
 | r + 1, c, nx, hr, hc, hx, e, he => by
   simp only [coursesFrom, List.mem_flatMap] at he
   obtain ⟨x, h1, h2⟩ := he
   obtain ⟨hx0, hx1⟩ := hx x h1
   obtain ⟨hk2, _, hf⟩ := follows_ok hok (k := x.toNat) (by omega)
   have hfo : n.follows.getD x.toNat [] = n.follows[x.toNat] := by simp [List.getD, hk2]
   rw [hfo] at h2
   refine coursesFrom_ok hok r (c ++ [x]) _ (by simp; omega) (fun y hy => ?_) hf e h2
   rcases List.mem_append.1 hy with h | h
   ·exact hc y h
   ·simp only [List.mem_singleton] at h; subst h; exact ⟨hx0, hx1⟩
def firstMay (n : Season) : Nat → List Int → Option Nat
 | _, [] => none
 | k, x :: c => if mayS n k x.toNat = true then some k else firstMay n (k + 1) c
def season0 (n : Season) : List V := [i64 n.net.wind.lo, i64 n.net.wind.hi, i64 n.net.cur.lo, i64 n.net.cur.hi, .sl .no 2 (es cSp n.net.grips), .sl .no 2 (es cAnc n.net.anch), .sl .no 5 (es cWal n.net.walls), i64 n.sea.weight.lo, i64 n.sea.weight.hi, .sl .no 2 (es cSp n.sea.places), .sl .no 2 (es cBoat n.sea.boats), .sl .no 4 (es cSky n.skies), .sl .no 1 (es cInts n.follows), .sl .no 1 (es cInt n.first), .sl .no 2 (es cSp n.days)]
def offEnv (d : Nat) : Env := [(2, .ptr d 32 0), (3, .ptr d 48 0), (4, .ptr d 64 0), (6, .ptr d 96 0), (24, .fn 77 [.ptr d 192 0] [])]
def offF (n : Season) (d : Nat) (x : LoopState) (p : Option Ex) (a : (Int × Int) × Bool) : Ab.Loc := [(16, .cell (season0 n)), (32, .cell [i64 0, i64 0]), (48, .cell [i64 (if a.2 then 3 else 0)]), (192, .cell (seasonCell n)), (64, .cell [.ptr d 192 0]), (96, .cell [i64 a.1.1, i64 a.1.2]), (6407, .loop [25] b25l1 b25l2 (offEnv d) x p)]
def offY (n : Season) (a : (Int × Int) × Bool) (c : List Int) : ((Int × Int) × Bool) × Bool := match firstMay n 0 c with
 | some k => (((min a.1.1 k, max a.1.2 k), a.2), true)
 | none => ((a.1, true), false)
theorem off_body (n : Season) (hok : seasonOk n = true) (c : List Int) (hc : ∀ x : Int, x ∈ c → 0 ≤ x ∧ x < (n.skies.length : Int)) (hcl : c.length = n.days.length) (d : Nat) (X : (Int × Int) × Bool → Stk) (hd : ∀ a, d < (X a).length)
 (h64 : ∀ a, sget (X a) d 64 = some (.cell [.ptr d 192 0])) (hsea : ∀ a, sget (X a) d 192 = some (.cell (seasonCell n))) (h96 : ∀ a, sget (X a) d 96 = some (.cell [i64 a.1.1, i64 a.1.2]))
 (h32 : ∀ a, sget (X a) d 32 = some (.cell [i64 0, i64 0])) (h48 : ∀ a, sget (X a) d 48 = some (.cell [i64 (if a.2 then 3 else 0)]))
 (p96 : ∀ a lo hi, sput (X a) d 96 (.cell [i64 lo, i64 hi]) = X ((lo, hi), a.2)) (p32 : ∀ a, sput (X a) d 32 (.cell [i64 0, i64 0]) = X a) (p48 : ∀ a, sput (X a) d 48 (.cell [i64 3]) = X (a.1, true)) (a) :
 ∃ e, Run T b25l2 [(2, .ptr d 32 0), (3, .ptr d 48 0), (4, .ptr d 64 0), (6, .ptr d 96 0), (7, .sl .no 1 (es cInt c))] ([] :: X a) = some (if (offY n a c).2 = true then .normal else .ret, e, [] :: X (offY n a c).1) := by
 obtain ⟨_, _, q3, q4, q5, _, q7, _, _⟩ := seasonOk_iff.1 hok
 have hd' : ∀ a, ¬ d = (X a).length := fun a => by have := hd a; omega
 have key := loop_list (T := T) (live := [2, 3, 4, 6, 26, 27, 28]) (keep := [16, 32, 48, 64, 96, 192]) (b := d25l0) c (fun k (j : Nat) => j = k)
  (fun k _ => [(2, .ptr d 32 0), (3, .ptr d 48 0), (4, .ptr d 64 0), (6, .ptr d 96 0), (26, .sl .no 1 (es cInt c)), (27, i64 c.length), (28, i64 k)]) (fun _ _ => [] :: X a)
  (fun j x => if mayS n j x.toNat = true then .inr (.exit 1, [(2, .ptr d 32 0), (3, .ptr d 48 0), (6, .ptr d 96 0)], [] :: X ((min a.1.1 j, max a.1.2 j), a.2)) else .inl (j + 1))
  (fun _ => (.exit 2, [(2, .ptr d 32 0), (3, .ptr d 48 0), (4, .ptr d 64 0), (6, .ptr d 96 0), (26, .sl .no 1 (es cInt c)), (27, i64 c.length), (28, i64 c.length), (29, .bool false)], [] :: X a))
  ?_ (fun k j j' hk hj h => by split at h <;> simp_all) (fun k j q hk hj h => by split at h <;> simp_all; rw [← h]; simp) ?_ (by simp) 0 rfl
  [(2, .ptr d 32 0), (3, .ptr d 48 0), (4, .ptr d 64 0), (6, .ptr d 96 0), (26, .sl .no 1 (es cInt c)), (27, i64 c.length), (28, i64 0)] ([] :: X a) (by simp [hd' a]) (by simp)
 ·have e : ∀ (l : List Int) (j : Nat), foldS (fun j (x : Int) => if mayS n j x.toNat = true then (.inr (.exit 1, [(2, .ptr d 32 0), (3, .ptr d 48 0), (6, .ptr d 96 0)], [] :: X ((min a.1.1 j, max a.1.2 j), a.2)) : Nat ⊕ (Ex × Env × Stk)) else .inl (j + 1))
   (fun _ => (.exit 2, [(2, .ptr d 32 0), (3, .ptr d 48 0), (4, .ptr d 64 0), (6, .ptr d 96 0), (26, .sl .no 1 (es cInt c)), (27, i64 c.length), (28, i64 c.length), (29, .bool false)], [] :: X a)) l j =
   match firstMay n j l with
   | some k => (.exit 1, [(2, .ptr d 32 0), (3, .ptr d 48 0), (6, .ptr d 96 0)], [] :: X ((min a.1.1 k, max a.1.2 k), a.2))
   | none => (.exit 2, [(2, .ptr d 32 0), (3, .ptr d 48 0), (4, .ptr d 64 0), (6, .ptr d 96 0), (26, .sl .no 1 (es cInt c)), (27, i64 c.length), (28, i64 c.length), (29, .bool false)], [] :: X a) := by
   intro l
   induction l with
   | nil => intro j; rfl
   | cons x l ih =>
     intro j
     simp only [foldS, firstMay]
     by_cases h : mayS n j x.toNat = true
     ·simp only [h, if_true]
     ·simp only [h, if_false, ih]; rfl
  rw [e] at key
  change Run T b25l0 _ _ = _ at key
  simp only [b25l2]
  cases h : firstMay n 0 c with
  | some k =>
    simp only [h] at key
    have e1 : offY n a c = (((min a.1.1 k, max a.1.2 k), a.2), true) := by simp only [offY, h]
    rw [e1]
    refine ⟨[(2, .ptr d 32 0), (3, .ptr d 48 0), (6, .ptr d 96 0)], ?_⟩
    simp (disch := first | omega | assumption | decide +kernel | (simp; done) | (simp; omega) | fail) [hd', key]
  | none =>
    simp only [h] at key
    have e1 : offY n a c = ((a.1, true), false) := by simp only [offY, h]
    rw [e1]
    refine ⟨[(2, .ptr d 32 0), (3, .ptr d 48 0)], ?_⟩
    simp (disch := first | omega | assumption | decide +kernel | (simp; done) | (simp; omega) | fail) [hd', key, h32, h48, p32, p48]
 ·intro k j hk hj
  subst hj
  obtain ⟨h0, h1⟩ := hc c[j] (List.getElem_mem hk)
  have hsk : ((c[j].toNat : Nat) : Int) = c[j] := by omega
  have hm := fun lab => e_may n j c[j].toNat (by omega) (by omega) d 192 ([] :: X a) (by have := hd a; simp; omega) (by rw [sget_cons, if_neg (hd' a), hsea a]) lab
  rw [hsk] at hm
  cases c0 : mayS n j c[j].toNat
  ·simp (disch := first | omega | assumption | decide +kernel | (simp; done) | (simp; omega) | fail) [hk, hd', h64, hm, c0, wk j (by omega)]
  ·simp (disch := first | omega | assumption | decide +kernel | (simp; done) | (simp; omega) | fail) [hk, hd', h64, h96, p96, hm, c0]
 ·intro j hj
  simp [hd' a]
def offSt (n : Season) (S0 : Stk) (a : (Int × Int) × Bool) : Stk := offF n S0.length (if a.2 then .done else .ready) (if a.2 then some .ret else none) a :: S0
theorem off_yield (n : Season) (hok : seasonOk n = true) (S0 : Stk) :
 Yield13 n ((Int × Int) × Bool) (fun a => a.2 = false) S0.length 6407 S0.length 192 (S0.length + 1) (offSt n S0) (offY n) where
 len := fun a => by simp [offSt]
 lt := by omega
 ltd := by omega
 sea := fun a => by rw [offSt, sget_top]; rfl
 keep := fun a c ha hb => by
  simp only [offY] at hb ⊢
  cases h : firstMay n 0 c <;> simp_all
 yield := fun fr a c lab ha hc hcl => by
  have top : ∀ (x : LoopState) p a l', sget (fr ++ offF n S0.length x p a :: S0) S0.length l' = (offF n S0.length x p a).get l' := fun x p a l' => by
   rw [sget_append _ _ _ _ (by simp), sget_top]
  have put : ∀ (x : LoopState) p a l' en, sput (fr ++ offF n S0.length x p a :: S0) S0.length l' en = fr ++ (offF n S0.length x p a).put l' en :: S0 := fun x p a l' en => by
   rw [sput_append _ _ _ _ _ (by simp), sput_top]
  have hlen : ∀ (x : LoopState) p a, S0.length < (fr ++ offF n S0.length x p a :: S0).length := fun x p a => by simp; omega
  obtain ⟨o, b⟩ := a
  simp only at ha
  subst ha
  obtain ⟨e, hB⟩ := off_body n hok c hc hcl S0.length (fun a => fr ++ offF n S0.length .busy none a :: S0) (fun a => hlen _ _ _) (fun a => by rw [top]; rfl) (fun a => by rw [top]; rfl) (fun a => by rw [top]; rfl) (fun a => by rw [top]; rfl) (fun a => by rw [top]; rfl)
   (fun a lo hi => by rw [put]; rfl) (fun a => by rw [put]; rfl) (fun a => by rw [put]; rfl) (o, false)
  change denV T _ _ lab (fr ++ offF n S0.length .ready none (o, false) :: S0) = _
  refine (yld_run (ps := [25]) (A := b25l1) (B := b25l2) (env := offEnv S0.length) (ex := if (offY n (o, false) c).2 = true then .normal else .ret) (st := .busy) (p := none) (s3 := fr ++ offF n S0.length .busy none (offY n (o, false) c).1 :: S0) (by rw [top]; rfl) rfl
   (e1 := [(2, .ptr S0.length 32 0), (3, .ptr S0.length 48 0), (4, .ptr S0.length 64 0), (6, .ptr S0.length 96 0), (7, .sl .no 1 (es cInt c))]) (fr1 := []) ?_ (hlen _ _ _) (e2 := e) (fr2 := []) ?_ (by rw [top]; rfl)).trans ?_
  ·simp [b25l1, offEnv, bindEnv]
  ·rw [put]; exact hB
  ·rw [put]
   cases h : firstMay n 0 c with
   | some k =>
     have e1 : offY n (o, false) c = (((min o.1 k, max o.2 k), false), true) := by simp only [offY, h]
     rw [e1]; rfl
   | none =>
     have e1 : offY n (o, false) c = ((o, true), false) := by simp only [offY, h]
     rw [e1]; rfl
def offQ (n : Season) : ((Int × Int) × Bool) × Bool := foldB (offY n) (coursesFrom n n.days.length [] n.first) (((n.days.length : Int), -1), false)
def offR (n : Season) : (Int × Int) × Int := if seasonOk n = true then (if (offQ n).2 = true then ((offQ n).1.1, 0) else ((0, 0), 3)) else ((0, 0), 130)
theorem offQ_keep (n : Season) : ∀ (l : List (List Int)) (a : (Int × Int) × Bool), a.2 = false → (foldB (offY n) l a).1.2 = !(foldB (offY n) l a).2
 | [], a, h => by simp [foldB, h]
 | c :: l, a, h => by
   cases h1 : firstMay n 0 c with
   | some k =>
     have e : offY n a c = (((min a.1.1 k, max a.1.2 k), a.2), true) := by simp only [offY, h1]
     simp only [foldB, e, if_true]
     exact offQ_keep n l _ h
   | none =>
     have e : offY n a c = ((a.1, true), false) := by simp only [offY, h1]
     simp [foldB, e]
set_option maxHeartbeats 1000000 in
theorem e_Off (n0 : Int) (n1 : Int) (n2 : Int) (n3 : Int) (n4 : List Sp) (n5 : List Anc) (n6 : List Wal) (n7 : Int) (n8 : Int) (n9 : List Sp) (n10 : List Boat) (n11 : List Sky) (n12 : List (List Int)) (n13 : List Int) (n14 : List Sp) (hs : Short (⟨⟨⟨n0, n1⟩, ⟨n2, n3⟩, n4, n5, n6⟩, ⟨⟨n7, n8⟩, n9, n10⟩, n11, n12, n13, n14⟩ : Season)) (lab s) : den T 25 [.agg [i64 n0, i64 n1, i64 n2, i64 n3, .sl .no 2 (es cSp n4), .sl .no 2 (es cAnc n5), .sl .no 5 (es cWal n6), i64 n7, i64 n8, .sl .no 2 (es cSp n9), .sl .no 2 (es cBoat n10), .sl .no 4 (es cSky n11), .sl .no 1 (es cInts n12), .sl .no 1 (es cInt n13), .sl .no 2 (es cSp n14)]] lab s = some (.tup [.agg [i64 (offR (⟨⟨⟨n0, n1⟩, ⟨n2, n3⟩, n4, n5, n6⟩, ⟨⟨n7, n8⟩, n9, n10⟩, n11, n12, n13, n14⟩ : Season)).1.1, i64 (offR (⟨⟨⟨n0, n1⟩, ⟨n2, n3⟩, n4, n5, n6⟩, ⟨⟨n7, n8⟩, n9, n10⟩, n11, n12, n13, n14⟩ : Season)).1.2], i64 (offR (⟨⟨⟨n0, n1⟩, ⟨n2, n3⟩, n4, n5, n6⟩, ⟨⟨n7, n8⟩, n9, n10⟩, n11, n12, n13, n14⟩ : Season)).2], s) := by
 rw [den_fn t25 _ _ _ rfl]
 simp only [b25]
 cases c0 : seasonOk (⟨⟨⟨n0, n1⟩, ⟨n2, n3⟩, n4, n5, n6⟩, ⟨⟨n7, n8⟩, n9, n10⟩, n11, n12, n13, n14⟩ : Season)
 ·have ho := fun b lab loc s => e_open13_bad n0 n1 n2 n3 n4 n5 n6 n7 n8 n9 n10 n11 n12 n13 n14 hs c0 b lab loc s
  simp (disch := first | omega | assumption | decide +kernel | (simp; done) | (simp; omega) | fail) [c0, ho, offR]
 ·have hp := fun lab loc s k0 => e_open13 n0 n1 n2 n3 n4 n5 n6 n7 n8 n9 n10 n11 n12 n13 n14 hs c0 lab loc s k0
  have h := fun lab => e_courses13 (⟨⟨⟨n0, n1⟩, ⟨n2, n3⟩, n4, n5, n6⟩, ⟨⟨n7, n8⟩, n9, n10⟩, n11, n12, n13, n14⟩ : Season) c0 hs.each hs.first (off_yield (⟨⟨⟨n0, n1⟩, ⟨n2, n3⟩, n4, n5, n6⟩, ⟨⟨n7, n8⟩, n9, n10⟩, n11, n12, n13, n14⟩ : Season) c0 s) (((n14.length : Int), -1), false) rfl lab
  have hk := offQ_keep (⟨⟨⟨n0, n1⟩, ⟨n2, n3⟩, n4, n5, n6⟩, ⟨⟨n7, n8⟩, n9, n10⟩, n11, n12, n13, n14⟩ : Season) (coursesFrom (⟨⟨⟨n0, n1⟩, ⟨n2, n3⟩, n4, n5, n6⟩, ⟨⟨n7, n8⟩, n9, n10⟩, n11, n12, n13, n14⟩ : Season) n14.length [] n13) (((n14.length : Int), -1), false) rfl
  have hr : offR (⟨⟨⟨n0, n1⟩, ⟨n2, n3⟩, n4, n5, n6⟩, ⟨⟨n7, n8⟩, n9, n10⟩, n11, n12, n13, n14⟩ : Season) = if (offQ (⟨⟨⟨n0, n1⟩, ⟨n2, n3⟩, n4, n5, n6⟩, ⟨⟨n7, n8⟩, n9, n10⟩, n11, n12, n13, n14⟩ : Season)).2 = true then ((offQ (⟨⟨⟨n0, n1⟩, ⟨n2, n3⟩, n4, n5, n6⟩, ⟨⟨n7, n8⟩, n9, n10⟩, n11, n12, n13, n14⟩ : Season)).1.1, 0) else ((0, 0), 3) := by rw [offR, if_pos c0]
  rw [hr]
  change (offQ (⟨⟨⟨n0, n1⟩, ⟨n2, n3⟩, n4, n5, n6⟩, ⟨⟨n7, n8⟩, n9, n10⟩, n11, n12, n13, n14⟩ : Season)).1.2 = !(offQ (⟨⟨⟨n0, n1⟩, ⟨n2, n3⟩, n4, n5, n6⟩, ⟨⟨n7, n8⟩, n9, n10⟩, n11, n12, n13, n14⟩ : Season)).2 at hk
  change ∀ lab, den T _ _ lab _ = some (_, offSt _ s (offQ (⟨⟨⟨n0, n1⟩, ⟨n2, n3⟩, n4, n5, n6⟩, ⟨⟨n7, n8⟩, n9, n10⟩, n11, n12, n13, n14⟩ : Season)).1) at h
  generalize offQ (⟨⟨⟨n0, n1⟩, ⟨n2, n3⟩, n4, n5, n6⟩, ⟨⟨n7, n8⟩, n9, n10⟩, n11, n12, n13, n14⟩ : Season) = q at h hk
  obtain ⟨⟨⟨lo, hi⟩, b1⟩, b2⟩ := q
  simp only at hk
  subst hk
  simp only [offSt, offF, offEnv, season0, Bool.false_eq_true, if_false] at h
  cases b2
  ·simp (maxSteps := 1000000) (disch := first | omega | assumption | decide +kernel | (simp; done) | (simp; omega) | fail) [run_drawnK, hp, h]
  ·simp (maxSteps := 1000000) (disch := first | omega | assumption | decide +kernel | (simp; done) | (simp; omega) | fail) [run_drawnK, hp, h]
end Go.Proofs.YtekgicoibcgecaaGreat

/-
  skies: brings, Regret.
-/
namespace Go.Proofs.YtekgicoibcgecaaGreat
open Go.Ab
theorem days_ok {n : Season} (h : seasonOk n = true) {k : Nat} (hk : k < n.days.length) : 0 ≤ n.days[k].lo ∧ n.days[k].lo ≤ n.days[k].hi ∧ n.days[k].hi ≤ 2000 := by
 have h9 := (seasonOk_iff.1 h).2.2.2.2.2.2.2.2
 have := allB_iff.1 h9 _ (List.getElem_mem hk)
 simp only [spanOk, Bool.and_eq_true, within_iff] at this
 omega
def firstLift (n : Season) : Nat → List Int → Option Nat
 | _, [] => none
 | k, x :: c => if liftS n k x = true then some k else firstLift n (k + 1) c
def bringsS (n : Season) (c : List Int) : Int := match firstLift n 0 c with
 | some k => dayLo n k
 | none => 0
theorem firstLift_lt (n : Season) : ∀ (l : List Int) (k j : Nat), firstLift n k l = some j → k ≤ j ∧ j < k + l.length
 | [], _, _, h => by cases h
 | x :: l, k, j, h => by
   simp only [firstLift] at h
   split at h
   ·cases h; simp
   ·have := firstLift_lt n l (k + 1) j h; simp only [List.length_cons]; omega
theorem brings_ok {n : Season} (hok : seasonOk n = true) {c : List Int} (hcl : c.length ≤ n.days.length) : 0 ≤ bringsS n c ∧ bringsS n c ≤ 2000 := by
 unfold bringsS
 split
 ·rename_i k h
  have := (firstLift_lt n c 0 k h).2
  have h1 := days_ok hok (k := k) (by omega)
  have e : dayLo n k = n.days[k].lo := by simp [dayLo, show k < n.days.length by omega]
  omega
 ·omega
theorem e_brings13 (n : Season) (hok : seasonOk n = true) (hlen : ∀ l ∈ n.follows, l.length < 4611686018427387904) (c : List Int) (hc : ∀ x : Int, x ∈ c → 0 ≤ x ∧ x < (n.skies.length : Int)) (hcl : c.length ≤ n.days.length) (d l : Nat) (S : Stk) (hd : d < S.length) (h : sget S d l = some (.cell (seasonCell n))) (lab) :
 den T 75 [.ptr d l 0, .sl .no 1 (es cInt c)] lab S = some (i64 (bringsS n c), S) := by
 obtain ⟨_, _, q3, q4, q5, _, q7, _, _⟩ := seasonOk_iff.1 hok
 have hd' : ¬ d = S.length := by omega
 have key := loop_list (T := T) (live := [0, 7, 8, 9]) (keep := []) (b := d75l0) c (fun k (j : Nat) => j = k)
  (fun k _ => [(0, .ptr d l 0), (7, .sl .no 1 (es cInt c)), (8, i64 c.length), (9, i64 k)]) (fun _ _ => [] :: S)
  (fun j x => if liftS n j x = true then .inr (.ret, [(4, i64 (dayLo n j))], [] :: S) else .inl (j + 1))
  (fun _ => (.exit 0, [(0, .ptr d l 0), (7, .sl .no 1 (es cInt c)), (8, i64 c.length), (9, i64 c.length), (10, .bool false)], [] :: S))
  ?_ (fun k j j' hk hj h => by split at h <;> simp_all) (fun k j q hk hj h => by split at h <;> simp_all; rw [← h]; simp) ?_ (by simp) 0 rfl
  [(0, .ptr d l 0), (7, .sl .no 1 (es cInt c)), (8, i64 c.length), (9, i64 0)] ([] :: S) (by simp [hd']) (by simp)
 ·have e : ∀ (l' : List Int) (j : Nat), foldS (fun j (x : Int) => if liftS n j x = true then (.inr (.ret, [(4, i64 (dayLo n j))], [] :: S) : Nat ⊕ (Ex × Env × Stk)) else .inl (j + 1))
   (fun _ => (.exit 0, [(0, .ptr d l 0), (7, .sl .no 1 (es cInt c)), (8, i64 c.length), (9, i64 c.length), (10, .bool false)], [] :: S)) l' j =
   match firstLift n j l' with
   | some k => (.ret, [(4, i64 (dayLo n k))], [] :: S)
   | none => (.exit 0, [(0, .ptr d l 0), (7, .sl .no 1 (es cInt c)), (8, i64 c.length), (9, i64 c.length), (10, .bool false)], [] :: S) := by
   intro l'
   induction l' with
   | nil => intro j; rfl
   | cons x l' ih =>
     intro j
     simp only [foldS, firstLift]
     by_cases h : liftS n j x = true
     ·simp only [h, if_true]
     ·simp only [h, if_false, ih]; rfl
  rw [e] at key
  change Run T b75l0 _ _ = _ at key
  rw [den_fn t75 _ _ _ rfl]
  simp only [b75]
  cases h2 : firstLift n 0 c with
  | some k =>
    simp only [h2] at key
    have e1 : bringsS n c = dayLo n k := by simp only [bringsS, h2]
    rw [e1]
    simp (disch := first | omega | assumption | decide +kernel | (simp; done) | (simp; omega) | fail) [hd', key]
  | none =>
    simp only [h2] at key
    have e1 : bringsS n c = 0 := by simp only [bringsS, h2]
    rw [e1]
    simp (disch := first | omega | assumption | decide +kernel | (simp; done) | (simp; omega) | fail) [hd', key]
 ·intro k j hk hj
  subst hj
  obtain ⟨h0, h1⟩ := hc c[j] (List.getElem_mem hk)
  have hj : j < n.days.length := by omega
  have hlo : dayLo n j = n.days[j].lo := by simp [dayLo, hj]
  have hm := fun lab => e_lift13 n hok hlen j hj c[j] h0 h1 d l ([] :: S) (by simp; omega) (by rw [sget_cons, if_neg hd', h]) lab
  cases c0 : liftS n j c[j]
  ·simp (disch := first | omega | assumption | decide +kernel | (simp; done) | (simp; omega) | fail) [hk, hd', h, hm, c0, wk j (by omega)]
  ·simp (disch := first | omega | assumption | decide +kernel | (simp; done) | (simp; omega) | fail) [hk, hd', h, hm, c0, hlo, hj, seasonCell]
 ·intro j hj
  simp [hd']
def regretL (n : Season) (b : Int) : Nat → Int → List Int → Int
 | _, a, [] => a
 | k, a, x :: c => regretL n b (k + 1) (if mayS n k x.toNat = true then max a (dayLo n k - b) else a) c
def regretY (n : Season) (a : Int) (c : List Int) : Int := regretL n (bringsS n c) 0 a c
def regEnv (d : Nat) : Env := [(1, .ptr d 16 0), (4, .ptr d 64 0), (6, .ptr d 96 0), (20, .fn 77 [.ptr d 208 0] [])]
def regF (n : Season) (d : Nat) (x : LoopState) (a : Int) : Ab.Loc := [(16, .cell (season0 n)), (208, .cell (seasonCell n)), (64, .cell [.ptr d 208 0]), (96, .cell [i64 a]), (6919, .loop [21] b27l1 b27l2 (regEnv d) x none)]
theorem regret_body (n : Season) (hok : seasonOk n = true) (hlen : ∀ l ∈ n.follows, l.length < 4611686018427387904) (c : List Int) (hc : ∀ x : Int, x ∈ c → 0 ≤ x ∧ x < (n.skies.length : Int)) (hcl : c.length = n.days.length) (d : Nat) (X : Int → Stk) (hd : ∀ a, d < (X a).length)
 (h16 : ∀ a, sget (X a) d 16 = some (.cell (season0 n))) (h64 : ∀ a, sget (X a) d 64 = some (.cell [.ptr d 208 0])) (hsea : ∀ a, sget (X a) d 208 = some (.cell (seasonCell n))) (h96 : ∀ a, sget (X a) d 96 = some (.cell [i64 a]))
 (p96 : ∀ a m, sput (X a) d 96 (.cell [i64 m]) = X m) (a : Int) :
 ∃ e, Run T b27l2 [(1, .ptr d 16 0), (4, .ptr d 64 0), (6, .ptr d 96 0), (7, .sl .no 1 (es cInt c))] ([] :: X a) = some (.normal, e, [] :: X (regretY n a c)) := by
 obtain ⟨_, _, q3, q4, q5, _, q7, _, _⟩ := seasonOk_iff.1 hok
 have hd' : ∀ a, ¬ d = (X a).length := fun a => by have := hd a; omega
 have hb := fun lab => e_brings13 n hok hlen c hc (by omega) d 208 ([] :: X a) (by have := hd a; simp; omega) (by rw [sget_cons, if_neg (hd' a), hsea a]) lab
 obtain ⟨hb0, hb1⟩ := brings_ok hok (c := c) (by omega)
 unfold regretY
 generalize bringsS n c = b at hb hb0 hb1
 have key := loop_fold (T := T) (live := [1, 4, 6, 8, 25, 26, 27]) (keep := [16, 64, 96, 208, 384]) (b := d27l0) c (fun k (a : Nat × Int) => a.1 = k) (fun a x => (a.1 + 1, if mayS n a.1 x.toNat = true then max a.2 (dayLo n a.1 - b) else a.2))
  (fun k _ => [(1, .ptr d 16 0), (4, .ptr d 64 0), (6, .ptr d 96 0), (8, i64 b), (25, .sl .no 1 (es cInt c)), (26, i64 c.length), (27, i64 k)]) (fun _ a => [] :: X a.2)
  (fun a => (.exit 2, [(1, .ptr d 16 0), (4, .ptr d 64 0), (6, .ptr d 96 0), (8, i64 b), (25, .sl .no 1 (es cInt c)), (26, i64 c.length), (27, i64 c.length), (28, .bool false)], [] :: X a.2))
  (by simp) ?_ (fun k a hk hi => by simp only at hi ⊢; rw [hi]) ?_ (0, a) rfl [(1, .ptr d 16 0), (4, .ptr d 64 0), (6, .ptr d 96 0), (8, i64 b), (25, .sl .no 1 (es cInt c)), (26, i64 c.length), (27, i64 0)] ([] :: X a) (by simp [hd' a]) (by simp)
 ·have e : ∀ (l : List Int) (j : Nat) (a : Int), (l.foldl (fun (a : Nat × Int) (x : Int) => (a.1 + 1, if mayS n a.1 x.toNat = true then max a.2 (dayLo n a.1 - b) else a.2)) (j, a)).2 = regretL n b j a l := by
   intro l
   induction l with
   | nil => intro j a; rfl
   | cons x l ih => intro j a; simp only [List.foldl_cons, regretL, ih]
  simp only [e] at key
  change Run T b27l0 _ _ = _ at key
  simp only [b27l2]
  refine ⟨[(1, .ptr d 16 0), (4, .ptr d 64 0), (6, .ptr d 96 0), (8, i64 b), (25, .sl .no 1 (es cInt c)), (26, i64 c.length), (27, i64 c.length), (28, .bool false)], ?_⟩
  simp (disch := first | omega | assumption | decide +kernel | (simp; done) | (simp; omega) | fail) [hd', h64, hb, key]
 ·intro k a hk hi
  obtain ⟨j, a⟩ := a
  simp only at hi
  subst hi
  obtain ⟨h0, h1⟩ := hc c[j] (List.getElem_mem hk)
  have hj : j < n.days.length := by omega
  have hlo : dayLo n j = n.days[j].lo := by simp [dayLo, hj]
  have hdo := days_ok hok hj
  have hsk : ((c[j].toNat : Nat) : Int) = c[j] := by omega
  have hm := fun lab => e_may n j c[j].toNat (by omega) (by omega) d 208 ([] :: X a) (by have := hd a; simp; omega) (by rw [sget_cons, if_neg (hd' a), hsea a]) lab
  rw [hsk] at hm
  cases c0 : mayS n j c[j].toNat
  ·simp (disch := first | omega | assumption | decide +kernel | (simp; done) | (simp; omega) | fail) [hk, hd', h64, hm, c0, wk j (by omega)]
  ·simp (maxSteps := 1000000) (disch := first | omega | assumption | decide +kernel | (simp; done) | (simp; omega) | fail) [run_drawnK, hk, hd', h64, h96, h16, season0, p96, hm, c0, hlo, hj, wi, wk j (by omega)]
 ·intro a hi
  simp [hd' a.2]
def regSt (n : Season) (S0 : Stk) (a : Int) : Stk := regF n S0.length .ready a :: S0
theorem regret_yield (n : Season) (hok : seasonOk n = true) (hlen : ∀ l ∈ n.follows, l.length < 4611686018427387904) (S0 : Stk) :
 Yield13 n Int (fun _ => True) S0.length 6919 S0.length 208 (S0.length + 1) (regSt n S0) (fun a c => (regretY n a c, true)) where
 len := fun a => by simp [regSt]
 lt := by omega
 ltd := by omega
 sea := fun a => by rw [regSt, sget_top]; rfl
 keep := fun a c ha hb => trivial
 yield := fun fr a c lab ha hc hcl => by
  have top : ∀ (x : LoopState) a l', sget (fr ++ regF n S0.length x a :: S0) S0.length l' = (regF n S0.length x a).get l' := fun x a l' => by
   rw [sget_append _ _ _ _ (by simp), sget_top]
  have put : ∀ (x : LoopState) a l' en, sput (fr ++ regF n S0.length x a :: S0) S0.length l' en = fr ++ (regF n S0.length x a).put l' en :: S0 := fun x a l' en => by
   rw [sput_append _ _ _ _ _ (by simp), sput_top]
  have hl : ∀ (x : LoopState) a, S0.length < (fr ++ regF n S0.length x a :: S0).length := fun x a => by simp; omega
  obtain ⟨e, hB⟩ := regret_body n hok hlen c hc hcl S0.length (fun a => fr ++ regF n S0.length .busy a :: S0) (fun a => hl _ _) (fun a => by rw [top]; rfl) (fun a => by rw [top]; rfl) (fun a => by rw [top]; rfl) (fun a => by rw [top]; rfl)
   (fun a m => by rw [put]; rfl) a
  change denV T _ _ lab (fr ++ regF n S0.length .ready a :: S0) = _
  refine (yld_run (ps := [21]) (A := b27l1) (B := b27l2) (env := regEnv S0.length) (ex := .normal) (st := .busy) (p := none) (s3 := fr ++ regF n S0.length .busy (regretY n a c) :: S0) (by rw [top]; rfl) rfl
   (e1 := [(1, .ptr S0.length 16 0), (4, .ptr S0.length 64 0), (6, .ptr S0.length 96 0), (7, .sl .no 1 (es cInt c))]) (fr1 := []) ?_ (hl _ _) (e2 := e) (fr2 := []) ?_ (by rw [top]; rfl)).trans ?_
  ·simp [b27l1, regEnv, bindEnv]
  ·rw [put]; exact hB
  ·rw [put]; rfl
def regretS (n : Season) : Int := (coursesFrom n n.days.length [] n.first).foldl (regretY n) 0
def regretR (n : Season) : Int × Int := if seasonOk n = true then (regretS n, 0) else (0, 130)
set_option maxHeartbeats 1000000 in
theorem e_Regret (n0 : Int) (n1 : Int) (n2 : Int) (n3 : Int) (n4 : List Sp) (n5 : List Anc) (n6 : List Wal) (n7 : Int) (n8 : Int) (n9 : List Sp) (n10 : List Boat) (n11 : List Sky) (n12 : List (List Int)) (n13 : List Int) (n14 : List Sp) (hs : Short (⟨⟨⟨n0, n1⟩, ⟨n2, n3⟩, n4, n5, n6⟩, ⟨⟨n7, n8⟩, n9, n10⟩, n11, n12, n13, n14⟩ : Season)) (lab s) : den T 27 [.agg [i64 n0, i64 n1, i64 n2, i64 n3, .sl .no 2 (es cSp n4), .sl .no 2 (es cAnc n5), .sl .no 5 (es cWal n6), i64 n7, i64 n8, .sl .no 2 (es cSp n9), .sl .no 2 (es cBoat n10), .sl .no 4 (es cSky n11), .sl .no 1 (es cInts n12), .sl .no 1 (es cInt n13), .sl .no 2 (es cSp n14)]] lab s = some (.tup [i64 (regretR (⟨⟨⟨n0, n1⟩, ⟨n2, n3⟩, n4, n5, n6⟩, ⟨⟨n7, n8⟩, n9, n10⟩, n11, n12, n13, n14⟩ : Season)).1, i64 (regretR (⟨⟨⟨n0, n1⟩, ⟨n2, n3⟩, n4, n5, n6⟩, ⟨⟨n7, n8⟩, n9, n10⟩, n11, n12, n13, n14⟩ : Season)).2], s) := by
 rw [den_fn t27 _ _ _ rfl]
 simp only [b27]
 cases c0 : seasonOk (⟨⟨⟨n0, n1⟩, ⟨n2, n3⟩, n4, n5, n6⟩, ⟨⟨n7, n8⟩, n9, n10⟩, n11, n12, n13, n14⟩ : Season)
 ·have ho := fun b lab loc s => e_open13_bad n0 n1 n2 n3 n4 n5 n6 n7 n8 n9 n10 n11 n12 n13 n14 hs c0 b lab loc s
  simp (disch := first | omega | assumption | decide +kernel | (simp; done) | (simp; omega) | fail) [c0, ho, regretR]
 ·have hp := fun lab loc s k0 => e_open13 n0 n1 n2 n3 n4 n5 n6 n7 n8 n9 n10 n11 n12 n13 n14 hs c0 lab loc s k0
  have h := fun lab => e_courses13 (⟨⟨⟨n0, n1⟩, ⟨n2, n3⟩, n4, n5, n6⟩, ⟨⟨n7, n8⟩, n9, n10⟩, n11, n12, n13, n14⟩ : Season) c0 hs.each hs.first (regret_yield (⟨⟨⟨n0, n1⟩, ⟨n2, n3⟩, n4, n5, n6⟩, ⟨⟨n7, n8⟩, n9, n10⟩, n11, n12, n13, n14⟩ : Season) c0 hs.each s) 0 trivial lab
  have hr : regretR (⟨⟨⟨n0, n1⟩, ⟨n2, n3⟩, n4, n5, n6⟩, ⟨⟨n7, n8⟩, n9, n10⟩, n11, n12, n13, n14⟩ : Season) = (regretS (⟨⟨⟨n0, n1⟩, ⟨n2, n3⟩, n4, n5, n6⟩, ⟨⟨n7, n8⟩, n9, n10⟩, n11, n12, n13, n14⟩ : Season), 0) := by rw [regretR, if_pos c0]
  rw [hr]
  rw [foldB_true] at h
  change ∀ lab, den T _ _ lab _ = some (_, regSt _ s (regretS (⟨⟨⟨n0, n1⟩, ⟨n2, n3⟩, n4, n5, n6⟩, ⟨⟨n7, n8⟩, n9, n10⟩, n11, n12, n13, n14⟩ : Season))) at h
  generalize regretS (⟨⟨⟨n0, n1⟩, ⟨n2, n3⟩, n4, n5, n6⟩, ⟨⟨n7, n8⟩, n9, n10⟩, n11, n12, n13, n14⟩ : Season) = q at h
  simp only [regSt, regF, regEnv, season0] at h
  simp (maxSteps := 1000000) (disch := first | omega | assumption | decide +kernel | (simp; done) | (simp; omega) | fail) [run_drawnK, hp, h]
end Go.Proofs.YtekgicoibcgecaaGreat

/-
  law13: span, worth, best, isKnown, may, Example, works.
-/
namespace Go.Proofs.YtekgicoibcgecaaGreat
open Go.Ab
@[simp] theorem e_span13 (a b : Int) (lab s) : den T 49 [i64 a, i64 b] lab s = some (.agg [i64 a, i64 b], s) := by
 rw [den_fn t49 _ _ _ rfl]
 simp only [b49]
 simp (disch := first | omega | assumption | decide +kernel | (simp; done) | (simp; omega) | fail) []
def lawBest (n : Season) : Int := if (bestR n).2 = 0 ∧ 0 ≤ (bestR n).1 ∧ (bestR n).1 ≤ 2000 then (bestR n).1 else -1
theorem e_best13law (n0 : Int) (n1 : Int) (n2 : Int) (n3 : Int) (n4 : List Sp) (n5 : List Anc) (n6 : List Wal) (n7 : Int) (n8 : Int) (n9 : List Sp) (n10 : List Boat) (n11 : List Sky) (n12 : List (List Int)) (n13 : List Int) (n14 : List Sp) (hs : Short (⟨⟨⟨n0, n1⟩, ⟨n2, n3⟩, n4, n5, n6⟩, ⟨⟨n7, n8⟩, n9, n10⟩, n11, n12, n13, n14⟩ : Season)) (lab s) : den T 41 [.agg [i64 n0, i64 n1, i64 n2, i64 n3, .sl .no 2 (es cSp n4), .sl .no 2 (es cAnc n5), .sl .no 5 (es cWal n6), i64 n7, i64 n8, .sl .no 2 (es cSp n9), .sl .no 2 (es cBoat n10), .sl .no 4 (es cSky n11), .sl .no 1 (es cInts n12), .sl .no 1 (es cInt n13), .sl .no 2 (es cSp n14)]] lab s = some (i64 (lawBest (⟨⟨⟨n0, n1⟩, ⟨n2, n3⟩, n4, n5, n6⟩, ⟨⟨n7, n8⟩, n9, n10⟩, n11, n12, n13, n14⟩ : Season)), s) := by
 have h := fun lab s => e_Best n0 n1 n2 n3 n4 n5 n6 n7 n8 n9 n10 n11 n12 n13 n14 hs lab s
 unfold lawBest
 generalize bestR (⟨⟨⟨n0, n1⟩, ⟨n2, n3⟩, n4, n5, n6⟩, ⟨⟨n7, n8⟩, n9, n10⟩, n11, n12, n13, n14⟩ : Season) = q at h
 obtain ⟨v, e⟩ := q
 rw [den_fn t41 _ _ _ rfl]
 simp only [b41]
 by_cases c0 : e = 0
 ·by_cases c1 : v < 0
  ·have c1' : ¬ 0 ≤ v := by omega
   simp (disch := first | omega | assumption | decide +kernel | (simp; done) | (simp; omega) | fail) [h, c0, c1, c1']
  ·have c1' : 0 ≤ v := by omega
   by_cases c2 : 2000 < v
   ·have c2' : ¬ v ≤ 2000 := by omega
    simp (disch := first | omega | assumption | decide +kernel | (simp; done) | (simp; omega) | fail) [h, c0, c1, c1', c2, c2']
   ·have c2' : v ≤ 2000 := by omega
    simp (disch := first | omega | assumption | decide +kernel | (simp; done) | (simp; omega) | fail) [h, c0, c1, c1', c2, c2']
 ·simp (disch := first | omega | assumption | decide +kernel | (simp; done) | (simp; omega) | fail) [h, c0]
theorem e_may13law (n0 : Int) (n1 : Int) (n2 : Int) (n3 : Int) (n4 : List Sp) (n5 : List Anc) (n6 : List Wal) (n7 : Int) (n8 : Int) (n9 : List Sp) (n10 : List Boat) (n11 : List Sky) (n12 : List (List Int)) (n13 : List Int) (n14 : List Sp) (hs : Short (⟨⟨⟨n0, n1⟩, ⟨n2, n3⟩, n4, n5, n6⟩, ⟨⟨n7, n8⟩, n9, n10⟩, n11, n12, n13, n14⟩ : Season)) (day sky : Int) (lab s) : den T 43 [.agg [i64 n0, i64 n1, i64 n2, i64 n3, .sl .no 2 (es cSp n4), .sl .no 2 (es cAnc n5), .sl .no 5 (es cWal n6), i64 n7, i64 n8, .sl .no 2 (es cSp n9), .sl .no 2 (es cBoat n10), .sl .no 4 (es cSky n11), .sl .no 1 (es cInts n12), .sl .no 1 (es cInt n13), .sl .no 2 (es cSp n14)], i64 day, i64 sky] lab s = some (.tup [.bool (mayR (⟨⟨⟨n0, n1⟩, ⟨n2, n3⟩, n4, n5, n6⟩, ⟨⟨n7, n8⟩, n9, n10⟩, n11, n12, n13, n14⟩ : Season) day sky).1, .bool (decide ((mayR (⟨⟨⟨n0, n1⟩, ⟨n2, n3⟩, n4, n5, n6⟩, ⟨⟨n7, n8⟩, n9, n10⟩, n11, n12, n13, n14⟩ : Season) day sky).2 = 0))], s) := by
 have h := fun lab s => e_May n0 n1 n2 n3 n4 n5 n6 n7 n8 n9 n10 n11 n12 n13 n14 hs day sky lab s
 rw [den_fn t43 _ _ _ rfl]
 simp only [b43]
 by_cases c0 : (mayR (⟨⟨⟨n0, n1⟩, ⟨n2, n3⟩, n4, n5, n6⟩, ⟨⟨n7, n8⟩, n9, n10⟩, n11, n12, n13, n14⟩ : Season) day sky).2 = 0
 ·simp (disch := first | omega | assumption | decide +kernel | (simp; done) | (simp; omega) | fail) [h, c0]
 ·simp (disch := first | omega | assumption | decide +kernel | (simp; done) | (simp; omega) | fail) [h, c0]
def exSea : Sea := ⟨⟨100, 120⟩, [⟨2, 6⟩, ⟨3, 5⟩, ⟨4, 6⟩], [⟨50, 4⟩, ⟨60, 7⟩, ⟨45, 2⟩, ⟨70, 9⟩]⟩
theorem e_Example05 (lab s) : den T 93 [] lab s = some (.tup [.agg [i64 100, i64 120, .sl .no 2 (es cSp exSea.places), .sl .no 2 (es cBoat exSea.boats)], .agg [i64 100, i64 120, .sl .no 2 (es cSp exSea.places), .sl .no 2 (es cBoat [⟨50, 4⟩, ⟨45, 2⟩])]], s) := by
 have h := fun lab loc s k0 k1 => e_Copy05 100 120 exSea.places exSea.boats (by decide) (by decide) lab loc s k0 k1
 simp only [exSea, es, List.map, cSp, cBoat] at h
 rw [den_fn t93 _ _ _ rfl]
 simp only [b93]
 simp (maxSteps := 1000000) (disch := first | omega | assumption | decide +kernel | (simp; done) | (simp; omega) | fail) [run_drawnK, h, exSea, es, cSp, cBoat, elemsOk]
end Go.Proofs.YtekgicoibcgecaaGreat

/-
  law13: Example, works.
-/
namespace Go.Proofs.YtekgicoibcgecaaGreat
open Go.Ab
def exSeason : Season := ⟨⟨⟨2, 4⟩, ⟨1, 3⟩, [⟨2, 3⟩, ⟨1, 4⟩], [⟨6, 0⟩, ⟨5, 1⟩, ⟨4, 0⟩], [⟨2, 1, 3, 8, 9⟩, ⟨1, 2, 2, 6, 6⟩]⟩, exSea, [⟨⟨0, 1⟩, ⟨0, 0⟩⟩, ⟨⟨2, 4⟩, ⟨1, 3⟩⟩], [[0, 1], [0]], [0, 1], [⟨60, 80⟩, ⟨90, 120⟩, ⟨100, 121⟩]⟩
theorem e_Example13 (lab s) : den T 48 [] lab s = some (.agg (season0 exSeason), s) := by
 have h := fun lab s => e_Example05 lab s
 simp only [exSea, es, List.map, cSp, cBoat] at h
 rw [den_fn t48 _ _ _ rfl]
 simp only [b48]
 simp (maxSteps := 1000000) (disch := first | omega | assumption | decide +kernel | (simp; done) | (simp; omega) | fail) [run_drawnK, h, exSeason, season0, exSea, es, cSp, cBoat, cAnc, cWal, cSky, cInts, cInt, elemsOk]
theorem exShort : Short exSeason := ⟨by decide, by decide, by decide, by decide, by decide, by decide, by decide, by decide⟩
theorem x_Calm (lab s) : den T 13 [.agg (season0 exSeason), i64 1] lab s = some (.tup [i64 3, i64 0], s) := by
 have h := e_Calm exSeason.net.wind.lo exSeason.net.wind.hi exSeason.net.cur.lo exSeason.net.cur.hi exSeason.net.grips exSeason.net.anch exSeason.net.walls exSeason.sea.weight.lo exSeason.sea.weight.hi exSeason.sea.places exSeason.sea.boats exSeason.skies exSeason.follows exSeason.first exSeason.days exShort 1 lab s
 have hv : calmR exSeason 1 = (3, 0) := by decide +kernel
 change _ = some (V.tup [i64 (calmR exSeason 1).1, i64 (calmR exSeason 1).2], s) at h
 rw [hv] at h
 exact h
theorem x_Holds (lab s) : den T 15 [.agg (season0 exSeason), i64 1] lab s = some (.tup [.bool true, i64 0], s) := by
 have h := e_Holds exSeason.net.wind.lo exSeason.net.wind.hi exSeason.net.cur.lo exSeason.net.cur.hi exSeason.net.grips exSeason.net.anch exSeason.net.walls exSeason.sea.weight.lo exSeason.sea.weight.hi exSeason.sea.places exSeason.sea.boats exSeason.skies exSeason.follows exSeason.first exSeason.days exShort 1 lab s
 have hv : holdsR exSeason 1 = (true, 0) := by decide +kernel
 change _ = some (V.tup [.bool (holdsR exSeason 1).1, i64 (holdsR exSeason 1).2], s) at h
 rw [hv] at h
 exact h
theorem x_Worth (lab s) : den T 33 [.agg (season0 exSeason), i64 0, i64 1] lab s = some (.tup [i64 90, i64 0], s) := by
 have h := e_Worth exSeason.net.wind.lo exSeason.net.wind.hi exSeason.net.cur.lo exSeason.net.cur.hi exSeason.net.grips exSeason.net.anch exSeason.net.walls exSeason.sea.weight.lo exSeason.sea.weight.hi exSeason.sea.places exSeason.sea.boats exSeason.skies exSeason.follows exSeason.first exSeason.days exShort 0 1 lab s
 have hv : worthR exSeason 0 1 = (90, 0) := by decide +kernel
 change _ = some (V.tup [i64 (worthR exSeason 0 1).1, i64 (worthR exSeason 0 1).2], s) at h
 rw [hv] at h
 exact h
theorem x_Best (lab s) : den T 35 [.agg (season0 exSeason)] lab s = some (.tup [i64 60, i64 0], s) := by
 have h := e_Best exSeason.net.wind.lo exSeason.net.wind.hi exSeason.net.cur.lo exSeason.net.cur.hi exSeason.net.grips exSeason.net.anch exSeason.net.walls exSeason.sea.weight.lo exSeason.sea.weight.hi exSeason.sea.places exSeason.sea.boats exSeason.skies exSeason.follows exSeason.first exSeason.days exShort  lab s
 have hv : bestR exSeason  = (60, 0) := by decide +kernel
 change _ = some (V.tup [i64 (bestR exSeason ).1, i64 (bestR exSeason ).2], s) at h
 rw [hv] at h
 exact h
theorem x_Off (lab s) : den T 25 [.agg (season0 exSeason)] lab s = some (.tup [.agg [i64 0, i64 1], i64 0], s) := by
 have h := e_Off exSeason.net.wind.lo exSeason.net.wind.hi exSeason.net.cur.lo exSeason.net.cur.hi exSeason.net.grips exSeason.net.anch exSeason.net.walls exSeason.sea.weight.lo exSeason.sea.weight.hi exSeason.sea.places exSeason.sea.boats exSeason.skies exSeason.follows exSeason.first exSeason.days exShort  lab s
 have hv : offR (⟨⟨⟨exSeason.net.wind.lo, exSeason.net.wind.hi⟩, ⟨exSeason.net.cur.lo, exSeason.net.cur.hi⟩, exSeason.net.grips, exSeason.net.anch, exSeason.net.walls⟩, ⟨⟨exSeason.sea.weight.lo, exSeason.sea.weight.hi⟩, exSeason.sea.places, exSeason.sea.boats⟩, exSeason.skies, exSeason.follows, exSeason.first, exSeason.days⟩ : Season) = ((0, 1), 0) := by decide +kernel
 rw [hv] at h
 exact h
theorem x_Regret (lab s) : den T 27 [.agg (season0 exSeason)] lab s = some (.tup [i64 30, i64 0], s) := by
 have h := e_Regret exSeason.net.wind.lo exSeason.net.wind.hi exSeason.net.cur.lo exSeason.net.cur.hi exSeason.net.grips exSeason.net.anch exSeason.net.walls exSeason.sea.weight.lo exSeason.sea.weight.hi exSeason.sea.places exSeason.sea.boats exSeason.skies exSeason.follows exSeason.first exSeason.days exShort  lab s
 have hv : regretR exSeason  = (30, 0) := by decide +kernel
 change _ = some (V.tup [i64 (regretR exSeason ).1, i64 (regretR exSeason ).2], s) at h
 rw [hv] at h
 exact h
theorem e_works (lab s) : den T 9 [] lab s = some (.bool true, s) := by
 have h1 := x_Calm
 have h2 := x_Holds
 have h3 := x_Worth
 have h4 := x_Best
 have h5 := x_Off
 have h6 := x_Regret
 have h0 := e_Example13
 simp only [season0] at h0 h1 h2 h3 h4 h5 h6
 rw [den_fn t9 _ _ _ rfl]
 simp only [b9]
 simp (maxSteps := 1000000) (disch := first | omega | assumption | decide +kernel | (simp; done) | (simp; omega) | fail) [run_drawnK, h0, h1, h2, h3, h4, h5, h6]
end Go.Proofs.YtekgicoibcgecaaGreat

/-
  SkiesStep.
-/
namespace Go.Proofs.YtekgicoibcgecaaGreat
open Go.Ab
theorem leastL_ge (f : Int → Int) : ∀ (l : List Int) (a : Int), (∀ x ∈ l, 0 ≤ f x) → 0 ≤ a → 0 ≤ l.foldl (fun a x => min a (f x)) a
 | [], a, _, h => h
 | x :: l, a, hl, h => by
   simp only [List.foldl_cons]
   exact leastL_ge f l _ (fun y hy => hl y (by simp [hy])) (by have := hl x (by simp); omega)
theorem leastL_le0 (f : Int → Int) : ∀ (l : List Int) (a : Int), l.foldl (fun a x => min a (f x)) a ≤ a
 | [], a => by simp
 | x :: l, a => by
   simp only [List.foldl_cons]
   have := leastL_le0 f l (min a (f x))
   omega
theorem worthS_range {n : Season} (hok : seasonOk n = true) : ∀ (r : Nat) (sky : Int), r ≤ n.days.length → 0 ≤ sky → sky < (n.skies.length : Int) → 0 ≤ worthS n r sky ∧ worthS n r sky ≤ 2000
 | 0, _, _, _, _ => by simp [worthS]
 | r + 1, sky, hr, h0, h1 => by
   obtain ⟨hk2, _, hf⟩ := follows_ok hok (k := sky.toNat) (by omega)
   have hfo : n.follows.getD sky.toNat [] = n.follows[sky.toNat] := by simp [List.getD, hk2]
   have a1 := leastL_ge (worthS n r) n.follows[sky.toNat] 2000 (fun x hx => (worthS_range hok r x (by omega) (hf x hx).1 (hf x hx).2).1) (by omega)
   have a2 := leastL_le0 (worthS n r) n.follows[sky.toNat] 2000
   have hd := days_ok hok (k := n.days.length - (r + 1)) (by omega)
   have hlo : dayLo n (n.days.length - (r + 1)) = n.days[n.days.length - (r + 1)].lo := by simp [dayLo, show n.days.length - (r + 1) < n.days.length by omega]
   simp only [worthS, hfo, hlo, leastL]
   split <;> omega
theorem least_zero (l : List Int) (hne : l ≠ []) : leastL (fun _ => 0) l = 0 := by
 have : ∀ (l : List Int), l.foldl (fun (a : Int) (_ : Int) => min a 0) 0 = 0 := by
  intro l; induction l with
  | nil => rfl
  | cons x l ih => simpa using ih
 cases l with
 | nil => exact absurd rfl hne
 | cons x l => exact this l
end Go.Proofs.YtekgicoibcgecaaGreat

/-
  What the arguments read as.
-/
namespace Go.Proofs.YtekgicoibcgecaaGreat
open Go.Ab
set_option maxRecDepth 100000
theorem cells23 : Tryz.prog.cellsOf 23 = 2 := by kernel_rfl
theorem cells97 : Tryz.prog.cellsOf 97 = 2 := by kernel_rfl
theorem cells112 : Tryz.prog.cellsOf 112 = 5 := by kernel_rfl
theorem cells123 : Tryz.prog.cellsOf 123 = 2 := by kernel_rfl
theorem cells74 : Tryz.prog.cellsOf 74 = 4 := by kernel_rfl
theorem cells34 : Tryz.prog.cellsOf 34 = 1 := by kernel_rfl
theorem cells3 : Tryz.prog.cellsOf 3 = 1 := by kernel_rfl
variable {B : TypeId → Nat → Prop} {n : Nat} {vs : List V}
theorem fit_int (h : Fit Tryz.prog B (n + 1) 3 vs) : ∃ x, vs = [i64 x] := by
 simp only [Fit, Tryz.underlying3] at h
 exact h
theorem fit_sp (h : Fit Tryz.prog B (n + 2) 23 vs) : ∃ x : Sp, vs = cSp x := by
 simp only [Fit, FitF, Tryz.underlying23, Tryz.underlying3] at h
 obtain ⟨_, _, rfl, ⟨x, rfl⟩, _, _, rfl, ⟨y, rfl⟩, rfl⟩ := h
 exact ⟨⟨x, y⟩, rfl⟩
theorem fit_anc (h : Fit Tryz.prog B (n + 2) 97 vs) : ∃ x : Anc, vs = cAnc x := by
 simp only [Fit, FitF, Tryz.underlying97, Tryz.underlying3] at h
 obtain ⟨_, _, rfl, ⟨x, rfl⟩, _, _, rfl, ⟨y, rfl⟩, rfl⟩ := h
 exact ⟨⟨x, y⟩, rfl⟩
theorem fit_boat (h : Fit Tryz.prog B (n + 2) 123 vs) : ∃ x : Boat, vs = cBoat x := by
 simp only [Fit, FitF, Tryz.underlying123, Tryz.underlying3] at h
 obtain ⟨_, _, rfl, ⟨x, rfl⟩, _, _, rfl, ⟨y, rfl⟩, rfl⟩ := h
 exact ⟨⟨x, y⟩, rfl⟩
theorem fit_wal (h : Fit Tryz.prog B (n + 2) 112 vs) : ∃ x : Wal, vs = cWal x := by
 simp only [Fit, FitF, Tryz.underlying112, Tryz.underlying3] at h
 obtain ⟨_, _, rfl, ⟨x, rfl⟩, _, _, rfl, ⟨y, rfl⟩, _, _, rfl, ⟨z, rfl⟩, _, _, rfl, ⟨u, rfl⟩, _, _, rfl, ⟨v, rfl⟩, rfl⟩ := h
 exact ⟨⟨x, y, z, u, v⟩, rfl⟩
theorem fit_sky (h : Fit Tryz.prog B (n + 3) 74 vs) : ∃ x : Sky, vs = cSky x := by
 rw [Fit, Tryz.underlying74] at h
 simp only [FitF] at h
 obtain ⟨_, _, rfl, h1, _, _, rfl, h2, rfl⟩ := h
 obtain ⟨x, rfl⟩ := fit_sp h1
 obtain ⟨y, rfl⟩ := fit_sp h2
 exact ⟨⟨x, y⟩, rfl⟩
theorem es_all {α : Type} {f : α → List V} (l : List (List V)) (h : ∀ x ∈ l, ∃ y, x = f y) : ∃ l' : List α, l = es f l' := by
 obtain ⟨l', h1, _⟩ := es_of (Q := fun _ => True) l fun x hx => by obtain ⟨y, hy⟩ := h x hx; exact ⟨y, hy, trivial⟩
 exact ⟨l', h1⟩
theorem fit_ints (h : Fit Tryz.prog B (n + 2) 34 vs) : ∃ l : List Int, vs = [.sl .no 1 (es cInt l)] ∧ B 3 l.length := by
 rw [Fit, Tryz.underlying34] at h
 simp only at h
 obtain ⟨l, rfl, hb, h⟩ := h
 obtain ⟨l', rfl⟩ := es_all (f := cInt) l fun x hx => by obtain ⟨y, hy⟩ := fit_int (h x hx); exact ⟨y, hy⟩
 rw [cells3]
 exact ⟨l', rfl, by simpa using hb⟩
theorem fit_sps (h : Fit Tryz.prog B (n + 3) 24 vs) : ∃ l : List Sp, vs = [.sl .no 2 (es cSp l)] ∧ B 23 l.length := by
 rw [Fit, Tryz.underlying24] at h
 simp only at h
 obtain ⟨l, rfl, hb, h⟩ := h
 obtain ⟨l', rfl⟩ := es_all (f := cSp) l fun x hx => fit_sp (h x hx)
 rw [cells23]
 exact ⟨l', rfl, by simpa using hb⟩
theorem fit_ancs (h : Fit Tryz.prog B (n + 3) 25 vs) : ∃ l : List Anc, vs = [.sl .no 2 (es cAnc l)] ∧ B 97 l.length := by
 rw [Fit, Tryz.underlying25] at h
 simp only at h
 obtain ⟨l, rfl, hb, h⟩ := h
 obtain ⟨l', rfl⟩ := es_all (f := cAnc) l fun x hx => fit_anc (h x hx)
 rw [cells97]
 exact ⟨l', rfl, by simpa using hb⟩
theorem fit_wals (h : Fit Tryz.prog B (n + 3) 26 vs) : ∃ l : List Wal, vs = [.sl .no 5 (es cWal l)] ∧ B 112 l.length := by
 rw [Fit, Tryz.underlying26] at h
 simp only at h
 obtain ⟨l, rfl, hb, h⟩ := h
 obtain ⟨l', rfl⟩ := es_all (f := cWal) l fun x hx => fit_wal (h x hx)
 rw [cells112]
 exact ⟨l', rfl, by simpa using hb⟩
theorem fit_boats (h : Fit Tryz.prog B (n + 3) 29 vs) : ∃ l : List Boat, vs = [.sl .no 2 (es cBoat l)] ∧ B 123 l.length := by
 rw [Fit, Tryz.underlying29] at h
 simp only at h
 obtain ⟨l, rfl, hb, h⟩ := h
 obtain ⟨l', rfl⟩ := es_all (f := cBoat) l fun x hx => fit_boat (h x hx)
 rw [cells123]
 exact ⟨l', rfl, by simpa using hb⟩
theorem fit_skys (h : Fit Tryz.prog B (n + 4) 32 vs) : ∃ l : List Sky, vs = [.sl .no 4 (es cSky l)] ∧ B 74 l.length := by
 rw [Fit, Tryz.underlying32] at h
 simp only at h
 obtain ⟨l, rfl, hb, h⟩ := h
 obtain ⟨l', rfl⟩ := es_all (f := cSky) l fun x hx => fit_sky (h x hx)
 rw [cells74]
 exact ⟨l', rfl, by simpa using hb⟩
theorem fit_intss (h : Fit Tryz.prog B (n + 3) 33 vs) : ∃ l : List (List Int), vs = [.sl .no 1 (es cInts l)] ∧ B 34 l.length ∧ ∀ x ∈ l, B 3 x.length := by
 rw [Fit, Tryz.underlying33] at h
 simp only at h
 obtain ⟨l, rfl, hb, h⟩ := h
 obtain ⟨l', rfl, hl⟩ := es_of (f := cInts) (Q := fun x => B 3 x.length) l fun x hx => fit_ints (h x hx)
 rw [cells34]
 exact ⟨l', rfl, by simpa using hb, hl⟩
structure Held (B : TypeId → Nat → Prop) (n : Season) : Prop where
 grips : B 23 n.net.grips.length
 anch : B 97 n.net.anch.length
 walls : B 112 n.net.walls.length
 places : B 23 n.sea.places.length
 boats : B 123 n.sea.boats.length
 skies : B 74 n.skies.length
 follows : B 34 n.follows.length
 first : B 3 n.first.length
 days : B 23 n.days.length
 each : ∀ l ∈ n.follows, B 3 l.length
theorem fit_season (h : Fit Tryz.prog B (n + 6) 36 vs) : ∃ m : Season, vs = season0 m ∧ Held B m := by
 rw [Fit, Tryz.underlying36] at h
 simp only [FitF] at h
 obtain ⟨_, _, rfl, hnet, _, _, rfl, hsea, _, _, rfl, h1, _, _, rfl, h2, _, _, rfl, h3, _, _, rfl, h4, rfl⟩ := h
 rw [Fit, Tryz.underlying28] at hnet
 simp only [FitF] at hnet
 obtain ⟨_, _, rfl, k1, _, _, rfl, k2, _, _, rfl, k3, _, _, rfl, k4, _, _, rfl, k5, rfl⟩ := hnet
 rw [Fit, Tryz.underlying31] at hsea
 simp only [FitF] at hsea
 obtain ⟨_, _, rfl, j1, _, _, rfl, j2, _, _, rfl, j3, rfl⟩ := hsea
 obtain ⟨x1, rfl⟩ := fit_sp k1
 obtain ⟨x2, rfl⟩ := fit_sp k2
 obtain ⟨x3, rfl, b3⟩ := fit_sps k3
 obtain ⟨x4, rfl, b4⟩ := fit_ancs k4
 obtain ⟨x5, rfl, b5⟩ := fit_wals k5
 obtain ⟨y1, rfl⟩ := fit_sp j1
 obtain ⟨y2, rfl, c2⟩ := fit_sps j2
 obtain ⟨y3, rfl, c3⟩ := fit_boats j3
 obtain ⟨z1, rfl, d1⟩ := fit_skys h1
 obtain ⟨z2, rfl, d2, d2'⟩ := fit_intss h2
 obtain ⟨z3, rfl, d3⟩ := fit_ints h3
 obtain ⟨z4, rfl, d4⟩ := fit_sps h4
 exact ⟨⟨⟨x1, x2, x3, x4, x5⟩, ⟨y1, y2, y3⟩, z1, z2, z3, z4⟩, rfl, ⟨b3, b4, b5, c2, c3, d1, d2, d3, d4, d2'⟩⟩
def Reach (e : TypeId) (k : Nat) : Prop := k ≤ maxLen ∧ k * Tryz.prog.bytesOf e ≤ reachBytes
theorem bytes23 : Tryz.prog.bytesOf 23 = 16 := by kernel_rfl
theorem bytes97 : Tryz.prog.bytesOf 97 = 16 := by kernel_rfl
theorem bytes112 : Tryz.prog.bytesOf 112 = 40 := by kernel_rfl
theorem bytes123 : Tryz.prog.bytesOf 123 = 16 := by kernel_rfl
theorem bytes74 : Tryz.prog.bytesOf 74 = 32 := by kernel_rfl
theorem bytes34 : Tryz.prog.bytesOf 34 = 24 := by kernel_rfl
theorem bytes3 : Tryz.prog.bytesOf 3 = 8 := by kernel_rfl
end Go.Proofs.YtekgicoibcgecaaGreat

/-
  SkiesPut.
-/
namespace Go.Proofs.YtekgicoibcgecaaGreat
open Go.Ab
def inB (l : List Int) (x : Int) : Bool := anyB (fun y => decide (y = x)) l
theorem inB_iff {l : List Int} {x : Int} : inB l x = true ↔ x ∈ l := by
 simp only [inB, anyB, List.any_eq_true, decide_eq_true_eq]
 exact ⟨fun ⟨y, h1, h2⟩ => h2 ▸ h1, fun h => ⟨x, h, rfl⟩⟩
def courseL (n : Season) : List Int → List Int → Bool
 | _, [] => true
 | nx, x :: c => inB nx x && courseL n (n.follows.getD x.toNat []) c
def isCourse (n : Season) (c : List Int) : Bool := decide (c.length = n.days.length) && courseL n n.first c
theorem course_mem (n : Season) : ∀ (c c0 nx : List Int), courseL n nx c = true → c0 ++ c ∈ coursesFrom n c.length c0 nx
 | [], c0, nx, _ => by simp [coursesFrom]
 | x :: c, c0, nx, h => by
   simp only [courseL, Bool.and_eq_true] at h
   simp only [List.length_cons, coursesFrom, List.mem_flatMap]
   refine ⟨x, inB_iff.1 h.1, ?_⟩
   have := course_mem n c (c0 ++ [x]) _ h.2
   simpa using this
theorem mem_course (n : Season) : ∀ (r : Nat) (c c0 nx : List Int), c ∈ coursesFrom n r c0 nx → ∃ c1, c = c0 ++ c1 ∧ c1.length = r ∧ courseL n nx c1 = true
 | 0, c, c0, nx, h => by
   simp only [coursesFrom, List.mem_singleton] at h
   exact ⟨[], by simp [h], rfl, rfl⟩
 | r + 1, c, c0, nx, h => by
   simp only [coursesFrom, List.mem_flatMap] at h
   obtain ⟨x, h1, h2⟩ := h
   obtain ⟨c1, rfl, h3, h4⟩ := mem_course n r c (c0 ++ [x]) _ h2
   exact ⟨x :: c1, by simp, by simp [h3], by simp only [courseL, inB_iff.2 h1, h4, Bool.and_self]⟩
theorem e_IsCourse_l (n0 : Int) (n1 : Int) (n2 : Int) (n3 : Int) (n4 : List Sp) (n5 : List Anc) (n6 : List Wal) (n7 : Int) (n8 : Int) (n9 : List Sp) (n10 : List Boat) (n11 : List Sky) (n12 : List (List Int)) (n13 : List Int) (n14 : List Sp) (hs : Short (⟨⟨⟨n0, n1⟩, ⟨n2, n3⟩, n4, n5, n6⟩, ⟨⟨n7, n8⟩, n9, n10⟩, n11, n12, n13, n14⟩ : Season)) (hok : seasonOk (⟨⟨⟨n0, n1⟩, ⟨n2, n3⟩, n4, n5, n6⟩, ⟨⟨n7, n8⟩, n9, n10⟩, n11, n12, n13, n14⟩ : Season) = true) (c : List Int) (hcl : c.length < 4611686018427387904) (s : Stk) :
 ∃ nx', Run T b40l0 [(1, .sl .no 1 (es cInt c)), (2, .ptr s.length 32 0), (5, .sl .no 1 (es cInt n13)), (6, i64 0)] ([(32, .cell [i64 n0, i64 n1, i64 n2, i64 n3, .sl .no 2 (es cSp n4), .sl .no 2 (es cAnc n5), .sl .no 5 (es cWal n6), i64 n7, i64 n8, .sl .no 2 (es cSp n9), .sl .no 2 (es cBoat n10), .sl .no 4 (es cSky n11), .sl .no 1 (es cInts n12), .sl .no 1 (es cInt n13), .sl .no 2 (es cSp n14)])] :: s) =
  some (if courseL (⟨⟨⟨n0, n1⟩, ⟨n2, n3⟩, n4, n5, n6⟩, ⟨⟨n7, n8⟩, n9, n10⟩, n11, n12, n13, n14⟩ : Season) n13 c = true then (.exit 0, [(1, .sl .no 1 (es cInt c)), (2, .ptr s.length 32 0), (5, .sl .no 1 (es cInt nx')), (6, i64 c.length), (18, .bool false)], [(32, .cell [i64 n0, i64 n1, i64 n2, i64 n3, .sl .no 2 (es cSp n4), .sl .no 2 (es cAnc n5), .sl .no 5 (es cWal n6), i64 n7, i64 n8, .sl .no 2 (es cSp n9), .sl .no 2 (es cBoat n10), .sl .no 4 (es cSky n11), .sl .no 1 (es cInts n12), .sl .no 1 (es cInt n13), .sl .no 2 (es cSp n14)])] :: s) else (.ret, [(4, .bool false)], [(32, .cell [i64 n0, i64 n1, i64 n2, i64 n3, .sl .no 2 (es cSp n4), .sl .no 2 (es cAnc n5), .sl .no 5 (es cWal n6), i64 n7, i64 n8, .sl .no 2 (es cSp n9), .sl .no 2 (es cBoat n10), .sl .no 4 (es cSky n11), .sl .no 1 (es cInts n12), .sl .no 1 (es cInt n13), .sl .no 2 (es cSp n14)])] :: s)) := by
 let P : List Int → Prop := fun nx => nx.length < 4611686018427387904 ∧ ∀ x : Int, x ∈ nx → 0 ≤ x ∧ x < (n11.length : Int)
 have key := loop_list (T := T) (live := [1, 2, 5, 6]) (keep := [32]) (b := d40l0) c (fun _ (nx : List Int) => P nx)
  (fun k nx => [(1, .sl .no 1 (es cInt c)), (2, .ptr s.length 32 0), (5, .sl .no 1 (es cInt nx)), (6, i64 k)]) (fun _ _ => [(32, .cell [i64 n0, i64 n1, i64 n2, i64 n3, .sl .no 2 (es cSp n4), .sl .no 2 (es cAnc n5), .sl .no 5 (es cWal n6), i64 n7, i64 n8, .sl .no 2 (es cSp n9), .sl .no 2 (es cBoat n10), .sl .no 4 (es cSky n11), .sl .no 1 (es cInts n12), .sl .no 1 (es cInt n13), .sl .no 2 (es cSp n14)])] :: s)
  (fun nx x => if inB nx x = true then .inl (n12.getD x.toNat []) else .inr (.ret, [(4, .bool false)], [(32, .cell [i64 n0, i64 n1, i64 n2, i64 n3, .sl .no 2 (es cSp n4), .sl .no 2 (es cAnc n5), .sl .no 5 (es cWal n6), i64 n7, i64 n8, .sl .no 2 (es cSp n9), .sl .no 2 (es cBoat n10), .sl .no 4 (es cSky n11), .sl .no 1 (es cInts n12), .sl .no 1 (es cInt n13), .sl .no 2 (es cSp n14)])] :: s))
  (fun nx => (.exit 0, [(1, .sl .no 1 (es cInt c)), (2, .ptr s.length 32 0), (5, .sl .no 1 (es cInt nx)), (6, i64 c.length), (18, .bool false)], [(32, .cell [i64 n0, i64 n1, i64 n2, i64 n3, .sl .no 2 (es cSp n4), .sl .no 2 (es cAnc n5), .sl .no 5 (es cWal n6), i64 n7, i64 n8, .sl .no 2 (es cSp n9), .sl .no 2 (es cBoat n10), .sl .no 4 (es cSky n11), .sl .no 1 (es cInts n12), .sl .no 1 (es cInt n13), .sl .no 2 (es cSp n14)])] :: s))
  ?_ ?_ (fun k j q hk hj h => by split at h <;> simp_all; rw [← h]; simp) ?_ (by simp) n13 ⟨hs.first, (first_ok hok).2⟩
  [(1, .sl .no 1 (es cInt c)), (2, .ptr s.length 32 0), (5, .sl .no 1 (es cInt n13)), (6, i64 0)] ([(32, .cell [i64 n0, i64 n1, i64 n2, i64 n3, .sl .no 2 (es cSp n4), .sl .no 2 (es cAnc n5), .sl .no 5 (es cWal n6), i64 n7, i64 n8, .sl .no 2 (es cSp n9), .sl .no 2 (es cBoat n10), .sl .no 4 (es cSky n11), .sl .no 1 (es cInts n12), .sl .no 1 (es cInt n13), .sl .no 2 (es cSp n14)])] :: s) (by simp) (by simp)
 ·have e : ∀ (l : List Int) (nx : List Int), ∃ nx', foldS (fun nx (x : Int) => if inB nx x = true then (.inl (n12.getD x.toNat []) : List Int ⊕ (Ex × Env × Stk)) else .inr (.ret, [(4, .bool false)], [(32, .cell [i64 n0, i64 n1, i64 n2, i64 n3, .sl .no 2 (es cSp n4), .sl .no 2 (es cAnc n5), .sl .no 5 (es cWal n6), i64 n7, i64 n8, .sl .no 2 (es cSp n9), .sl .no 2 (es cBoat n10), .sl .no 4 (es cSky n11), .sl .no 1 (es cInts n12), .sl .no 1 (es cInt n13), .sl .no 2 (es cSp n14)])] :: s))
   (fun nx => (.exit 0, [(1, .sl .no 1 (es cInt c)), (2, .ptr s.length 32 0), (5, .sl .no 1 (es cInt nx)), (6, i64 c.length), (18, .bool false)], [(32, .cell [i64 n0, i64 n1, i64 n2, i64 n3, .sl .no 2 (es cSp n4), .sl .no 2 (es cAnc n5), .sl .no 5 (es cWal n6), i64 n7, i64 n8, .sl .no 2 (es cSp n9), .sl .no 2 (es cBoat n10), .sl .no 4 (es cSky n11), .sl .no 1 (es cInts n12), .sl .no 1 (es cInt n13), .sl .no 2 (es cSp n14)])] :: s)) l nx =
   if courseL (⟨⟨⟨n0, n1⟩, ⟨n2, n3⟩, n4, n5, n6⟩, ⟨⟨n7, n8⟩, n9, n10⟩, n11, n12, n13, n14⟩ : Season) nx l = true then (.exit 0, [(1, .sl .no 1 (es cInt c)), (2, .ptr s.length 32 0), (5, .sl .no 1 (es cInt nx')), (6, i64 c.length), (18, .bool false)], [(32, .cell [i64 n0, i64 n1, i64 n2, i64 n3, .sl .no 2 (es cSp n4), .sl .no 2 (es cAnc n5), .sl .no 5 (es cWal n6), i64 n7, i64 n8, .sl .no 2 (es cSp n9), .sl .no 2 (es cBoat n10), .sl .no 4 (es cSky n11), .sl .no 1 (es cInts n12), .sl .no 1 (es cInt n13), .sl .no 2 (es cSp n14)])] :: s) else (.ret, [(4, .bool false)], [(32, .cell [i64 n0, i64 n1, i64 n2, i64 n3, .sl .no 2 (es cSp n4), .sl .no 2 (es cAnc n5), .sl .no 5 (es cWal n6), i64 n7, i64 n8, .sl .no 2 (es cSp n9), .sl .no 2 (es cBoat n10), .sl .no 4 (es cSky n11), .sl .no 1 (es cInts n12), .sl .no 1 (es cInt n13), .sl .no 2 (es cSp n14)])] :: s) := by
   intro l
   induction l with
   | nil => intro nx; exact ⟨nx, rfl⟩
   | cons x l ih =>
     intro nx
     by_cases h : inB nx x = true
     ·obtain ⟨nx', h2⟩ := ih (n12.getD x.toNat [])
      exact ⟨nx', by simp only [foldS, courseL, h, if_true, Bool.true_and]; exact h2⟩
     ·have h' : inB nx x = false := by simpa using h
      exact ⟨[], by simp [foldS, courseL, h']⟩
  obtain ⟨nx', h⟩ := e c n13
  rw [h] at key
  exact ⟨nx', key⟩
 ·intro k nx hk hP
  obtain ⟨hP1, hP2⟩ := hP
  cases h : inB nx c[k]
  ·have h' : anyB (fun y => decide (y = c[k])) nx = false := h
   simp (disch := first | omega | assumption | decide +kernel | (simp; done) | (simp; omega) | fail) [hk, h', wk k (by omega)]
  ·have h' : anyB (fun y => decide (y = c[k])) nx = true := h
   obtain ⟨x0, x1⟩ := hP2 _ (inB_iff.1 h)
   obtain ⟨hk2, _, hf⟩ := follows_ok hok (k := c[k].toNat) (by simp only; omega)
   simp only at hk2
   have hfo : n12.getD c[k].toNat [] = n12[c[k].toNat] := by simp [List.getD, hk2]
   simp (maxSteps := 1000000) (disch := first | omega | assumption | decide +kernel | (simp; done) | (simp; omega) | fail) [run_drawnK, hk, h', x0, hk2, hfo, wk k (by omega)]
 ·intro k nx nx' hk hP h
  cases h2 : inB nx c[k]
  ·simp [h2] at h
  ·simp only [h2, if_true, Sum.inl.injEq] at h
   subst h
   obtain ⟨x0, x1⟩ := hP.2 _ (inB_iff.1 h2)
   obtain ⟨hk2, _, hf⟩ := follows_ok hok (k := c[k].toNat) (by simp only; omega)
   simp only at hk2 hf
   have hfo : n12.getD c[k].toNat [] = n12[c[k].toNat] := by simp [List.getD, hk2]
   rw [hfo]
   exact ⟨hs.each _ (List.getElem_mem hk2), hf⟩
 ·intro nx hP
  simp
theorem e_IsCourse (n0 : Int) (n1 : Int) (n2 : Int) (n3 : Int) (n4 : List Sp) (n5 : List Anc) (n6 : List Wal) (n7 : Int) (n8 : Int) (n9 : List Sp) (n10 : List Boat) (n11 : List Sky) (n12 : List (List Int)) (n13 : List Int) (n14 : List Sp) (hs : Short (⟨⟨⟨n0, n1⟩, ⟨n2, n3⟩, n4, n5, n6⟩, ⟨⟨n7, n8⟩, n9, n10⟩, n11, n12, n13, n14⟩ : Season)) (hok : seasonOk (⟨⟨⟨n0, n1⟩, ⟨n2, n3⟩, n4, n5, n6⟩, ⟨⟨n7, n8⟩, n9, n10⟩, n11, n12, n13, n14⟩ : Season) = true) (c : List Int) (hcl : c.length < 4611686018427387904) (lab s) :
 den T 40 [.agg [i64 n0, i64 n1, i64 n2, i64 n3, .sl .no 2 (es cSp n4), .sl .no 2 (es cAnc n5), .sl .no 5 (es cWal n6), i64 n7, i64 n8, .sl .no 2 (es cSp n9), .sl .no 2 (es cBoat n10), .sl .no 4 (es cSky n11), .sl .no 1 (es cInts n12), .sl .no 1 (es cInt n13), .sl .no 2 (es cSp n14)], .sl .no 1 (es cInt c)] lab s = some (.bool (isCourse (⟨⟨⟨n0, n1⟩, ⟨n2, n3⟩, n4, n5, n6⟩, ⟨⟨n7, n8⟩, n9, n10⟩, n11, n12, n13, n14⟩ : Season) c), s) := by
 obtain ⟨nx', key⟩ := e_IsCourse_l n0 n1 n2 n3 n4 n5 n6 n7 n8 n9 n10 n11 n12 n13 n14 hs hok c hcl s
 rw [den_fn t40 _ _ _ rfl]
 simp only [b40]
 by_cases c0 : (c.length : Int) = n14.length
 ·have c0' : c.length = n14.length := by omega
  cases c1 : courseL (⟨⟨⟨n0, n1⟩, ⟨n2, n3⟩, n4, n5, n6⟩, ⟨⟨n7, n8⟩, n9, n10⟩, n11, n12, n13, n14⟩ : Season) n13 c
  ·simp (disch := first | omega | assumption | decide +kernel | (simp; done) | (simp; omega) | fail) [c0, c0', c1, key, isCourse]
  ·simp (disch := first | omega | assumption | decide +kernel | (simp; done) | (simp; omega) | fail) [c0, c0', c1, key, isCourse]
 ·have c0' : ¬ c.length = n14.length := by omega
  simp (disch := first | omega | assumption | decide +kernel | (simp; done) | (simp; omega) | fail) [c0, c0', isCourse]
theorem courses_some {n : Season} (hok : seasonOk n = true) : ∀ (r : Nat) (c nx : List Int), nx ≠ [] → (∀ x : Int, x ∈ nx → 0 ≤ x ∧ x < (n.skies.length : Int)) → coursesFrom n r c nx ≠ []
 | 0, c, nx, _, _ => by simp [coursesFrom]
 | r + 1, c, nx, hne, hx => by
   cases nx with
   | nil => exact absurd rfl hne
   | cons x nx =>
     obtain ⟨x0, x1⟩ := hx x (by simp)
     obtain ⟨hk2, hn, hf⟩ := follows_ok hok (k := x.toNat) (by omega)
     have hfo : n.follows.getD x.toNat [] = n.follows[x.toNat] := by simp [List.getD, hk2]
     have := courses_some hok r (c ++ [x]) n.follows[x.toNat] hn hf
     simp only [coursesFrom, List.flatMap_cons, hfo]
     intro h
     exact this (List.append_eq_nil_iff.1 h).1
end Go.Proofs.YtekgicoibcgecaaGreat

/-
  Copies of seasons; all worths; worse.
-/
namespace Go.Proofs.YtekgicoibcgecaaGreat
open Go.Ab
structure ShortC (n : Season) : Prop where
 grips : n.net.grips.length < 8796093022208
 anch : n.net.anch.length < 8796093022208
 walls : n.net.walls.length < 3518437208884
 places : n.sea.places.length < 8796093022208
 boats : n.sea.boats.length < 8796093022208
 skies : n.skies.length < 4398046511104
 follows : n.follows.length < 5864062014805
 first : n.first.length < 17592186044416
 days : n.days.length < 8796093022207
 each : ∀ l ∈ n.follows, l.length < 17592186044416
theorem ShortC.short {n : Season} (h : ShortC n) : Short n := by
 obtain ⟨h1, h2, h3, h4, h5, h6, h7, h8, h9, h10⟩ := h
 exact ⟨by omega, by omega, by omega, by omega, by omega, by omega, by omega, fun l hl => by have := h10 l hl; omega⟩
@[simp] theorem es_ints1 (l : List (List Int)) (x : List Int) : es cInts l ++ [[.sl .no 1 (es cInt x)]] = es cInts (l ++ [x]) := by simp [es]
@[simp] theorem map_cInts (r : Ren) (h : r.c .no = .no) (l) : (es cInts l).map (V.mapAll r) = es cInts l := es_map _ _ (fun _ => by simp [h]) _
@[simp] theorem map_cInts_d (d keep l) : (es cInts l).map (V.mapAll (dropR d keep)) = es cInts l := map_cInts _ rfl l
@[simp] theorem map_cInts_f (d k z e l) : (es cInts l).map (V.mapAll (frzR d k z e)) = es cInts l := map_cInts _ rfl l
@[simp] theorem map_cInts_r (own d loc ls d' lab l) : (es cInts l).map (V.mapAll (renR own d loc ls d' lab)) = es cInts l := map_cInts _ (by cases own <;> rfl) l
@[simp] theorem strip_cInts (l) : (es cInts l).map V.stripAll = es cInts l := es_strip _ (fun _ => by simp) _
@[simp] theorem refs_cInts (own : Bool) (d : Nat) (l) : (es cInts l).flatMap (V.refsAll own d) = [] := es_refs _ _ _ (fun _ => by cases own <;> simp [V.refs, Cap.refs]) _
@[simp] theorem elems_cInts (l) : elemsOk (es cInts l) 1 = true := elemsOk_es _ _ (fun _ => by simp) _
end Go.Proofs.YtekgicoibcgecaaGreat

/-
  What the reach of the arguments says of a season's copy.
-/
namespace Go.Proofs.YtekgicoibcgecaaGreat
open Go.Ab
theorem held_shortC {m : Season} (h : Held Reach m) : ShortC m := by
 obtain ⟨h1, h2, h3, h4, h5, h6, h7, h8, h9, h10⟩ := h
 simp only [Reach, bytes23, bytes97, bytes112, bytes123, bytes74, bytes34, bytes3, reachBytes] at h1 h2 h3 h4 h5 h6 h7 h8 h9 h10
 exact ⟨by omega, by omega, by omega, by omega, by omega, by omega, by omega, by omega, by omega, fun l hl => by have := h10 l hl; omega⟩
end Go.Proofs.YtekgicoibcgecaaGreat

/-
  The document's chapter 2: truths.
-/
namespace Go.Proofs.YtekgicoibcgecaaGreat
open Go.Ab
def rng (lo hi : Int) : List Int := (List.range (hi + 1 - lo).toNat).map fun k : Nat => lo + (k : Int)
theorem flat_le {α β : Type} (f : α → List β) (m : Nat) : ∀ l : List α, (∀ x ∈ l, (f x).length ≤ m) → (l.flatMap f).length ≤ l.length * m
 | [], _ => by simp
 | x :: l, h => by
   rw [List.flatMap_cons, List.length_append, List.length_cons, Nat.add_mul, Nat.one_mul]
   have := flat_le f m l (fun y hy => h y (by simp [hy]))
   have := h x (by simp)
   omega
end Go.Proofs.YtekgicoibcgecaaGreat

/-
  The plain law of chapter 2: what is known of a net, by its worst and its best truth.
-/
namespace Go.Proofs.YtekgicoibcgecaaGreat
open Go.Ab
structure Tru where
 w : Int
 c : Int
 g : List Int
@[simp] def cTru (a : Tru) : List V := [i64 a.w, i64 a.c, .sl .no 1 (es cInt a.g)]
end Go.Proofs.YtekgicoibcgecaaGreat

/-
  The plain law of chapter 5: the greatest number of parts of a place, and the least need.
-/
namespace Go.Proofs.YtekgicoibcgecaaGreat
open Go.Ab
end Go.Proofs.YtekgicoibcgecaaGreat

/-
  The reference of chapter 2: Bears, Can, more, Truths, quiet, Safe.
-/
namespace Go.Proofs.YtekgicoibcgecaaGreat
open Go.Ab
@[simp] theorem map_cTru (r : Ren) (h : r.c .no = .no) (l) : (es cTru l).map (V.mapAll r) = es cTru l := es_map _ _ (fun _ => by simp [h]) _
@[simp] theorem map_cTru_d (d keep l) : (es cTru l).map (V.mapAll (dropR d keep)) = es cTru l := map_cTru _ rfl l
@[simp] theorem map_cTru_f (d k z e l) : (es cTru l).map (V.mapAll (frzR d k z e)) = es cTru l := map_cTru _ rfl l
@[simp] theorem map_cTru_r (own d loc ls d' lab l) : (es cTru l).map (V.mapAll (renR own d loc ls d' lab)) = es cTru l := map_cTru _ (by cases own <;> rfl) l
@[simp] theorem strip_cTru (l) : (es cTru l).map V.stripAll = es cTru l := es_strip _ (fun _ => by simp) _
@[simp] theorem refs_cTru (own : Bool) (d : Nat) (l) : (es cTru l).flatMap (V.refsAll own d) = [] := es_refs _ _ _ (fun _ => by cases own <;> simp [V.refs, Cap.refs]) _
@[simp] theorem elems_cTru (l) : elemsOk (es cTru l) 3 = true := elemsOk_es _ _ (fun _ => by simp) _
@[simp] theorem es_tru1 (l : List Tru) (w c : Int) (g : List Int) : es cTru l ++ [[i64 w, i64 c, .sl .no 1 (es cInt g)]] = es cTru (l ++ [⟨w, c, g⟩]) := by simp [es]
end Go.Proofs.YtekgicoibcgecaaGreat

/-
  The reference of chapter 5: Sum, AreParts, partings, ShareOf, NeedOf, crews, Fits, CostOf, Crew.
-/
namespace Go.Proofs.YtekgicoibcgecaaGreat
open Go.Ab
def slV (b : List Int) : V := .sl (if b = [] then .full else .no) 1 (es cInt b)
@[simp] theorem slV_nil : slV [] = .sl .full 1 [] := rfl
end Go.Proofs.YtekgicoibcgecaaGreat

/-
  Equal nets, seas, seasons are the same for the laws.
-/
namespace Go.Proofs.YtekgicoibcgecaaGreat
open Go.Ab
end Go.Proofs.YtekgicoibcgecaaGreat

/-
  The reference of chapter 13: ask, Calm, Holds, Mays, May, worth, lift, brings, courses.
-/
namespace Go.Proofs.YtekgicoibcgecaaGreat
open Go.Ab
@[simp] def cBool (b : Bool) : List V := [.bool b]
@[simp] theorem map_cBool (r : Ren) (l) : (es cBool l).map (V.mapAll r) = es cBool l := es_map _ _ (fun _ => by simp) _
@[simp] theorem strip_cBool (l) : (es cBool l).map V.stripAll = es cBool l := es_strip _ (fun _ => by simp) _
@[simp] theorem refs_cBool (own : Bool) (d : Nat) (l) : (es cBool l).flatMap (V.refsAll own d) = [] := es_refs _ _ _ (fun _ => by simp) _
@[simp] theorem elems_cBool (l) : elemsOk (es cBool l) 1 = true := elemsOk_es _ _ (fun _ => by simp) _
@[simp] theorem es_bool1 (l : List Bool) (b : Bool) : es cBool l ++ [[.bool b]] = es cBool (l ++ [b]) := by simp [es]
@[simp] def cBools (l : List Bool) : List V := [.sl .no 1 (es cBool l)]
@[simp] theorem map_cBools (r : Ren) (h : r.c .no = .no) (l) : (es cBools l).map (V.mapAll r) = es cBools l := es_map _ _ (fun _ => by simp [h]) _
@[simp] theorem map_cBools_d (d keep l) : (es cBools l).map (V.mapAll (dropR d keep)) = es cBools l := map_cBools _ rfl l
@[simp] theorem map_cBools_f (d k z e l) : (es cBools l).map (V.mapAll (frzR d k z e)) = es cBools l := map_cBools _ rfl l
@[simp] theorem map_cBools_r (own d loc ls d' lab l) : (es cBools l).map (V.mapAll (renR own d loc ls d' lab)) = es cBools l := map_cBools _ (by cases own <;> rfl) l
@[simp] theorem strip_cBools (l) : (es cBools l).map V.stripAll = es cBools l := es_strip _ (fun _ => by simp) _
@[simp] theorem refs_cBools (own : Bool) (d : Nat) (l) : (es cBools l).flatMap (V.refsAll own d) = [] := es_refs _ _ _ (fun _ => by cases own <;> simp [V.refs, Cap.refs]) _
@[simp] theorem elems_cBools (l) : elemsOk (es cBools l) 1 = true := elemsOk_es _ _ (fun _ => by simp) _
@[simp] theorem es_bools1 (l : List (List Bool)) (x : List Bool) : es cBools l ++ [[.sl .no 1 (es cBool x)]] = es cBools (l ++ [x]) := by simp [es]
end Go.Proofs.YtekgicoibcgecaaGreat

/-
  SkiesMay.
-/
namespace Go.Proofs.YtekgicoibcgecaaGreat
open Go.Ab
end Go.Proofs.YtekgicoibcgecaaGreat

/-
  Chapter 13: worth, lift, brings, courses, Worst of the reference; Brings and Worst of the program.
-/
namespace Go.Proofs.YtekgicoibcgecaaGreat
open Go.Ab
theorem rising_len {l : List Int} {lo hi : Int} (h : rising l lo hi = true) (h0 : lo ≤ hi + 1) : (l.length : Int) ≤ hi - lo + 1 := by
 have key : ∀ k : Nat, ∀ hk : k < l.length, lo + (k : Int) ≤ l[k] := by
  intro k
  induction k with
  | zero =>
    intro hk
    have := (rising_mem h l[0] (List.getElem_mem hk)).1
    simpa using this
  | succ k ih =>
    intro hk
    have h1 := ih (by omega)
    have h2 := allB_iff.1 h (k + 1) (List.mem_range.2 hk)
    simp only [risingAt, Bool.and_eq_true, Nat.add_sub_cancel, Bool.or_eq_true, decide_eq_true_eq, List.getD, List.getElem?_eq_getElem hk, List.getElem?_eq_getElem (show k < l.length by omega), Option.getD_some] at h2
    rcases h2.2 with h3 | h3
    ·simp at h3
    ·omega
 by_cases hl : l = []
 ·subst hl; simp; omega
 ·have hp : 0 < l.length := List.length_pos_iff.2 hl
  have h1 := key (l.length - 1) (by omega)
  have h2 := (rising_mem h l[l.length - 1] (List.getElem_mem (by omega))).2
  omega
theorem follows_len {n : Season} (h : seasonOk n = true) {k : Nat} (hk : k < n.skies.length) (hk2 : k < n.follows.length) : n.follows[k].length ≤ 4 := by
 obtain ⟨_, _, _, h4, h5, _, _, h8, _⟩ := seasonOk_iff.1 h
 have h9 := allB_iff.1 h8 k (List.mem_range.2 hk)
 simp only [skyAt, List.getElem?_eq_getElem hk, List.getElem?_eq_getElem hk2, areSkies, Bool.and_eq_true, decide_eq_true_eq] at h9
 have := rising_len h9.2.2 (by omega)
 omega
theorem first_len {n : Season} (h : seasonOk n = true) : n.first.length ≤ 4 := by
 obtain ⟨_, _, _, h4, _, h6, _⟩ := seasonOk_iff.1 h
 simp only [areSkies, Bool.and_eq_true, decide_eq_true_eq] at h6
 have := rising_len h6.2 (by omega)
 omega
theorem courses_bound {n : Season} (hok : seasonOk n = true) : ∀ (r : Nat) (c nx : List Int), nx.length ≤ 4 → (∀ x : Int, x ∈ nx → 0 ≤ x ∧ x < (n.skies.length : Int)) → (coursesFrom n r c nx).length ≤ 4 ^ r
 | 0, c, nx, _, _ => by simp [coursesFrom]
 | r + 1, c, nx, hl, hx => by
   have h1 := flat_le (fun (x : Int) => coursesFrom n r (c ++ [x]) (n.follows.getD x.toNat [])) (4 ^ r) nx (fun x hxm => by
    obtain ⟨x0, x1⟩ := hx x hxm
    obtain ⟨hk2, hn, hf⟩ := follows_ok hok (k := x.toNat) (by omega)
    have hfo : n.follows.getD x.toNat [] = n.follows[x.toNat] := by simp [List.getD, hk2]
    simp only [hfo]
    exact courses_bound hok r _ _ (follows_len hok (by omega) hk2) hf)
   rw [coursesFrom, Nat.pow_succ, Nat.mul_comm]
   exact Nat.le_trans h1 (Nat.mul_le_mul_right _ hl)
def allCourses (n : Season) : List (List Int) := coursesFrom n n.days.length [] n.first
theorem allCourses_ok {n : Season} (hok : seasonOk n = true) : (allCourses n).length ≤ 1024 ∧ allCourses n ≠ [] ∧ ∀ c ∈ allCourses n, c.length = n.days.length ∧ ∀ x : Int, x ∈ c → 0 ≤ x ∧ x < (n.skies.length : Int) := by
 obtain ⟨_, _, q3, q4, q5, _, q7, _, _⟩ := seasonOk_iff.1 hok
 refine ⟨?_, courses_some hok _ _ _ (first_ok hok).1 (first_ok hok).2, coursesFrom_ok hok _ _ _ (by simp) (by simp) (first_ok hok).2⟩
 refine Nat.le_trans (courses_bound hok _ _ _ (first_len hok) (first_ok hok).2) ?_
 calc 4 ^ n.days.length ≤ 4 ^ 5 := Nat.pow_le_pow_right (by omega) (by omega)
  _ = 1024 := rfl
end Go.Proofs.YtekgicoibcgecaaGreat

/-
  Chapter 13: Brings and Worst, of both; SkiesBrings.
-/
namespace Go.Proofs.YtekgicoibcgecaaGreat
open Go.Ab
theorem e_isCourse_l (n0 : Int) (n1 : Int) (n2 : Int) (n3 : Int) (n4 : List Sp) (n5 : List Anc) (n6 : List Wal) (n7 : Int) (n8 : Int) (n9 : List Sp) (n10 : List Boat) (n11 : List Sky) (n12 : List (List Int)) (n13 : List Int) (n14 : List Sp) (hs : Short (⟨⟨⟨n0, n1⟩, ⟨n2, n3⟩, n4, n5, n6⟩, ⟨⟨n7, n8⟩, n9, n10⟩, n11, n12, n13, n14⟩ : Season)) (hok : seasonOk (⟨⟨⟨n0, n1⟩, ⟨n2, n3⟩, n4, n5, n6⟩, ⟨⟨n7, n8⟩, n9, n10⟩, n11, n12, n13, n14⟩ : Season) = true) (c : List Int) (hcl : c.length < 4611686018427387904) (s : Stk) :
 ∃ nx', Run T b74l0 [(1, .sl .no 1 (es cInt c)), (2, .ptr s.length 32 0), (5, .sl .no 1 (es cInt n13)), (10, .sl .no 1 (es cInt c)), (11, i64 c.length), (12, i64 0)] ([(32, .cell [i64 n0, i64 n1, i64 n2, i64 n3, .sl .no 2 (es cSp n4), .sl .no 2 (es cAnc n5), .sl .no 5 (es cWal n6), i64 n7, i64 n8, .sl .no 2 (es cSp n9), .sl .no 2 (es cBoat n10), .sl .no 4 (es cSky n11), .sl .no 1 (es cInts n12), .sl .no 1 (es cInt n13), .sl .no 2 (es cSp n14)])] :: s) =
  some (if courseL (⟨⟨⟨n0, n1⟩, ⟨n2, n3⟩, n4, n5, n6⟩, ⟨⟨n7, n8⟩, n9, n10⟩, n11, n12, n13, n14⟩ : Season) n13 c = true then (.exit 0, [(1, .sl .no 1 (es cInt c)), (2, .ptr s.length 32 0), (5, .sl .no 1 (es cInt nx')), (10, .sl .no 1 (es cInt c)), (11, i64 c.length), (12, i64 c.length), (13, .bool false)], [(32, .cell [i64 n0, i64 n1, i64 n2, i64 n3, .sl .no 2 (es cSp n4), .sl .no 2 (es cAnc n5), .sl .no 5 (es cWal n6), i64 n7, i64 n8, .sl .no 2 (es cSp n9), .sl .no 2 (es cBoat n10), .sl .no 4 (es cSky n11), .sl .no 1 (es cInts n12), .sl .no 1 (es cInt n13), .sl .no 2 (es cSp n14)])] :: s) else (.ret, [(4, .bool false)], [(32, .cell [i64 n0, i64 n1, i64 n2, i64 n3, .sl .no 2 (es cSp n4), .sl .no 2 (es cAnc n5), .sl .no 5 (es cWal n6), i64 n7, i64 n8, .sl .no 2 (es cSp n9), .sl .no 2 (es cBoat n10), .sl .no 4 (es cSky n11), .sl .no 1 (es cInts n12), .sl .no 1 (es cInt n13), .sl .no 2 (es cSp n14)])] :: s)) := by
 let P : List Int → Prop := fun nx => nx.length < 4611686018427387904 ∧ ∀ x : Int, x ∈ nx → 0 ≤ x ∧ x < (n11.length : Int)
 have key := loop_list (T := T) (live := [1, 2, 5, 10, 11, 12]) (keep := [32]) (b := d74l0) c (fun _ (nx : List Int) => P nx)
  (fun k nx => [(1, .sl .no 1 (es cInt c)), (2, .ptr s.length 32 0), (5, .sl .no 1 (es cInt nx)), (10, .sl .no 1 (es cInt c)), (11, i64 c.length), (12, i64 k)]) (fun _ _ => [(32, .cell [i64 n0, i64 n1, i64 n2, i64 n3, .sl .no 2 (es cSp n4), .sl .no 2 (es cAnc n5), .sl .no 5 (es cWal n6), i64 n7, i64 n8, .sl .no 2 (es cSp n9), .sl .no 2 (es cBoat n10), .sl .no 4 (es cSky n11), .sl .no 1 (es cInts n12), .sl .no 1 (es cInt n13), .sl .no 2 (es cSp n14)])] :: s)
  (fun nx x => if inB nx x = true then .inl (n12.getD x.toNat []) else .inr (.ret, [(4, .bool false)], [(32, .cell [i64 n0, i64 n1, i64 n2, i64 n3, .sl .no 2 (es cSp n4), .sl .no 2 (es cAnc n5), .sl .no 5 (es cWal n6), i64 n7, i64 n8, .sl .no 2 (es cSp n9), .sl .no 2 (es cBoat n10), .sl .no 4 (es cSky n11), .sl .no 1 (es cInts n12), .sl .no 1 (es cInt n13), .sl .no 2 (es cSp n14)])] :: s))
  (fun nx => (.exit 0, [(1, .sl .no 1 (es cInt c)), (2, .ptr s.length 32 0), (5, .sl .no 1 (es cInt nx)), (10, .sl .no 1 (es cInt c)), (11, i64 c.length), (12, i64 c.length), (13, .bool false)], [(32, .cell [i64 n0, i64 n1, i64 n2, i64 n3, .sl .no 2 (es cSp n4), .sl .no 2 (es cAnc n5), .sl .no 5 (es cWal n6), i64 n7, i64 n8, .sl .no 2 (es cSp n9), .sl .no 2 (es cBoat n10), .sl .no 4 (es cSky n11), .sl .no 1 (es cInts n12), .sl .no 1 (es cInt n13), .sl .no 2 (es cSp n14)])] :: s))
  ?_ ?_ (fun k j q hk hj h => by split at h <;> simp_all; rw [← h]; simp) ?_ (by simp) n13 ⟨hs.first, (first_ok hok).2⟩
  [(1, .sl .no 1 (es cInt c)), (2, .ptr s.length 32 0), (5, .sl .no 1 (es cInt n13)), (10, .sl .no 1 (es cInt c)), (11, i64 c.length), (12, i64 0)] ([(32, .cell [i64 n0, i64 n1, i64 n2, i64 n3, .sl .no 2 (es cSp n4), .sl .no 2 (es cAnc n5), .sl .no 5 (es cWal n6), i64 n7, i64 n8, .sl .no 2 (es cSp n9), .sl .no 2 (es cBoat n10), .sl .no 4 (es cSky n11), .sl .no 1 (es cInts n12), .sl .no 1 (es cInt n13), .sl .no 2 (es cSp n14)])] :: s) (by simp) (by simp)
 ·have e : ∀ (l : List Int) (nx : List Int), ∃ nx', foldS (fun nx (x : Int) => if inB nx x = true then (.inl (n12.getD x.toNat []) : List Int ⊕ (Ex × Env × Stk)) else .inr (.ret, [(4, .bool false)], [(32, .cell [i64 n0, i64 n1, i64 n2, i64 n3, .sl .no 2 (es cSp n4), .sl .no 2 (es cAnc n5), .sl .no 5 (es cWal n6), i64 n7, i64 n8, .sl .no 2 (es cSp n9), .sl .no 2 (es cBoat n10), .sl .no 4 (es cSky n11), .sl .no 1 (es cInts n12), .sl .no 1 (es cInt n13), .sl .no 2 (es cSp n14)])] :: s))
   (fun nx => (.exit 0, [(1, .sl .no 1 (es cInt c)), (2, .ptr s.length 32 0), (5, .sl .no 1 (es cInt nx)), (10, .sl .no 1 (es cInt c)), (11, i64 c.length), (12, i64 c.length), (13, .bool false)], [(32, .cell [i64 n0, i64 n1, i64 n2, i64 n3, .sl .no 2 (es cSp n4), .sl .no 2 (es cAnc n5), .sl .no 5 (es cWal n6), i64 n7, i64 n8, .sl .no 2 (es cSp n9), .sl .no 2 (es cBoat n10), .sl .no 4 (es cSky n11), .sl .no 1 (es cInts n12), .sl .no 1 (es cInt n13), .sl .no 2 (es cSp n14)])] :: s)) l nx =
   if courseL (⟨⟨⟨n0, n1⟩, ⟨n2, n3⟩, n4, n5, n6⟩, ⟨⟨n7, n8⟩, n9, n10⟩, n11, n12, n13, n14⟩ : Season) nx l = true then (.exit 0, [(1, .sl .no 1 (es cInt c)), (2, .ptr s.length 32 0), (5, .sl .no 1 (es cInt nx')), (10, .sl .no 1 (es cInt c)), (11, i64 c.length), (12, i64 c.length), (13, .bool false)], [(32, .cell [i64 n0, i64 n1, i64 n2, i64 n3, .sl .no 2 (es cSp n4), .sl .no 2 (es cAnc n5), .sl .no 5 (es cWal n6), i64 n7, i64 n8, .sl .no 2 (es cSp n9), .sl .no 2 (es cBoat n10), .sl .no 4 (es cSky n11), .sl .no 1 (es cInts n12), .sl .no 1 (es cInt n13), .sl .no 2 (es cSp n14)])] :: s) else (.ret, [(4, .bool false)], [(32, .cell [i64 n0, i64 n1, i64 n2, i64 n3, .sl .no 2 (es cSp n4), .sl .no 2 (es cAnc n5), .sl .no 5 (es cWal n6), i64 n7, i64 n8, .sl .no 2 (es cSp n9), .sl .no 2 (es cBoat n10), .sl .no 4 (es cSky n11), .sl .no 1 (es cInts n12), .sl .no 1 (es cInt n13), .sl .no 2 (es cSp n14)])] :: s) := by
   intro l
   induction l with
   | nil => intro nx; exact ⟨nx, rfl⟩
   | cons x l ih =>
     intro nx
     by_cases h : inB nx x = true
     ·obtain ⟨nx', h2⟩ := ih (n12.getD x.toNat [])
      exact ⟨nx', by simp only [foldS, courseL, h, if_true, Bool.true_and]; exact h2⟩
     ·have h' : inB nx x = false := by simpa using h
      exact ⟨[], by simp [foldS, courseL, h']⟩
  obtain ⟨nx', h⟩ := e c n13
  rw [h] at key
  exact ⟨nx', key⟩
 ·intro k nx hk hP
  obtain ⟨hP1, hP2⟩ := hP
  cases h : inB nx c[k]
  ·have h' : anyB (fun y => decide (y = c[k])) nx = false := h
   simp (disch := first | omega | assumption | decide +kernel | (simp; done) | (simp; omega) | fail) [hk, h', wk k (by omega)]
  ·have h' : anyB (fun y => decide (y = c[k])) nx = true := h
   obtain ⟨x0, x1⟩ := hP2 _ (inB_iff.1 h)
   obtain ⟨hk2, _, hf⟩ := follows_ok hok (k := c[k].toNat) (by simp only; omega)
   simp only at hk2
   have hfo : n12.getD c[k].toNat [] = n12[c[k].toNat] := by simp [List.getD, hk2]
   simp (maxSteps := 1000000) (disch := first | omega | assumption | decide +kernel | (simp; done) | (simp; omega) | fail) [run_drawnK, hk, h', x0, hk2, hfo, wk k (by omega)]
 ·intro k nx nx' hk hP h
  cases h2 : inB nx c[k]
  ·simp [h2] at h
  ·simp only [h2, if_true, Sum.inl.injEq] at h
   subst h
   obtain ⟨x0, x1⟩ := hP.2 _ (inB_iff.1 h2)
   obtain ⟨hk2, _, hf⟩ := follows_ok hok (k := c[k].toNat) (by simp only; omega)
   simp only at hk2 hf
   have hfo : n12.getD c[k].toNat [] = n12[c[k].toNat] := by simp [List.getD, hk2]
   rw [hfo]
   exact ⟨hs.each _ (List.getElem_mem hk2), hf⟩
 ·intro nx hP
  simp
theorem e_isCourse (n0 : Int) (n1 : Int) (n2 : Int) (n3 : Int) (n4 : List Sp) (n5 : List Anc) (n6 : List Wal) (n7 : Int) (n8 : Int) (n9 : List Sp) (n10 : List Boat) (n11 : List Sky) (n12 : List (List Int)) (n13 : List Int) (n14 : List Sp) (hs : Short (⟨⟨⟨n0, n1⟩, ⟨n2, n3⟩, n4, n5, n6⟩, ⟨⟨n7, n8⟩, n9, n10⟩, n11, n12, n13, n14⟩ : Season)) (hok : seasonOk (⟨⟨⟨n0, n1⟩, ⟨n2, n3⟩, n4, n5, n6⟩, ⟨⟨n7, n8⟩, n9, n10⟩, n11, n12, n13, n14⟩ : Season) = true) (c : List Int) (hcl : c.length < 4611686018427387904) (lab s) :
 den T 74 [.agg [i64 n0, i64 n1, i64 n2, i64 n3, .sl .no 2 (es cSp n4), .sl .no 2 (es cAnc n5), .sl .no 5 (es cWal n6), i64 n7, i64 n8, .sl .no 2 (es cSp n9), .sl .no 2 (es cBoat n10), .sl .no 4 (es cSky n11), .sl .no 1 (es cInts n12), .sl .no 1 (es cInt n13), .sl .no 2 (es cSp n14)], .sl .no 1 (es cInt c)] lab s = some (.bool (isCourse (⟨⟨⟨n0, n1⟩, ⟨n2, n3⟩, n4, n5, n6⟩, ⟨⟨n7, n8⟩, n9, n10⟩, n11, n12, n13, n14⟩ : Season) c), s) := by
 obtain ⟨nx', key⟩ := e_isCourse_l n0 n1 n2 n3 n4 n5 n6 n7 n8 n9 n10 n11 n12 n13 n14 hs hok c hcl s
 have hi : isCourse (⟨⟨⟨n0, n1⟩, ⟨n2, n3⟩, n4, n5, n6⟩, ⟨⟨n7, n8⟩, n9, n10⟩, n11, n12, n13, n14⟩ : Season) c = (decide ((c.length : Int) = n14.length) && courseL (⟨⟨⟨n0, n1⟩, ⟨n2, n3⟩, n4, n5, n6⟩, ⟨⟨n7, n8⟩, n9, n10⟩, n11, n12, n13, n14⟩ : Season) n13 c) := by
  have : ((c.length : Int) = n14.length) ↔ (c.length = n14.length) := by omega
  simp only [isCourse, this]
 rw [hi]
 rw [den_fn t74 _ _ _ rfl]
 simp only [b74]
 cases c1 : courseL (⟨⟨⟨n0, n1⟩, ⟨n2, n3⟩, n4, n5, n6⟩, ⟨⟨n7, n8⟩, n9, n10⟩, n11, n12, n13, n14⟩ : Season) n13 c
 ·simp (disch := first | omega | assumption | decide +kernel | (simp; done) | (simp; omega) | fail) [c1, key]
 ·simp (disch := first | omega | assumption | decide +kernel | (simp; done) | (simp; omega) | fail) [c1, key]
theorem isCourse_ok {n : Season} (hok : seasonOk n = true) {c : List Int} (h : isCourse n c = true) : c.length = n.days.length ∧ ∀ x : Int, x ∈ c → 0 ≤ x ∧ x < (n.skies.length : Int) := by
 simp only [isCourse, Bool.and_eq_true, decide_eq_true_eq] at h
 have := course_mem n c [] n.first h.2
 rw [List.nil_append] at this
 exact coursesFrom_ok hok _ [] n.first (by simpa using h.1) (by simp) (first_ok hok).2 c this
def bringsR (n : Season) (c : List Int) : Int × Int := if seasonOk n = true then (if isCourse n c = true then (bringsS n c, 0) else (0, 1)) else (0, 130)
set_option maxHeartbeats 1000000 in
theorem e_Brings (n0 : Int) (n1 : Int) (n2 : Int) (n3 : Int) (n4 : List Sp) (n5 : List Anc) (n6 : List Wal) (n7 : Int) (n8 : Int) (n9 : List Sp) (n10 : List Boat) (n11 : List Sky) (n12 : List (List Int)) (n13 : List Int) (n14 : List Sp) (hs : Short (⟨⟨⟨n0, n1⟩, ⟨n2, n3⟩, n4, n5, n6⟩, ⟨⟨n7, n8⟩, n9, n10⟩, n11, n12, n13, n14⟩ : Season)) (c : List Int) (hcl : c.length < 4611686018427387904) (lab s) : den T 20 [.agg [i64 n0, i64 n1, i64 n2, i64 n3, .sl .no 2 (es cSp n4), .sl .no 2 (es cAnc n5), .sl .no 5 (es cWal n6), i64 n7, i64 n8, .sl .no 2 (es cSp n9), .sl .no 2 (es cBoat n10), .sl .no 4 (es cSky n11), .sl .no 1 (es cInts n12), .sl .no 1 (es cInt n13), .sl .no 2 (es cSp n14)], .sl .no 1 (es cInt c)] lab s = some (.tup [i64 (bringsR (⟨⟨⟨n0, n1⟩, ⟨n2, n3⟩, n4, n5, n6⟩, ⟨⟨n7, n8⟩, n9, n10⟩, n11, n12, n13, n14⟩ : Season) c).1, i64 (bringsR (⟨⟨⟨n0, n1⟩, ⟨n2, n3⟩, n4, n5, n6⟩, ⟨⟨n7, n8⟩, n9, n10⟩, n11, n12, n13, n14⟩ : Season) c).2], s) := by
 have hc := fun lab s => e_Check13p n0 n1 n2 n3 n4 n5 n6 n7 n8 n9 n10 n11 n12 n13 n14 (by have := hs.grips; simp only at this; omega) (by have := hs.anch; simp only at this; omega) (by have := hs.walls; simp only at this; omega) hs.skies hs.first hs.days hs.each lab s
 rw [den_fn t20 _ _ _ rfl]
 simp only [b20]
 cases c0 : seasonOk (⟨⟨⟨n0, n1⟩, ⟨n2, n3⟩, n4, n5, n6⟩, ⟨⟨n7, n8⟩, n9, n10⟩, n11, n12, n13, n14⟩ : Season)
 ·simp (maxSteps := 1000000) (disch := first | omega | assumption | decide +kernel | (simp; done) | (simp; omega) | fail) [hc, c0, bringsR]
 have hi := fun lab s => e_isCourse n0 n1 n2 n3 n4 n5 n6 n7 n8 n9 n10 n11 n12 n13 n14 hs c0 c hcl lab s
 cases c1 : isCourse (⟨⟨⟨n0, n1⟩, ⟨n2, n3⟩, n4, n5, n6⟩, ⟨⟨n7, n8⟩, n9, n10⟩, n11, n12, n13, n14⟩ : Season) c
 ·have ho := fun lab loc s => e_open13_arg n0 n1 n2 n3 n4 n5 n6 n7 n8 n9 n10 n11 n12 n13 n14 hs c0 lab loc s
  simp (maxSteps := 1000000) (disch := first | omega | assumption | decide +kernel | (simp; done) | (simp; omega) | fail) [hc, hi, ho, c0, c1, bringsR]
 ·obtain ⟨k1, k2⟩ := isCourse_ok c0 c1
  simp only at k1 k2
  have hp := fun lab loc s k0 => e_open13 n0 n1 n2 n3 n4 n5 n6 n7 n8 n9 n10 n11 n12 n13 n14 hs c0 lab loc s k0
  have hb := fun lab => e_brings13 (⟨⟨⟨n0, n1⟩, ⟨n2, n3⟩, n4, n5, n6⟩, ⟨⟨n7, n8⟩, n9, n10⟩, n11, n12, n13, n14⟩ : Season) c0 hs.each c k2 (by simp only; omega) s.length 304 ([(32, .cell [i64 n0, i64 n1, i64 n2, i64 n3, .sl .no 2 (es cSp n4), .sl .no 2 (es cAnc n5), .sl .no 5 (es cWal n6), i64 n7, i64 n8, .sl .no 2 (es cSp n9), .sl .no 2 (es cBoat n10), .sl .no 4 (es cSky n11), .sl .no 1 (es cInts n12), .sl .no 1 (es cInt n13), .sl .no 2 (es cSp n14)]), (304, .cell (seasonCell (⟨⟨⟨n0, n1⟩, ⟨n2, n3⟩, n4, n5, n6⟩, ⟨⟨n7, n8⟩, n9, n10⟩, n11, n12, n13, n14⟩ : Season)))] :: s) (by simp) ((sget_top _ _ _).trans rfl) lab
  have hr : bringsR (⟨⟨⟨n0, n1⟩, ⟨n2, n3⟩, n4, n5, n6⟩, ⟨⟨n7, n8⟩, n9, n10⟩, n11, n12, n13, n14⟩ : Season) c = (bringsS (⟨⟨⟨n0, n1⟩, ⟨n2, n3⟩, n4, n5, n6⟩, ⟨⟨n7, n8⟩, n9, n10⟩, n11, n12, n13, n14⟩ : Season) c, 0) := by simp [bringsR, c0, c1]
  rw [hr]
  simp (maxSteps := 1000000) (disch := first | omega | assumption | decide +kernel | (simp; done) | (simp; omega) | fail) [orSlow_none, hc, hi, hp, hb, c0, c1]
def worstY (n : Season) (a : Option (List Int) × Int) (c : List Int) : Option (List Int) × Int := if a.2 < 0 ∨ bringsS n c < a.2 then (some c, bringsS n c) else a
def worstQ (n : Season) : Option (List Int) × Int := (allCourses n).foldl (worstY n) (none, -1)
def worstEnv (d : Nat) : Env := [(4, .ptr d 64 0), (6, .ptr d 96 0), (7, .ptr d 112 0), (19, .fn 77 [.ptr d 192 0] [])]
def worstF (n : Season) (d : Nat) (x : LoopState) (a : Option (List Int) × Int) : Ab.Loc := [(16, .cell (season0 n)), (192, .cell (seasonCell n)), (64, .cell [.ptr d 192 0]), (96, .cell [crewV a.1]), (112, .cell [i64 a.2]), (5639, .loop [20] b22l0 b22l1 (worstEnv d) x none)]
theorem worst_body (n : Season) (hok : seasonOk n = true) (hlen : ∀ l ∈ n.follows, l.length < 4611686018427387904) (c : List Int) (hc : ∀ x : Int, x ∈ c → 0 ≤ x ∧ x < (n.skies.length : Int)) (hcl : c.length = n.days.length) (d : Nat) (X : Option (List Int) × Int → Stk) (hd : ∀ a, d < (X a).length)
 (h64 : ∀ a, sget (X a) d 64 = some (.cell [.ptr d 192 0])) (hsea : ∀ a, sget (X a) d 192 = some (.cell (seasonCell n))) (h96 : ∀ a, sget (X a) d 96 = some (.cell [crewV a.1])) (h112 : ∀ a, sget (X a) d 112 = some (.cell [i64 a.2]))
 (p96 : ∀ a c, sput (X a) d 96 (.cell [.sl .no 1 (es cInt c)]) = X (some c, a.2)) (p112 : ∀ a m, sput (X a) d 112 (.cell [i64 m]) = X (a.1, m)) (a) :
 ∃ e, Run T b22l1 [(4, .ptr d 64 0), (6, .ptr d 96 0), (7, .ptr d 112 0), (8, .sl .no 1 (es cInt c))] ([] :: X a) = some (.normal, e, [] :: X (worstY n a c)) := by
 have hd' : ∀ a, ¬ d = (X a).length := fun a => by have := hd a; omega
 have hb := fun lab => e_brings13 n hok hlen c hc (by omega) d 192 ([] :: X a) (by have := hd a; simp; omega) (by rw [sget_cons, if_neg (hd' a), hsea a]) lab
 simp only [b22l1]
 by_cases x1 : a.2 < 0
 ·refine ⟨[(6, .ptr d 96 0)], ?_⟩
  have e1 : worstY n a c = (some c, bringsS n c) := by simp [worstY, x1]
  rw [e1]
  simp (disch := first | omega | assumption | decide +kernel | (simp; done) | (simp; omega) | fail) [hd', h64, hb, x1, h112, h96, p96, p112]
 ·by_cases x2 : bringsS n c < a.2
  ·refine ⟨[(6, .ptr d 96 0)], ?_⟩
   have e1 : worstY n a c = (some c, bringsS n c) := by simp [worstY, x2]
   rw [e1]
   simp (disch := first | omega | assumption | decide +kernel | (simp; done) | (simp; omega) | fail) [hd', h64, hb, x1, x2, h112, h96, p96, p112]
  ·refine ⟨[(6, .ptr d 96 0), (7, .ptr d 112 0), (8, .sl .no 1 (es cInt c)), (9, i64 (bringsS n c)), (30, .bool false)], ?_⟩
   have e1 : worstY n a c = a := by simp [worstY, x1, x2]
   rw [e1]
   simp (disch := first | omega | assumption | decide +kernel | (simp; done) | (simp; omega) | fail) [hd', h64, hb, x1, x2, h112]
def worstSt (n : Season) (S0 : Stk) (a : Option (List Int) × Int) : Stk := worstF n S0.length .ready a :: S0
theorem worst_yield (n : Season) (hok : seasonOk n = true) (hlen : ∀ l ∈ n.follows, l.length < 4611686018427387904) (S0 : Stk) :
 Yield13 n (Option (List Int) × Int) (fun _ => True) S0.length 5639 S0.length 192 (S0.length + 1) (worstSt n S0) (fun a c => (worstY n a c, true)) where
 len := fun a => by simp [worstSt]
 lt := by omega
 ltd := by omega
 sea := fun a => by rw [worstSt, sget_top]; rfl
 keep := fun a c ha hb => trivial
 yield := fun fr a c lab ha hc hcl => by
  have top : ∀ (x : LoopState) a l', sget (fr ++ worstF n S0.length x a :: S0) S0.length l' = (worstF n S0.length x a).get l' := fun x a l' => by
   rw [sget_append _ _ _ _ (by simp), sget_top]
  have put : ∀ (x : LoopState) a l' en, sput (fr ++ worstF n S0.length x a :: S0) S0.length l' en = fr ++ (worstF n S0.length x a).put l' en :: S0 := fun x a l' en => by
   rw [sput_append _ _ _ _ _ (by simp), sput_top]
  have hl : ∀ (x : LoopState) a, S0.length < (fr ++ worstF n S0.length x a :: S0).length := fun x a => by simp; omega
  obtain ⟨e, hB⟩ := worst_body n hok hlen c hc hcl S0.length (fun a => fr ++ worstF n S0.length .busy a :: S0) (fun a => hl _ _) (fun a => by rw [top]; rfl) (fun a => by rw [top]; rfl) (fun a => by rw [top]; rfl) (fun a => by rw [top]; rfl)
   (fun a c => by rw [put]; rfl) (fun a m => by rw [put]; rfl) a
  change denV T _ _ lab (fr ++ worstF n S0.length .ready a :: S0) = _
  refine (yld_run (ps := [20]) (A := b22l0) (B := b22l1) (env := worstEnv S0.length) (ex := .normal) (st := .busy) (p := none) (s3 := fr ++ worstF n S0.length .busy (worstY n a c) :: S0) (by rw [top]; rfl) rfl
   (e1 := [(4, .ptr S0.length 64 0), (6, .ptr S0.length 96 0), (7, .ptr S0.length 112 0), (8, .sl .no 1 (es cInt c))]) (fr1 := []) ?_ (hl _ _) (e2 := e) (fr2 := []) ?_ (by rw [top]; rfl)).trans ?_
  ·simp [b22l0, worstEnv, bindEnv]
  ·rw [put]; exact hB
  ·rw [put]; rfl
def worstR (n : Season) : List Int × Int := if seasonOk n = true then ((worstQ n).1.getD [], 0) else ([], 130)
set_option maxHeartbeats 1000000 in
theorem e_Worst (n0 : Int) (n1 : Int) (n2 : Int) (n3 : Int) (n4 : List Sp) (n5 : List Anc) (n6 : List Wal) (n7 : Int) (n8 : Int) (n9 : List Sp) (n10 : List Boat) (n11 : List Sky) (n12 : List (List Int)) (n13 : List Int) (n14 : List Sp) (hs : Short (⟨⟨⟨n0, n1⟩, ⟨n2, n3⟩, n4, n5, n6⟩, ⟨⟨n7, n8⟩, n9, n10⟩, n11, n12, n13, n14⟩ : Season)) (lab s) : den T 22 [.agg [i64 n0, i64 n1, i64 n2, i64 n3, .sl .no 2 (es cSp n4), .sl .no 2 (es cAnc n5), .sl .no 5 (es cWal n6), i64 n7, i64 n8, .sl .no 2 (es cSp n9), .sl .no 2 (es cBoat n10), .sl .no 4 (es cSky n11), .sl .no 1 (es cInts n12), .sl .no 1 (es cInt n13), .sl .no 2 (es cSp n14)]] lab s = some (.tup [.sl .no 1 (es cInt (worstR (⟨⟨⟨n0, n1⟩, ⟨n2, n3⟩, n4, n5, n6⟩, ⟨⟨n7, n8⟩, n9, n10⟩, n11, n12, n13, n14⟩ : Season)).1), i64 (worstR (⟨⟨⟨n0, n1⟩, ⟨n2, n3⟩, n4, n5, n6⟩, ⟨⟨n7, n8⟩, n9, n10⟩, n11, n12, n13, n14⟩ : Season)).2], s) := by
 rw [den_fn t22 _ _ _ rfl]
 simp only [b22]
 cases c0 : seasonOk (⟨⟨⟨n0, n1⟩, ⟨n2, n3⟩, n4, n5, n6⟩, ⟨⟨n7, n8⟩, n9, n10⟩, n11, n12, n13, n14⟩ : Season)
 ·have ho := fun b lab loc s => e_open13_bad n0 n1 n2 n3 n4 n5 n6 n7 n8 n9 n10 n11 n12 n13 n14 hs c0 b lab loc s
  simp (disch := first | omega | assumption | decide +kernel | (simp; done) | (simp; omega) | fail) [c0, ho, worstR]
 ·have hp := fun lab loc s k0 => e_open13 n0 n1 n2 n3 n4 n5 n6 n7 n8 n9 n10 n11 n12 n13 n14 hs c0 lab loc s k0
  have h := fun lab => e_courses13 (⟨⟨⟨n0, n1⟩, ⟨n2, n3⟩, n4, n5, n6⟩, ⟨⟨n7, n8⟩, n9, n10⟩, n11, n12, n13, n14⟩ : Season) c0 hs.each hs.first (worst_yield (⟨⟨⟨n0, n1⟩, ⟨n2, n3⟩, n4, n5, n6⟩, ⟨⟨n7, n8⟩, n9, n10⟩, n11, n12, n13, n14⟩ : Season) c0 hs.each s) (none, -1) trivial lab
  have hr : worstR (⟨⟨⟨n0, n1⟩, ⟨n2, n3⟩, n4, n5, n6⟩, ⟨⟨n7, n8⟩, n9, n10⟩, n11, n12, n13, n14⟩ : Season) = ((worstQ (⟨⟨⟨n0, n1⟩, ⟨n2, n3⟩, n4, n5, n6⟩, ⟨⟨n7, n8⟩, n9, n10⟩, n11, n12, n13, n14⟩ : Season)).1.getD [], 0) := by rw [worstR, if_pos c0]
  rw [hr]
  rw [foldB_true] at h
  change ∀ lab, den T _ _ lab _ = some (_, worstSt _ s (worstQ (⟨⟨⟨n0, n1⟩, ⟨n2, n3⟩, n4, n5, n6⟩, ⟨⟨n7, n8⟩, n9, n10⟩, n11, n12, n13, n14⟩ : Season))) at h
  generalize worstQ (⟨⟨⟨n0, n1⟩, ⟨n2, n3⟩, n4, n5, n6⟩, ⟨⟨n7, n8⟩, n9, n10⟩, n11, n12, n13, n14⟩ : Season) = q at h
  obtain ⟨v, m⟩ := q
  simp only [worstSt, worstF, worstEnv, season0, crewV] at h
  cases v
  ·simp only at h
   simp (maxSteps := 1000000) (disch := first | omega | assumption | decide +kernel | (simp; done) | (simp; omega) | fail) [run_drawnK, hp, h]
  ·simp only at h
   simp (maxSteps := 1000000) (disch := first | omega | assumption | decide +kernel | (simp; done) | (simp; omega) | fail) [run_drawnK, hp, h]
theorem worst_len {n : Season} (hok : seasonOk n = true) : (worstR n).1.length ≤ 5 := by
 have q7 := (seasonOk_iff.1 hok).2.2.2.2.2.2.1
 have key : ∀ (l : List (List Int)) (a : Option (List Int) × Int), (∀ c ∈ l, c.length ≤ 5) → (a.1.getD []).length ≤ 5 → ((l.foldl (worstY n) a).1.getD []).length ≤ 5 := by
  intro l
  induction l with
  | nil => intro a _ h; exact h
  | cons c l ih =>
    intro a hl h
    refine ih _ (fun c hc => hl c (by simp [hc])) ?_
    unfold worstY
    split
    ·exact hl c (by simp)
    ·exact h
 rw [worstR, if_pos hok]
 exact key _ _ (fun c hc => by have := ((allCourses_ok hok).2.2 c hc).1; omega) (by simp)
end Go.Proofs.YtekgicoibcgecaaGreat

/-
  slices.Clone, slices.Compact.
-/
namespace Go.Proofs.YtekgicoibcgecaaGreat
open Go.Ab
theorem loop_next {live keep : List Nat} {b : AC} {e e1 : Env} {s s1 : Stk} {q} (h : Run T b (gcEnv live keep e s) (gcStk keep s) = some (.normal, e1, s1)) (h2 : Run T (.loop live keep b) e1 s1 = q) : Run T (.loop live keep b) e s = q := by
 rw [run_loop, h, ← h2]; rfl
theorem loop_stop {live keep : List Nat} {b : AC} {e e1 : Env} {s s1 : Stk} {ex : Ex} (h : Run T b (gcEnv live keep e s) (gcStk keep s) = some (ex, e1, s1)) (hx : ex ≠ .normal) : Run T (.loop live keep b) e s = some (ex, e1, s1) := by
 rw [run_loop, h]; cases ex <;> first | rfl | exact absurd rfl hx
theorem e_CloneI (l : List Int) (hne : l ≠ []) (hl : l.length < 17592186044416) (lab s) : den T 82 [.sl .no 1 (es cInt l)] lab s = some (.sl .no 1 (es cInt l), s) := by
 have h0 : es cInt l ≠ [] := by simpa using hne
 rw [den_fn t82 _ _ _ rfl]
 simp only [b82]
 simp (maxSteps := 1000000) (disch := first | omega | assumption | decide +kernel | (simp; done) | (simp; omega) | fail) [h0, appK_full, appD_full]
@[simp] theorem es_setI (l : List Int) (k : Nat) (x : Int) : (es cInt l).set k [i64 x] = es cInt (l.set k x) := by simp [es, List.map_set]
theorem set0 (m r : List Int) (p x : Int) : (m ++ p :: r).set 0 x = x :: ((m ++ [p]).tail ++ r) := by cases m <;> simp
def cpG (L : List Int) (k0 : Nat) (a : List Int × List Int) (j : Nat) : List Int × List Int :=
 if L.getD (k0 + j + 1) 0 = L.getD (k0 + j) 0 then (a.1, a.2 ++ [L.getD (k0 + j) 0]) else (a.1 ++ [L.getD (k0 + j + 1) 0], (a.2 ++ [L.getD (k0 + j) 0]).tail)
theorem compact_l1 (L : List Int) (N : Nat) (hN : L.length = N) (hN2 : N < 4611686018427387904) (k0 : Nat) (hk0 : k0 < N) (d l : Nat) (X : List Int → Stk) (hd : ∀ a, ¬ d = (X a).length)
 (hget : ∀ a, sget (X a) d l = some (.arr 1 (es cInt a))) (hput : ∀ a b, sput (X a) d l (.arr 1 (es cInt b)) = X b) :
 Run T b84l1 [(0, .asl d l 1 N 0 N), (3, i64 k0), (4, .asl d l 1 N k0 (N - k0)), (5, i64 1)] ([] :: X L) =
  some (.exit 2, [(0, .asl d l 1 N 0 N), (3, i64 (((List.range (N - k0 - 1)).foldl (cpG L k0) (L.take k0, [])).1.length : Nat)), (4, .asl d l 1 N k0 (N - k0)), (5, i64 ((N - k0 - 1 : Nat) + 1)), (32, .bool false)], [] :: X (((List.range (N - k0 - 1)).foldl (cpG L k0) (L.take k0, [])).1 ++ (((List.range (N - k0 - 1)).foldl (cpG L k0) (L.take k0, [])).2 ++ L.drop (k0 + (N - k0 - 1))))) := by
 have key := loop_fold (T := T) (live := [0, 3, 4, 5]) (keep := []) (b := d84l1) (List.range (N - k0 - 1)) (fun j (a : List Int × List Int) => a.1.length + a.2.length = k0 + j) (cpG L k0)
  (fun j a => [(0, .asl d l 1 N 0 N), (3, i64 (a.1.length : Nat)), (4, .asl d l 1 N k0 (N - k0)), (5, i64 ((j : Nat) + 1))]) (fun j a => [] :: X (a.1 ++ (a.2 ++ L.drop (k0 + j))))
  (fun a => (.exit 2, [(0, .asl d l 1 N 0 N), (3, i64 (a.1.length : Nat)), (4, .asl d l 1 N k0 (N - k0)), (5, i64 ((N - k0 - 1 : Nat) + 1)), (32, .bool false)], [] :: X (a.1 ++ (a.2 ++ L.drop (k0 + (N - k0 - 1))))))
  (by simp) ?_ ?_ ?_ (L.take k0, []) (by simp; omega) [(0, .asl d l 1 N 0 N), (3, i64 k0), (4, .asl d l 1 N k0 (N - k0)), (5, i64 1)] ([] :: X L) ?_ (by simp)
 ·exact key
 ·intro j a hj hi
  simp only [List.length_range] at hj
  simp only [List.getElem_range]
  have hj1 : k0 + j < L.length := by omega
  have hj2 : k0 + j + 1 < L.length := by omega
  have e1 : L.drop (k0 + j) = L[k0 + j] :: L[k0 + j + 1] :: L.drop (k0 + j + 2) := by rw [List.drop_eq_getElem_cons hj1, List.drop_eq_getElem_cons hj2]
  have e2 : L.drop (k0 + (j + 1)) = L[k0 + j + 1] :: L.drop (k0 + j + 2) := by rw [show k0 + (j + 1) = k0 + j + 1 by omega, List.drop_eq_getElem_cons hj2]
  have g1 : L.getD (k0 + j + 1) 0 = L[k0 + j + 1] := by simp [List.getD, hj2]
  have g2 : L.getD (k0 + j) 0 = L[k0 + j] := by simp [List.getD, hj1]
  rw [e2]
  simp only [cpG, g1, g2, e1]
  obtain ⟨pre, mid⟩ := a
  simp only at hi ⊢
  generalize hx : L[k0 + j + 1] = x
  generalize hp : L[k0 + j] = p
  have hr : (L.drop (k0 + j + 2)).length = N - (k0 + j + 2) := by simp [hN]
  generalize L.drop (k0 + j + 2) = r at hr
  obtain ⟨A, hA⟩ : ∃ A, A = pre ++ (mid ++ p :: x :: r) := ⟨_, rfl⟩
  have hAl : A.length = N := by rw [hA]; simp; omega
  have hAx : A[k0 + (j + 1)]? = some x := by
   rw [hA, ← List.append_assoc, List.getElem?_append_right (by simp; omega)]
   simp only [List.length_append]
   rw [show k0 + (j + 1) - (pre.length + mid.length) = 1 by omega]; rfl
  have hAp : A[k0 + j]? = some p := by
   rw [hA, ← List.append_assoc, List.getElem?_append_right (by simp; omega)]
   simp only [List.length_append]
   rw [show k0 + j - (pre.length + mid.length) = 0 by omega]; rfl
  have hlx : k0 + (j + 1) < A.length := by omega
  have hlp : k0 + j < A.length := by omega
  have hAx' : A[k0 + (j + 1)] = x := by rw [List.getElem?_eq_getElem hlx] at hAx; simpa using hAx
  have hAp' : A[k0 + j] = p := by rw [List.getElem?_eq_getElem hlp] at hAp; simpa using hAp
  have hset : A.set pre.length x = pre ++ (x :: ((mid ++ [p]).tail ++ x :: r)) := by
   rw [hA, List.set_append_right _ _ (by omega), Nat.sub_self, set0]
  have hpl : pre.length < N := by omega
  have n1 : ((j : Int) + 1).toNat = j + 1 := by omega
  have n3 : j + 1 < N - k0 := by omega
  have n4 : j < N - k0 := by omega
  have n5 : ((j : Int) + 1) < (N - k0 : Nat) := by omega
  have n6 : (0 : Int) ≤ (j : Int) + 1 := by omega
  have n8 : (j : Int) < (N - k0 : Nat) := by omega
  rw [← hA]
  by_cases c : x = p
  ·rw [if_pos c]
   simp (maxSteps := 1000000) (disch := first | omega | assumption | decide +kernel | (simp; done) | (simp; omega) | fail) [run_drawnK, hd, hget, hAl, hAx', hAp', n1, n3, n4, n5, n6, n8, c, wi]
   rw [hA, c]
  ·rw [if_neg c]
   simp (maxSteps := 1000000) (disch := first | omega | assumption | decide +kernel | (simp; done) | (simp; omega) | fail) [run_drawnK, hd, hget, hput, hset, hAl, hAx', hAp', hpl, n1, n3, n4, n5, n6, n8, c, wi]
 ·intro j a hj hi
  simp only [List.length_range] at hj
  simp only [List.getElem_range]
  unfold cpG
  split <;> simp <;> omega
 ·intro a hi
  simp only [List.length_range] at hi ⊢
  obtain ⟨A, hA⟩ : ∃ A, A = a.1 ++ (a.2 ++ L.drop (k0 + (N - k0 - 1))) := ⟨_, rfl⟩
  have hAl : A.length = N := by rw [hA]; simp; omega
  have n1 : ¬ ((N - k0 - 1 : Nat) : Int) + 1 < (N - k0 : Nat) := by omega
  rw [← hA]
  simp (maxSteps := 1000000) (disch := first | omega | assumption | decide +kernel | (simp; done) | (simp; omega) | fail) [hd, hget, hAl, n1]
 ·have : min k0 L.length = k0 := by omega
  simp [hd, this]
theorem cp_inv (L : List Int) (hs : L.Pairwise (· ≤ ·)) (k0 : Nat) (h1 : 1 ≤ k0) (hk : k0 < L.length) (he : L[k0] = L[k0 - 1]) (hp : (L.take k0).Pairwise (· < ·)) : ∀ j, (hj : k0 + j < L.length) →
 ((List.range j).foldl (cpG L k0) (L.take k0, [])).1.Pairwise (· < ·) ∧ (∀ y, y ∈ ((List.range j).foldl (cpG L k0) (L.take k0, [])).1 ↔ y ∈ L.take (k0 + j + 1)) ∧ (∀ y ∈ ((List.range j).foldl (cpG L k0) (L.take k0, [])).1, y ≤ L[k0 + j])
 | 0, hj => by
   refine ⟨hp, fun y => ?_, fun y hy => ?_⟩
   ·simp only [List.range_zero, List.foldl_nil, Nat.add_zero, List.take_succ_eq_append_getElem hk, List.mem_append, List.mem_singleton]
    refine ⟨Or.inl, fun h => h.elim id fun h => ?_⟩
    subst h
    rw [he]
    exact List.mem_take_iff_getElem.2 ⟨k0 - 1, by omega, rfl⟩
   ·simp only [List.range_zero, List.foldl_nil] at hy
    obtain ⟨i, hi, rfl⟩ := List.mem_take_iff_getElem.1 hy
    simp only [Nat.add_zero]
    exact List.pairwise_iff_getElem.1 hs i k0 (by omega) hk (by omega)
 | j + 1, hj => by
   obtain ⟨a1, a2, a3⟩ := cp_inv L hs k0 h1 hk he hp j (by omega)
   have hj' : k0 + j < L.length := by omega
   have hj2 : k0 + j + 1 < L.length := by omega
   have g1 : L.getD (k0 + j + 1) 0 = L[k0 + j + 1] := by simp [List.getD, hj2]
   have g2 : L.getD (k0 + j) 0 = L[k0 + j] := by simp [List.getD, hj']
   have hle : L[k0 + j] ≤ L[k0 + j + 1] := List.pairwise_iff_getElem.1 hs _ _ hj' hj2 (by omega)
   rw [List.range_succ, List.foldl_append]
   generalize (List.range j).foldl (cpG L k0) (L.take k0, []) = a at *
   simp only [List.foldl_cons, List.foldl_nil, cpG, g1, g2]
   have et : L.take (k0 + (j + 1) + 1) = L.take (k0 + j + 1) ++ [L[k0 + j + 1]] := by rw [show k0 + (j + 1) + 1 = (k0 + j + 1) + 1 by omega, List.take_succ_eq_append_getElem hj2]
   have ei : L[k0 + (j + 1)] = L[k0 + j + 1] := rfl
   rw [ei]
   by_cases c : L[k0 + j + 1] = L[k0 + j]
   ·rw [if_pos c]
    refine ⟨a1, fun y => ?_, fun y hy => by have := a3 y hy; omega⟩
    rw [et, List.mem_append, List.mem_singleton, a2]
    refine ⟨Or.inl, fun h => h.elim id fun h => ?_⟩
    subst h
    rw [c]
    exact List.mem_take_iff_getElem.2 ⟨k0 + j, by omega, rfl⟩
   ·rw [if_neg c]
    refine ⟨List.pairwise_append.2 ⟨a1, List.pairwise_singleton _ _, fun y hy z hz => ?_⟩, fun y => ?_, fun y hy => ?_⟩
    ·simp only [List.mem_singleton] at hz
     subst hz
     have := a3 y hy; omega
    ·rw [et, List.mem_append, List.mem_append, a2]
    ·rcases List.mem_append.1 hy with h | h
     ·have := a3 y h; omega
     ·simp only [List.mem_singleton] at h; omega
theorem e_Compact_l0 (L : List Int) (N : Nat) (hN : L.length = N) (hN2 : N < 4611686018427387904) (hs : L.Pairwise (· ≤ ·)) (d l : Nat) (X : List Int → Stk) (hd : ∀ a, ¬ d = (X a).length)
 (hget : ∀ a, sget (X a) d l = some (.arr 1 (es cInt a))) (hput : ∀ a b, sput (X a) d l (.arr 1 (es cInt b)) = X b) : ∀ (m k : Nat), k + m = N → 1 ≤ k → (L.take k).Pairwise (· < ·) →
 ∃ R A ex e, Run T b84l0 [(0, .asl d l 1 N 0 N), (3, i64 k)] ([] :: X L) = some (ex, e, [] :: X A) ∧ (ex = .ret ∧ e = [(2, .asl d l 1 N 0 R.length)] ∨ ex = .exit 0 ∧ e = [(0, .asl d l 1 N 0 N), (3, i64 N), (13, .bool false)] ∧ R.length = N) ∧
  A.length = N ∧ A.take R.length = R ∧ R.Pairwise (· < ·) ∧ ∀ y, y ∈ R ↔ y ∈ L
 | 0, k, hm, h1, hp => by
   have hk : k = N := by omega
   subst hk
   refine ⟨L, L, .exit 0, _, ?_, .inr ⟨rfl, rfl, hN⟩, hN, by simp, by rw [← hN, List.take_length] at hp; exact hp, fun y => Iff.rfl⟩
   refine loop_stop (ex := .exit 0) ?_ (by simp)
   simp (maxSteps := 1000000) (disch := first | omega | assumption | decide +kernel | (simp; done) | (simp; omega) | fail) [hd, hget, hN]
 | m + 1, k, hm, h1, hp => by
   have hk : k < L.length := by omega
   have hk1 : k - 1 < L.length := by omega
   have hkN : k < N := by omega
   have hkle : k ≤ N := by omega
   have n1 : ((k : Int) - 1).toNat = k - 1 := by omega
   have n2 : (0 : Int) ≤ (k : Int) - 1 := by omega
   have n3 : (1 : Int) ≤ (k : Int) := by omega
   have n4 : (k : Int) - 1 < N := by omega
   by_cases c : L[k] = L[k - 1]
   ·have key := compact_l1 L N hN hN2 k hkN d l X hd hget hput
    obtain ⟨i1, i2, i3⟩ := cp_inv L hs k h1 hk c hp (N - k - 1) (by omega)
    have hinv : ((List.range (N - k - 1)).foldl (cpG L k) (L.take k, [])).1.length + ((List.range (N - k - 1)).foldl (cpG L k) (L.take k, [])).2.length = k + (N - k - 1) := by
     have : ∀ j, ((List.range j).foldl (cpG L k) (L.take k, [])).1.length + ((List.range j).foldl (cpG L k) (L.take k, [])).2.length = k + j := by
      intro j
      induction j with
      | zero => simp; omega
      | succ j ih =>
        rw [List.range_succ, List.foldl_append]
        simp only [List.foldl_cons, List.foldl_nil]
        generalize (List.range j).foldl (cpG L k) (L.take k, []) = a at ih
        unfold cpG
        split <;> simp <;> omega
     exact this _
    rw [show k + (N - k - 1) + 1 = N by omega, ← hN, List.take_length, hN] at i2
    generalize (List.range (N - k - 1)).foldl (cpG L k) (L.take k, []) = q at *
    obtain ⟨R, mid⟩ := q
    simp only at key i1 i2 hinv
    have hRl : R.length < N := by omega
    have hRl2 : R.length ≤ N := by omega
    have hRl3 : ¬ N - R.length = 0 := by omega
    have hR0 : 0 < R.length := by
     refine List.length_pos_iff.2 fun h => ?_
     have := (i2 L[k]).2 (List.getElem_mem hk)
     rw [h] at this; simp at this
    obtain ⟨B, hB⟩ : ∃ B, B = R ++ (mid ++ L.drop (k + (N - k - 1))) := ⟨_, rfl⟩
    have hBl : B.length = N := by rw [hB]; simp; omega
    have hBt : B.take R.length = R := by rw [hB]; simp
    rw [← hB] at key
    have hent : es cInt (List.take R.length B) ++ (List.replicate (N - R.length) [i64 0] ++ es cInt (List.drop N B)) = es cInt (B.take R.length ++ List.replicate (N - R.length) 0) := by
     rw [List.drop_eq_nil_of_le (by omega)]
     simp [es]
    have hel : (B.take R.length ++ List.replicate (N - R.length) 0).length = N := by simp; omega
    refine ⟨R, B.take R.length ++ List.replicate (N - R.length) 0, .ret, _, ?_, .inl ⟨rfl, rfl⟩, by simp; omega, by rw [hBt]; simp, i1, i2⟩
    refine loop_stop (ex := .ret) ?_ (by simp)
    simp (maxSteps := 1000000) (disch := first | omega | assumption | decide +kernel | (simp; done) | (simp; omega) | fail) [run_drawnK, hd, hget, hput, hN, hk, hk1, hkN, hkle, n1, n2, n3, n4, c, wi, key, hBl, hRl, hRl2, hRl3, hR0, hent, hel]
   ·have hlt : L[k - 1] < L[k] := by
     have := List.pairwise_iff_getElem.1 hs (k - 1) k hk1 hk (by omega)
     omega
    have hp2 : (L.take (k + 1)).Pairwise (· < ·) := by
     rw [List.take_succ_eq_append_getElem hk]
     refine List.pairwise_append.2 ⟨hp, List.pairwise_singleton _ _, fun y hy z hz => ?_⟩
     simp only [List.mem_singleton] at hz
     subst hz
     obtain ⟨i, hi, rfl⟩ := List.mem_take_iff_getElem.1 hy
     rcases Nat.lt_or_ge i (k - 1) with h | h
     ·have := List.pairwise_iff_getElem.1 hs i (k - 1) (by omega) hk1 h
      omega
     ·have : i = k - 1 := by omega
      subst this; exact hlt
    obtain ⟨R, A, ex, e, q1, q2⟩ := e_Compact_l0 L N hN hN2 hs d l X hd hget hput m (k + 1) (by omega) (by omega) hp2
    refine ⟨R, A, ex, e, loop_next (e1 := [(0, .asl d l 1 N 0 N), (3, i64 (k + 1 : Nat))]) (s1 := [] :: X L) ?_ q1, q2⟩
    simp (maxSteps := 1000000) (disch := first | omega | assumption | decide +kernel | (simp; done) | (simp; omega) | fail) [run_drawnK, hd, hget, hN, hk, hk1, hkN, hkle, n1, n2, n3, n4, c, wi, wk k (by omega)]
theorem e_Compact (L : List Int) (N : Nat) (hN : L.length = N) (hN2 : N < 4611686018427387904) (h0 : L ≠ []) (hs : L.Pairwise (· ≤ ·)) (d l : Nat) (X : List Int → Stk) (hd : ∀ a, ¬ d = (X a).length)
 (hget : ∀ a, sget (X a) d l = some (.arr 1 (es cInt a))) (hput : ∀ a b, sput (X a) d l (.arr 1 (es cInt b)) = X b) (lab) :
 ∃ R A, den T 84 [.asl d l 1 N 0 N] lab (X L) = some (.asl d l 1 N 0 R.length, X A) ∧ A.length = N ∧ A.take R.length = R ∧ R.Pairwise (· < ·) ∧ ∀ y, y ∈ R ↔ y ∈ L := by
 by_cases c : N < 2
 ·refine ⟨L, L, ?_, hN, by simp, ?_, fun y => Iff.rfl⟩
  ·have c2 : (N : Int) < 2 := by omega
   rw [den_fn t84 _ _ _ rfl]
   simp only [b84]
   simp (maxSteps := 1000000) (disch := first | omega | assumption | decide +kernel | (simp; done) | (simp; omega) | fail) [hd, hget, c, c2, hN]
  ·match L, h0 with
   | [x], _ => exact List.pairwise_singleton _ _
   | x :: y :: r, _ => simp at hN; omega
 ·have c2 : ¬ (N : Int) < 2 := by omega
  obtain ⟨R, A, ex, e, q1, q2, q3⟩ := e_Compact_l0 L N hN hN2 hs d l X hd hget hput (N - 1) 1 (by omega) (by omega) (by
   match L, h0 with
   | x :: r, _ => exact List.pairwise_singleton _ _)
  refine ⟨R, A, ?_, q3⟩
  change Run T _ [_, (3, i64 1)] _ = _ at q1
  rw [den_fn t84 _ _ _ rfl]
  simp only [b84]
  rcases q2 with ⟨rfl, rfl⟩ | ⟨rfl, rfl, q4⟩
  ·simp (maxSteps := 1000000) (disch := first | omega | assumption | decide +kernel | (simp; done) | (simp; omega) | fail) [hd, hget, c, c2, hN, q1]
  ·simp (maxSteps := 1000000) (disch := first | omega | assumption | decide +kernel | (simp; done) | (simp; omega) | fail) [hd, hget, c, c2, hN, q1, q4]
end Go.Proofs.YtekgicoibcgecaaGreat
