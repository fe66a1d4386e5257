/-
  skies: Off, Regret.
-/
import Derived.Test.YtekgicoibcgecaaGreatEq2
import Derived.Test.YtekgicoibcgecaaGreatAb6
set_option linter.unusedSimpArgs false
set_option linter.unusedVariables false
namespace Go.Proofs.YtekgicoibcgecaaGreat
open Go.Ab
def firstMay (n : Season) : Nat → List Int → Option Nat
 | _, [] => none
 | k, x :: c => if mayS n k x.toNat = true then some k else firstMay n (k + 1) c
def season0 (n : Season) : List V := [i64 n.net.wind.lo, i64 n.net.wind.hi, i64 n.net.cur.lo, i64 n.net.cur.hi, .sl .no 2 (es cSp n.net.grips), .sl .no 2 (es cAnc n.net.anch), .sl .no 5 (es cWal n.net.walls), i64 n.sea.weight.lo, i64 n.sea.weight.hi, .sl .no 2 (es cSp n.sea.places), .sl .no 2 (es cBoat n.sea.boats), .sl .no 4 (es cSky n.skies), .sl .no 1 (es cInts n.follows), .sl .no 1 (es cInt n.first), .sl .no 2 (es cSp n.days)]
def offEnv (d : Nat) : Env := [(2, .ptr d 32 0), (3, .ptr d 48 0), (4, .ptr d 64 0), (6, .ptr d 96 0), (24, .fn 77 [.ptr d 192 0] [])]
def offF (n : Season) (d : Nat) (x : LoopState) (p : Option Ex) (a : (Int × Int) × Bool) : Ab.Loc := [(16, .cell (season0 n)), (32, .cell [i64 0, i64 0]), (48, .cell [i64 (if a.2 then 3 else 0)]), (192, .cell (seasonCell n)), (64, .cell [.ptr d 192 0]), (96, .cell [i64 a.1.1, i64 a.1.2]), (6407, .loop [25] b25l1 b25l2 (offEnv d) x p)]
def offY (n : Season) (a : (Int × Int) × Bool) (c : List Int) : ((Int × Int) × Bool) × Bool := match firstMay n 0 c with
 | some k => (((min a.1.1 k, max a.1.2 k), a.2), true)
 | none => ((a.1, true), false)
theorem off_body (n : Season) (hok : seasonOk n = true) (c : List Int) (hc : ∀ x : Int, x ∈ c → 0 ≤ x ∧ x < (n.skies.length : Int)) (hcl : c.length = n.days.length) (d : Nat) (X : (Int × Int) × Bool → Stk) (hd : ∀ a, d < (X a).length)
 (h64 : ∀ a, sget (X a) d 64 = some (.cell [.ptr d 192 0])) (hsea : ∀ a, sget (X a) d 192 = some (.cell (seasonCell n))) (h96 : ∀ a, sget (X a) d 96 = some (.cell [i64 a.1.1, i64 a.1.2]))
 (h32 : ∀ a, sget (X a) d 32 = some (.cell [i64 0, i64 0])) (h48 : ∀ a, sget (X a) d 48 = some (.cell [i64 (if a.2 then 3 else 0)]))
 (p96 : ∀ a lo hi, sput (X a) d 96 (.cell [i64 lo, i64 hi]) = X ((lo, hi), a.2)) (p32 : ∀ a, sput (X a) d 32 (.cell [i64 0, i64 0]) = X a) (p48 : ∀ a, sput (X a) d 48 (.cell [i64 3]) = X (a.1, true)) (a) :
 ∃ e, Run T b25l2 [(2, .ptr d 32 0), (3, .ptr d 48 0), (4, .ptr d 64 0), (6, .ptr d 96 0), (7, .sl .no 1 (es cInt c))] ([] :: X a) = some (if (offY n a c).2 = true then .normal else .ret, e, [] :: X (offY n a c).1) := by
 obtain ⟨_, _, q3, q4, q5, _, q7, _, _⟩ := seasonOk_iff.1 hok
 have hd' : ∀ a, ¬ d = (X a).length := fun a => by have := hd a; omega
 have key := loop_list (T := T) (live := [2, 3, 4, 6, 26, 27, 28]) (keep := [16, 32, 48, 64, 96, 192]) (b := d25l0) c (fun k (j : Nat) => j = k)
  (fun k _ => [(2, .ptr d 32 0), (3, .ptr d 48 0), (4, .ptr d 64 0), (6, .ptr d 96 0), (26, .sl .no 1 (es cInt c)), (27, i64 c.length), (28, i64 k)]) (fun _ _ => [] :: X a)
  (fun j x => if mayS n j x.toNat = true then .inr (.exit 1, [(2, .ptr d 32 0), (3, .ptr d 48 0), (6, .ptr d 96 0)], [] :: X ((min a.1.1 j, max a.1.2 j), a.2)) else .inl (j + 1))
  (fun _ => (.exit 2, [(2, .ptr d 32 0), (3, .ptr d 48 0), (4, .ptr d 64 0), (6, .ptr d 96 0), (26, .sl .no 1 (es cInt c)), (27, i64 c.length), (28, i64 c.length), (29, .bool false)], [] :: X a))
  ?_ (fun k j j' hk hj h => by split at h <;> simp_all) (fun k j q hk hj h => by split at h <;> simp_all; rw [← h]; simp) ?_ (by simp) 0 rfl
  [(2, .ptr d 32 0), (3, .ptr d 48 0), (4, .ptr d 64 0), (6, .ptr d 96 0), (26, .sl .no 1 (es cInt c)), (27, i64 c.length), (28, i64 0)] ([] :: X a) (by simp [hd' a]) (by simp)
 ·have e : ∀ (l : List Int) (j : Nat), foldS (fun j (x : Int) => if mayS n j x.toNat = true then (.inr (.exit 1, [(2, .ptr d 32 0), (3, .ptr d 48 0), (6, .ptr d 96 0)], [] :: X ((min a.1.1 j, max a.1.2 j), a.2)) : Nat ⊕ (Ex × Env × Stk)) else .inl (j + 1))
   (fun _ => (.exit 2, [(2, .ptr d 32 0), (3, .ptr d 48 0), (4, .ptr d 64 0), (6, .ptr d 96 0), (26, .sl .no 1 (es cInt c)), (27, i64 c.length), (28, i64 c.length), (29, .bool false)], [] :: X a)) l j =
   match firstMay n j l with
   | some k => (.exit 1, [(2, .ptr d 32 0), (3, .ptr d 48 0), (6, .ptr d 96 0)], [] :: X ((min a.1.1 k, max a.1.2 k), a.2))
   | none => (.exit 2, [(2, .ptr d 32 0), (3, .ptr d 48 0), (4, .ptr d 64 0), (6, .ptr d 96 0), (26, .sl .no 1 (es cInt c)), (27, i64 c.length), (28, i64 c.length), (29, .bool false)], [] :: X a) := by
   intro l
   induction l with
   | nil => intro j; rfl
   | cons x l ih =>
     intro j
     simp only [foldS, firstMay]
     by_cases h : mayS n j x.toNat = true
     ·simp only [h, if_true]
     ·simp only [h, if_false, ih]; rfl
  rw [e] at key
  change Run T b25l0 _ _ = _ at key
  simp only [b25l2]
  cases h : firstMay n 0 c with
  | some k =>
    simp only [h] at key
    have e1 : offY n a c = (((min a.1.1 k, max a.1.2 k), a.2), true) := by simp only [offY, h]
    rw [e1]
    refine ⟨[(2, .ptr d 32 0), (3, .ptr d 48 0), (6, .ptr d 96 0)], ?_⟩
    simp (disch := first | omega | assumption | decide +kernel | (simp; done) | (simp; omega) | fail) [hd', key]
  | none =>
    simp only [h] at key
    have e1 : offY n a c = ((a.1, true), false) := by simp only [offY, h]
    rw [e1]
    refine ⟨[(2, .ptr d 32 0), (3, .ptr d 48 0)], ?_⟩
    simp (disch := first | omega | assumption | decide +kernel | (simp; done) | (simp; omega) | fail) [hd', key, h32, h48, p32, p48]
 ·intro k j hk hj
  subst hj
  obtain ⟨h0, h1⟩ := hc c[j] (List.getElem_mem hk)
  have hsk : ((c[j].toNat : Nat) : Int) = c[j] := by omega
  have hm := fun lab => e_may n j c[j].toNat (by omega) (by omega) d 192 ([] :: X a) (by have := hd a; simp; omega) (by rw [sget_cons, if_neg (hd' a), hsea a]) lab
  rw [hsk] at hm
  cases c0 : mayS n j c[j].toNat
  ·simp (disch := first | omega | assumption | decide +kernel | (simp; done) | (simp; omega) | fail) [hk, hd', h64, hm, c0, wk j (by omega)]
  ·simp (disch := first | omega | assumption | decide +kernel | (simp; done) | (simp; omega) | fail) [hk, hd', h64, h96, p96, hm, c0]
 ·intro j hj
  simp [hd' a]
def offSt (n : Season) (S0 : Stk) (a : (Int × Int) × Bool) : Stk := offF n S0.length (if a.2 then .done else .ready) (if a.2 then some .ret else none) a :: S0
theorem off_yield (n : Season) (hok : seasonOk n = true) (S0 : Stk) :
 Yield13 n ((Int × Int) × Bool) (fun a => a.2 = false) S0.length 6407 S0.length 192 (S0.length + 1) (offSt n S0) (offY n) where
 len := fun a => by simp [offSt]
 lt := by omega
 ltd := by omega
 sea := fun a => by rw [offSt, sget_top]; rfl
 keep := fun a c ha hb => by
  simp only [offY] at hb ⊢
  cases h : firstMay n 0 c <;> simp_all
 yield := fun fr a c lab ha hc hcl => by
  have top : ∀ (x : LoopState) p a l', sget (fr ++ offF n S0.length x p a :: S0) S0.length l' = (offF n S0.length x p a).get l' := fun x p a l' => by
   rw [sget_append _ _ _ _ (by simp), sget_top]
  have put : ∀ (x : LoopState) p a l' en, sput (fr ++ offF n S0.length x p a :: S0) S0.length l' en = fr ++ (offF n S0.length x p a).put l' en :: S0 := fun x p a l' en => by
   rw [sput_append _ _ _ _ _ (by simp), sput_top]
  have hlen : ∀ (x : LoopState) p a, S0.length < (fr ++ offF n S0.length x p a :: S0).length := fun x p a => by simp; omega
  obtain ⟨o, b⟩ := a
  simp only at ha
  subst ha
  obtain ⟨e, hB⟩ := off_body n hok c hc hcl S0.length (fun a => fr ++ offF n S0.length .busy none a :: S0) (fun a => hlen _ _ _) (fun a => by rw [top]; rfl) (fun a => by rw [top]; rfl) (fun a => by rw [top]; rfl) (fun a => by rw [top]; rfl) (fun a => by rw [top]; rfl)
   (fun a lo hi => by rw [put]; rfl) (fun a => by rw [put]; rfl) (fun a => by rw [put]; rfl) (o, false)
  change denV T _ _ lab (fr ++ offF n S0.length .ready none (o, false) :: S0) = _
  refine (yld_run (ps := [25]) (A := b25l1) (B := b25l2) (env := offEnv S0.length) (ex := if (offY n (o, false) c).2 = true then .normal else .ret) (st := .busy) (p := none) (s3 := fr ++ offF n S0.length .busy none (offY n (o, false) c).1 :: S0) (by rw [top]; rfl) rfl
   (e1 := [(2, .ptr S0.length 32 0), (3, .ptr S0.length 48 0), (4, .ptr S0.length 64 0), (6, .ptr S0.length 96 0), (7, .sl .no 1 (es cInt c))]) (fr1 := []) ?_ (hlen _ _ _) (e2 := e) (fr2 := []) ?_ (by rw [top]; rfl)).trans ?_
  ·simp [b25l1, offEnv, bindEnv]
  ·rw [put]; exact hB
  ·rw [put]
   cases h : firstMay n 0 c with
   | some k =>
     have e1 : offY n (o, false) c = (((min o.1 k, max o.2 k), false), true) := by simp only [offY, h]
     rw [e1]; rfl
   | none =>
     have e1 : offY n (o, false) c = ((o, true), false) := by simp only [offY, h]
     rw [e1]; rfl
def offQ (n : Season) : ((Int × Int) × Bool) × Bool := foldB (offY n) (coursesFrom n n.days.length [] n.first) (((n.days.length : Int), -1), false)
def offR (n : Season) : (Int × Int) × Int := if seasonOk n = true then (if (offQ n).2 = true then ((offQ n).1.1, 0) else ((0, 0), 3)) else ((0, 0), 130)
theorem offQ_keep (n : Season) : ∀ (l : List (List Int)) (a : (Int × Int) × Bool), a.2 = false → (foldB (offY n) l a).1.2 = !(foldB (offY n) l a).2
 | [], a, h => by simp [foldB, h]
 | c :: l, a, h => by
   cases h1 : firstMay n 0 c with
   | some k =>
     have e : offY n a c = (((min a.1.1 k, max a.1.2 k), a.2), true) := by simp only [offY, h1]
     simp only [foldB, e, if_true]
     exact offQ_keep n l _ h
   | none =>
     have e : offY n a c = ((a.1, true), false) := by simp only [offY, h1]
     simp [foldB, e]
set_option maxHeartbeats 1000000 in
theorem e_Off (n0 : Int) (n1 : Int) (n2 : Int) (n3 : Int) (n4 : List Sp) (n5 : List Anc) (n6 : List Wal) (n7 : Int) (n8 : Int) (n9 : List Sp) (n10 : List Boat) (n11 : List Sky) (n12 : List (List Int)) (n13 : List Int) (n14 : List Sp) (hs : Short (⟨⟨⟨n0, n1⟩, ⟨n2, n3⟩, n4, n5, n6⟩, ⟨⟨n7, n8⟩, n9, n10⟩, n11, n12, n13, n14⟩ : Season)) (lab s) : den T 25 [.agg [i64 n0, i64 n1, i64 n2, i64 n3, .sl .no 2 (es cSp n4), .sl .no 2 (es cAnc n5), .sl .no 5 (es cWal n6), i64 n7, i64 n8, .sl .no 2 (es cSp n9), .sl .no 2 (es cBoat n10), .sl .no 4 (es cSky n11), .sl .no 1 (es cInts n12), .sl .no 1 (es cInt n13), .sl .no 2 (es cSp n14)]] lab s = some (.tup [.agg [i64 (offR (⟨⟨⟨n0, n1⟩, ⟨n2, n3⟩, n4, n5, n6⟩, ⟨⟨n7, n8⟩, n9, n10⟩, n11, n12, n13, n14⟩ : Season)).1.1, i64 (offR (⟨⟨⟨n0, n1⟩, ⟨n2, n3⟩, n4, n5, n6⟩, ⟨⟨n7, n8⟩, n9, n10⟩, n11, n12, n13, n14⟩ : Season)).1.2], i64 (offR (⟨⟨⟨n0, n1⟩, ⟨n2, n3⟩, n4, n5, n6⟩, ⟨⟨n7, n8⟩, n9, n10⟩, n11, n12, n13, n14⟩ : Season)).2], s) := by
 rw [den_fn t25 _ _ _ rfl]
 simp only [b25]
 cases c0 : seasonOk (⟨⟨⟨n0, n1⟩, ⟨n2, n3⟩, n4, n5, n6⟩, ⟨⟨n7, n8⟩, n9, n10⟩, n11, n12, n13, n14⟩ : Season)
 ·have ho := fun b lab loc s => e_open13_bad n0 n1 n2 n3 n4 n5 n6 n7 n8 n9 n10 n11 n12 n13 n14 hs c0 b lab loc s
  simp (disch := first | omega | assumption | decide +kernel | (simp; done) | (simp; omega) | fail) [c0, ho, offR]
 ·have hp := fun lab loc s k0 => e_open13 n0 n1 n2 n3 n4 n5 n6 n7 n8 n9 n10 n11 n12 n13 n14 hs c0 lab loc s k0
  have h := fun lab => e_courses13 (⟨⟨⟨n0, n1⟩, ⟨n2, n3⟩, n4, n5, n6⟩, ⟨⟨n7, n8⟩, n9, n10⟩, n11, n12, n13, n14⟩ : Season) c0 hs.each hs.first (off_yield (⟨⟨⟨n0, n1⟩, ⟨n2, n3⟩, n4, n5, n6⟩, ⟨⟨n7, n8⟩, n9, n10⟩, n11, n12, n13, n14⟩ : Season) c0 s) (((n14.length : Int), -1), false) rfl lab
  have hk := offQ_keep (⟨⟨⟨n0, n1⟩, ⟨n2, n3⟩, n4, n5, n6⟩, ⟨⟨n7, n8⟩, n9, n10⟩, n11, n12, n13, n14⟩ : Season) (coursesFrom (⟨⟨⟨n0, n1⟩, ⟨n2, n3⟩, n4, n5, n6⟩, ⟨⟨n7, n8⟩, n9, n10⟩, n11, n12, n13, n14⟩ : Season) n14.length [] n13) (((n14.length : Int), -1), false) rfl
  have hr : offR (⟨⟨⟨n0, n1⟩, ⟨n2, n3⟩, n4, n5, n6⟩, ⟨⟨n7, n8⟩, n9, n10⟩, n11, n12, n13, n14⟩ : Season) = if (offQ (⟨⟨⟨n0, n1⟩, ⟨n2, n3⟩, n4, n5, n6⟩, ⟨⟨n7, n8⟩, n9, n10⟩, n11, n12, n13, n14⟩ : Season)).2 = true then ((offQ (⟨⟨⟨n0, n1⟩, ⟨n2, n3⟩, n4, n5, n6⟩, ⟨⟨n7, n8⟩, n9, n10⟩, n11, n12, n13, n14⟩ : Season)).1.1, 0) else ((0, 0), 3) := by rw [offR, if_pos c0]
  rw [hr]
  change (offQ (⟨⟨⟨n0, n1⟩, ⟨n2, n3⟩, n4, n5, n6⟩, ⟨⟨n7, n8⟩, n9, n10⟩, n11, n12, n13, n14⟩ : Season)).1.2 = !(offQ (⟨⟨⟨n0, n1⟩, ⟨n2, n3⟩, n4, n5, n6⟩, ⟨⟨n7, n8⟩, n9, n10⟩, n11, n12, n13, n14⟩ : Season)).2 at hk
  change ∀ lab, den T _ _ lab _ = some (_, offSt _ s (offQ (⟨⟨⟨n0, n1⟩, ⟨n2, n3⟩, n4, n5, n6⟩, ⟨⟨n7, n8⟩, n9, n10⟩, n11, n12, n13, n14⟩ : Season)).1) at h
  generalize offQ (⟨⟨⟨n0, n1⟩, ⟨n2, n3⟩, n4, n5, n6⟩, ⟨⟨n7, n8⟩, n9, n10⟩, n11, n12, n13, n14⟩ : Season) = q at h hk
  obtain ⟨⟨⟨lo, hi⟩, b1⟩, b2⟩ := q
  simp only at hk
  subst hk
  simp only [offSt, offF, offEnv, season0, Bool.false_eq_true, if_false] at h
  cases b2
  ·simp (maxSteps := 1000000) (disch := first | omega | assumption | decide +kernel | (simp; done) | (simp; omega) | fail) [run_drawnK, hp, h]
  ·simp (maxSteps := 1000000) (disch := first | omega | assumption | decide +kernel | (simp; done) | (simp; omega) | fail) [run_drawnK, hp, h]
end Go.Proofs.YtekgicoibcgecaaGreat

/-
  skies: brings, Regret.
-/
namespace Go.Proofs.YtekgicoibcgecaaGreat
open Go.Ab
theorem days_ok {n : Season} (h : seasonOk n = true) {k : Nat} (hk : k < n.days.length) : 0 ≤ n.days[k].lo ∧ n.days[k].lo ≤ n.days[k].hi ∧ n.days[k].hi ≤ 2000 := by
 have h9 := (seasonOk_iff.1 h).2.2.2.2.2.2.2.2
 have := allB_iff.1 h9 _ (List.getElem_mem hk)
 simp only [spanOk, Bool.and_eq_true, within_iff] at this
 omega
def firstLift (n : Season) : Nat → List Int → Option Nat
 | _, [] => none
 | k, x :: c => if liftS n k x = true then some k else firstLift n (k + 1) c
def bringsS (n : Season) (c : List Int) : Int := match firstLift n 0 c with
 | some k => dayLo n k
 | none => 0
theorem firstLift_lt (n : Season) : ∀ (l : List Int) (k j : Nat), firstLift n k l = some j → k ≤ j ∧ j < k + l.length
 | [], _, _, h => by cases h
 | x :: l, k, j, h => by
   simp only [firstLift] at h
   split at h
   ·cases h; simp
   ·have := firstLift_lt n l (k + 1) j h; simp only [List.length_cons]; omega
theorem brings_ok {n : Season} (hok : seasonOk n = true) {c : List Int} (hcl : c.length ≤ n.days.length) : 0 ≤ bringsS n c ∧ bringsS n c ≤ 2000 := by
 unfold bringsS
 split
 ·rename_i k h
  have := (firstLift_lt n c 0 k h).2
  have h1 := days_ok hok (k := k) (by omega)
  have e : dayLo n k = n.days[k].lo := by simp [dayLo, show k < n.days.length by omega]
  omega
 ·omega
theorem e_brings13 (n : Season) (hok : seasonOk n = true) (hlen : ∀ l ∈ n.follows, l.length < 4611686018427387904) (c : List Int) (hc : ∀ x : Int, x ∈ c → 0 ≤ x ∧ x < (n.skies.length : Int)) (hcl : c.length ≤ n.days.length) (d l : Nat) (S : Stk) (hd : d < S.length) (h : sget S d l = some (.cell (seasonCell n))) (lab) :
 den T 75 [.ptr d l 0, .sl .no 1 (es cInt c)] lab S = some (i64 (bringsS n c), S) := by
 obtain ⟨_, _, q3, q4, q5, _, q7, _, _⟩ := seasonOk_iff.1 hok
 have hd' : ¬ d = S.length := by omega
 have key := loop_list (T := T) (live := [0, 7, 8, 9]) (keep := []) (b := d75l0) c (fun k (j : Nat) => j = k)
  (fun k _ => [(0, .ptr d l 0), (7, .sl .no 1 (es cInt c)), (8, i64 c.length), (9, i64 k)]) (fun _ _ => [] :: S)
  (fun j x => if liftS n j x = true then .inr (.ret, [(4, i64 (dayLo n j))], [] :: S) else .inl (j + 1))
  (fun _ => (.exit 0, [(0, .ptr d l 0), (7, .sl .no 1 (es cInt c)), (8, i64 c.length), (9, i64 c.length), (10, .bool false)], [] :: S))
  ?_ (fun k j j' hk hj h => by split at h <;> simp_all) (fun k j q hk hj h => by split at h <;> simp_all; rw [← h]; simp) ?_ (by simp) 0 rfl
  [(0, .ptr d l 0), (7, .sl .no 1 (es cInt c)), (8, i64 c.length), (9, i64 0)] ([] :: S) (by simp [hd']) (by simp)
 ·have e : ∀ (l' : List Int) (j : Nat), foldS (fun j (x : Int) => if liftS n j x = true then (.inr (.ret, [(4, i64 (dayLo n j))], [] :: S) : Nat ⊕ (Ex × Env × Stk)) else .inl (j + 1))
   (fun _ => (.exit 0, [(0, .ptr d l 0), (7, .sl .no 1 (es cInt c)), (8, i64 c.length), (9, i64 c.length), (10, .bool false)], [] :: S)) l' j =
   match firstLift n j l' with
   | some k => (.ret, [(4, i64 (dayLo n k))], [] :: S)
   | none => (.exit 0, [(0, .ptr d l 0), (7, .sl .no 1 (es cInt c)), (8, i64 c.length), (9, i64 c.length), (10, .bool false)], [] :: S) := by
   intro l'
   induction l' with
   | nil => intro j; rfl
   | cons x l' ih =>
     intro j
     simp only [foldS, firstLift]
     by_cases h : liftS n j x = true
     ·simp only [h, if_true]
     ·simp only [h, if_false, ih]; rfl
  rw [e] at key
  change Run T b75l0 _ _ = _ at key
  rw [den_fn t75 _ _ _ rfl]
  simp only [b75]
  cases h2 : firstLift n 0 c with
  | some k =>
    simp only [h2] at key
    have e1 : bringsS n c = dayLo n k := by simp only [bringsS, h2]
    rw [e1]
    simp (disch := first | omega | assumption | decide +kernel | (simp; done) | (simp; omega) | fail) [hd', key]
  | none =>
    simp only [h2] at key
    have e1 : bringsS n c = 0 := by simp only [bringsS, h2]
    rw [e1]
    simp (disch := first | omega | assumption | decide +kernel | (simp; done) | (simp; omega) | fail) [hd', key]
 ·intro k j hk hj
  subst hj
  obtain ⟨h0, h1⟩ := hc c[j] (List.getElem_mem hk)
  have hj : j < n.days.length := by omega
  have hlo : dayLo n j = n.days[j].lo := by simp [dayLo, hj]
  have hm := fun lab => e_lift13 n hok hlen j hj c[j] h0 h1 d l ([] :: S) (by simp; omega) (by rw [sget_cons, if_neg hd', h]) lab
  cases c0 : liftS n j c[j]
  ·simp (disch := first | omega | assumption | decide +kernel | (simp; done) | (simp; omega) | fail) [hk, hd', h, hm, c0, wk j (by omega)]
  ·simp (disch := first | omega | assumption | decide +kernel | (simp; done) | (simp; omega) | fail) [hk, hd', h, hm, c0, hlo, hj, seasonCell]
 ·intro j hj
  simp [hd']
def regretL (n : Season) (b : Int) : Nat → Int → List Int → Int
 | _, a, [] => a
 | k, a, x :: c => regretL n b (k + 1) (if mayS n k x.toNat = true then max a (dayLo n k - b) else a) c
def regretY (n : Season) (a : Int) (c : List Int) : Int := regretL n (bringsS n c) 0 a c
def regEnv (d : Nat) : Env := [(1, .ptr d 16 0), (4, .ptr d 64 0), (6, .ptr d 96 0), (20, .fn 77 [.ptr d 208 0] [])]
def regF (n : Season) (d : Nat) (x : LoopState) (a : Int) : Ab.Loc := [(16, .cell (season0 n)), (208, .cell (seasonCell n)), (64, .cell [.ptr d 208 0]), (96, .cell [i64 a]), (6919, .loop [21] b27l1 b27l2 (regEnv d) x none)]
theorem regret_body (n : Season) (hok : seasonOk n = true) (hlen : ∀ l ∈ n.follows, l.length < 4611686018427387904) (c : List Int) (hc : ∀ x : Int, x ∈ c → 0 ≤ x ∧ x < (n.skies.length : Int)) (hcl : c.length = n.days.length) (d : Nat) (X : Int → Stk) (hd : ∀ a, d < (X a).length)
 (h16 : ∀ a, sget (X a) d 16 = some (.cell (season0 n))) (h64 : ∀ a, sget (X a) d 64 = some (.cell [.ptr d 208 0])) (hsea : ∀ a, sget (X a) d 208 = some (.cell (seasonCell n))) (h96 : ∀ a, sget (X a) d 96 = some (.cell [i64 a]))
 (p96 : ∀ a m, sput (X a) d 96 (.cell [i64 m]) = X m) (a : Int) :
 ∃ e, Run T b27l2 [(1, .ptr d 16 0), (4, .ptr d 64 0), (6, .ptr d 96 0), (7, .sl .no 1 (es cInt c))] ([] :: X a) = some (.normal, e, [] :: X (regretY n a c)) := by
 obtain ⟨_, _, q3, q4, q5, _, q7, _, _⟩ := seasonOk_iff.1 hok
 have hd' : ∀ a, ¬ d = (X a).length := fun a => by have := hd a; omega
 have hb := fun lab => e_brings13 n hok hlen c hc (by omega) d 208 ([] :: X a) (by have := hd a; simp; omega) (by rw [sget_cons, if_neg (hd' a), hsea a]) lab
 obtain ⟨hb0, hb1⟩ := brings_ok hok (c := c) (by omega)
 unfold regretY
 generalize bringsS n c = b at hb hb0 hb1
 have key := loop_fold (T := T) (live := [1, 4, 6, 8, 25, 26, 27]) (keep := [16, 64, 96, 208, 384]) (b := d27l0) c (fun k (a : Nat × Int) => a.1 = k) (fun a x => (a.1 + 1, if mayS n a.1 x.toNat = true then max a.2 (dayLo n a.1 - b) else a.2))
  (fun k _ => [(1, .ptr d 16 0), (4, .ptr d 64 0), (6, .ptr d 96 0), (8, i64 b), (25, .sl .no 1 (es cInt c)), (26, i64 c.length), (27, i64 k)]) (fun _ a => [] :: X a.2)
  (fun a => (.exit 2, [(1, .ptr d 16 0), (4, .ptr d 64 0), (6, .ptr d 96 0), (8, i64 b), (25, .sl .no 1 (es cInt c)), (26, i64 c.length), (27, i64 c.length), (28, .bool false)], [] :: X a.2))
  (by simp) ?_ (fun k a hk hi => by simp only at hi ⊢; rw [hi]) ?_ (0, a) rfl [(1, .ptr d 16 0), (4, .ptr d 64 0), (6, .ptr d 96 0), (8, i64 b), (25, .sl .no 1 (es cInt c)), (26, i64 c.length), (27, i64 0)] ([] :: X a) (by simp [hd' a]) (by simp)
 ·have e : ∀ (l : List Int) (j : Nat) (a : Int), (l.foldl (fun (a : Nat × Int) (x : Int) => (a.1 + 1, if mayS n a.1 x.toNat = true then max a.2 (dayLo n a.1 - b) else a.2)) (j, a)).2 = regretL n b j a l := by
   intro l
   induction l with
   | nil => intro j a; rfl
   | cons x l ih => intro j a; simp only [List.foldl_cons, regretL, ih]
  simp only [e] at key
  change Run T b27l0 _ _ = _ at key
  simp only [b27l2]
  refine ⟨[(1, .ptr d 16 0), (4, .ptr d 64 0), (6, .ptr d 96 0), (8, i64 b), (25, .sl .no 1 (es cInt c)), (26, i64 c.length), (27, i64 c.length), (28, .bool false)], ?_⟩
  simp (disch := first | omega | assumption | decide +kernel | (simp; done) | (simp; omega) | fail) [hd', h64, hb, key]
 ·intro k a hk hi
  obtain ⟨j, a⟩ := a
  simp only at hi
  subst hi
  obtain ⟨h0, h1⟩ := hc c[j] (List.getElem_mem hk)
  have hj : j < n.days.length := by omega
  have hlo : dayLo n j = n.days[j].lo := by simp [dayLo, hj]
  have hdo := days_ok hok hj
  have hsk : ((c[j].toNat : Nat) : Int) = c[j] := by omega
  have hm := fun lab => e_may n j c[j].toNat (by omega) (by omega) d 208 ([] :: X a) (by have := hd a; simp; omega) (by rw [sget_cons, if_neg (hd' a), hsea a]) lab
  rw [hsk] at hm
  cases c0 : mayS n j c[j].toNat
  ·simp (disch := first | omega | assumption | decide +kernel | (simp; done) | (simp; omega) | fail) [hk, hd', h64, hm, c0, wk j (by omega)]
  ·simp (maxSteps := 1000000) (disch := first | omega | assumption | decide +kernel | (simp; done) | (simp; omega) | fail) [run_drawnK, hk, hd', h64, h96, h16, season0, p96, hm, c0, hlo, hj, wi, wk j (by omega)]
 ·intro a hi
  simp [hd' a.2]
def regSt (n : Season) (S0 : Stk) (a : Int) : Stk := regF n S0.length .ready a :: S0
theorem regret_yield (n : Season) (hok : seasonOk n = true) (hlen : ∀ l ∈ n.follows, l.length < 4611686018427387904) (S0 : Stk) :
 Yield13 n Int (fun _ => True) S0.length 6919 S0.length 208 (S0.length + 1) (regSt n S0) (fun a c => (regretY n a c, true)) where
 len := fun a => by simp [regSt]
 lt := by omega
 ltd := by omega
 sea := fun a => by rw [regSt, sget_top]; rfl
 keep := fun a c ha hb => trivial
 yield := fun fr a c lab ha hc hcl => by
  have top : ∀ (x : LoopState) a l', sget (fr ++ regF n S0.length x a :: S0) S0.length l' = (regF n S0.length x a).get l' := fun x a l' => by
   rw [sget_append _ _ _ _ (by simp), sget_top]
  have put : ∀ (x : LoopState) a l' en, sput (fr ++ regF n S0.length x a :: S0) S0.length l' en = fr ++ (regF n S0.length x a).put l' en :: S0 := fun x a l' en => by
   rw [sput_append _ _ _ _ _ (by simp), sput_top]
  have hl : ∀ (x : LoopState) a, S0.length < (fr ++ regF n S0.length x a :: S0).length := fun x a => by simp; omega
  obtain ⟨e, hB⟩ := regret_body n hok hlen c hc hcl S0.length (fun a => fr ++ regF n S0.length .busy a :: S0) (fun a => hl _ _) (fun a => by rw [top]; rfl) (fun a => by rw [top]; rfl) (fun a => by rw [top]; rfl) (fun a => by rw [top]; rfl)
   (fun a m => by rw [put]; rfl) a
  change denV T _ _ lab (fr ++ regF n S0.length .ready a :: S0) = _
  refine (yld_run (ps := [21]) (A := b27l1) (B := b27l2) (env := regEnv S0.length) (ex := .normal) (st := .busy) (p := none) (s3 := fr ++ regF n S0.length .busy (regretY n a c) :: S0) (by rw [top]; rfl) rfl
   (e1 := [(1, .ptr S0.length 16 0), (4, .ptr S0.length 64 0), (6, .ptr S0.length 96 0), (7, .sl .no 1 (es cInt c))]) (fr1 := []) ?_ (hl _ _) (e2 := e) (fr2 := []) ?_ (by rw [top]; rfl)).trans ?_
  ·simp [b27l1, regEnv, bindEnv]
  ·rw [put]; exact hB
  ·rw [put]; rfl
def regretS (n : Season) : Int := (coursesFrom n n.days.length [] n.first).foldl (regretY n) 0
def regretR (n : Season) : Int × Int := if seasonOk n = true then (regretS n, 0) else (0, 130)
set_option maxHeartbeats 1000000 in
theorem e_Regret (n0 : Int) (n1 : Int) (n2 : Int) (n3 : Int) (n4 : List Sp) (n5 : List Anc) (n6 : List Wal) (n7 : Int) (n8 : Int) (n9 : List Sp) (n10 : List Boat) (n11 : List Sky) (n12 : List (List Int)) (n13 : List Int) (n14 : List Sp) (hs : Short (⟨⟨⟨n0, n1⟩, ⟨n2, n3⟩, n4, n5, n6⟩, ⟨⟨n7, n8⟩, n9, n10⟩, n11, n12, n13, n14⟩ : Season)) (lab s) : den T 27 [.agg [i64 n0, i64 n1, i64 n2, i64 n3, .sl .no 2 (es cSp n4), .sl .no 2 (es cAnc n5), .sl .no 5 (es cWal n6), i64 n7, i64 n8, .sl .no 2 (es cSp n9), .sl .no 2 (es cBoat n10), .sl .no 4 (es cSky n11), .sl .no 1 (es cInts n12), .sl .no 1 (es cInt n13), .sl .no 2 (es cSp n14)]] lab s = some (.tup [i64 (regretR (⟨⟨⟨n0, n1⟩, ⟨n2, n3⟩, n4, n5, n6⟩, ⟨⟨n7, n8⟩, n9, n10⟩, n11, n12, n13, n14⟩ : Season)).1, i64 (regretR (⟨⟨⟨n0, n1⟩, ⟨n2, n3⟩, n4, n5, n6⟩, ⟨⟨n7, n8⟩, n9, n10⟩, n11, n12, n13, n14⟩ : Season)).2], s) := by
 rw [den_fn t27 _ _ _ rfl]
 simp only [b27]
 cases c0 : seasonOk (⟨⟨⟨n0, n1⟩, ⟨n2, n3⟩, n4, n5, n6⟩, ⟨⟨n7, n8⟩, n9, n10⟩, n11, n12, n13, n14⟩ : Season)
 ·have ho := fun b lab loc s => e_open13_bad n0 n1 n2 n3 n4 n5 n6 n7 n8 n9 n10 n11 n12 n13 n14 hs c0 b lab loc s
  simp (disch := first | omega | assumption | decide +kernel | (simp; done) | (simp; omega) | fail) [c0, ho, regretR]
 ·have hp := fun lab loc s k0 => e_open13 n0 n1 n2 n3 n4 n5 n6 n7 n8 n9 n10 n11 n12 n13 n14 hs c0 lab loc s k0
  have h := fun lab => e_courses13 (⟨⟨⟨n0, n1⟩, ⟨n2, n3⟩, n4, n5, n6⟩, ⟨⟨n7, n8⟩, n9, n10⟩, n11, n12, n13, n14⟩ : Season) c0 hs.each hs.first (regret_yield (⟨⟨⟨n0, n1⟩, ⟨n2, n3⟩, n4, n5, n6⟩, ⟨⟨n7, n8⟩, n9, n10⟩, n11, n12, n13, n14⟩ : Season) c0 hs.each s) 0 trivial lab
  have hr : regretR (⟨⟨⟨n0, n1⟩, ⟨n2, n3⟩, n4, n5, n6⟩, ⟨⟨n7, n8⟩, n9, n10⟩, n11, n12, n13, n14⟩ : Season) = (regretS (⟨⟨⟨n0, n1⟩, ⟨n2, n3⟩, n4, n5, n6⟩, ⟨⟨n7, n8⟩, n9, n10⟩, n11, n12, n13, n14⟩ : Season), 0) := by rw [regretR, if_pos c0]
  rw [hr]
  rw [foldB_true] at h
  change ∀ lab, den T _ _ lab _ = some (_, regSt _ s (regretS (⟨⟨⟨n0, n1⟩, ⟨n2, n3⟩, n4, n5, n6⟩, ⟨⟨n7, n8⟩, n9, n10⟩, n11, n12, n13, n14⟩ : Season))) at h
  generalize regretS (⟨⟨⟨n0, n1⟩, ⟨n2, n3⟩, n4, n5, n6⟩, ⟨⟨n7, n8⟩, n9, n10⟩, n11, n12, n13, n14⟩ : Season) = q at h
  simp only [regSt, regF, regEnv, season0] at h
  simp (maxSteps := 1000000) (disch := first | omega | assumption | decide +kernel | (simp; done) | (simp; omega) | fail) [run_drawnK, hp, h]
end Go.Proofs.YtekgicoibcgecaaGreat

/-
  law13: span, worth, best, isKnown, may, Example, works.
-/
namespace Go.Proofs.YtekgicoibcgecaaGreat
open Go.Ab
@[simp] theorem e_span13 (a b : Int) (lab s) : den T 49 [i64 a, i64 b] lab s = some (.agg [i64 a, i64 b], s) := by
 rw [den_fn t49 _ _ _ rfl]
 simp only [b49]
 simp (disch := first | omega | assumption | decide +kernel | (simp; done) | (simp; omega) | fail) []
def exSea : Sea := ⟨⟨100, 120⟩, [⟨2, 6⟩, ⟨3, 5⟩, ⟨4, 6⟩], [⟨50, 4⟩, ⟨60, 7⟩, ⟨45, 2⟩, ⟨70, 9⟩]⟩
theorem e_Example05 (lab s) : den T 93 [] lab s = some (.tup [.agg [i64 100, i64 120, .sl .no 2 (es cSp exSea.places), .sl .no 2 (es cBoat exSea.boats)], .agg [i64 100, i64 120, .sl .no 2 (es cSp exSea.places), .sl .no 2 (es cBoat [⟨50, 4⟩, ⟨45, 2⟩])]], s) := by
 have h := fun lab loc s k0 k1 => e_Copy05 100 120 exSea.places exSea.boats (by decide) (by decide) lab loc s k0 k1
 simp only [exSea, es, List.map, cSp, cBoat] at h
 rw [den_fn t93 _ _ _ rfl]
 simp only [b93]
 simp (maxSteps := 1000000) (disch := first | omega | assumption | decide +kernel | (simp; done) | (simp; omega) | fail) [run_drawnK, h, exSea, es, cSp, cBoat, elemsOk]
end Go.Proofs.YtekgicoibcgecaaGreat

/-
  law13: Example, works.
-/
namespace Go.Proofs.YtekgicoibcgecaaGreat
open Go.Ab
def exSeason : Season := ⟨⟨⟨2, 4⟩, ⟨1, 3⟩, [⟨2, 3⟩, ⟨1, 4⟩], [⟨6, 0⟩, ⟨5, 1⟩, ⟨4, 0⟩], [⟨2, 1, 3, 8, 9⟩, ⟨1, 2, 2, 6, 6⟩]⟩, exSea, [⟨⟨0, 1⟩, ⟨0, 0⟩⟩, ⟨⟨2, 4⟩, ⟨1, 3⟩⟩], [[0, 1], [0]], [0, 1], [⟨60, 80⟩, ⟨90, 120⟩, ⟨100, 121⟩]⟩
theorem e_Example13 (lab s) : den T 48 [] lab s = some (.agg (season0 exSeason), s) := by
 have h := fun lab s => e_Example05 lab s
 simp only [exSea, es, List.map, cSp, cBoat] at h
 rw [den_fn t48 _ _ _ rfl]
 simp only [b48]
 simp (maxSteps := 1000000) (disch := first | omega | assumption | decide +kernel | (simp; done) | (simp; omega) | fail) [run_drawnK, h, exSeason, season0, exSea, es, cSp, cBoat, cAnc, cWal, cSky, cInts, cInt, elemsOk]
theorem exShort : Short exSeason := ⟨by decide, by decide, by decide, by decide, by decide, by decide, by decide, by decide⟩
theorem x_Calm (lab s) : den T 13 [.agg (season0 exSeason), i64 1] lab s = some (.tup [i64 3, i64 0], s) := by
 have h := e_Calm exSeason.net.wind.lo exSeason.net.wind.hi exSeason.net.cur.lo exSeason.net.cur.hi exSeason.net.grips exSeason.net.anch exSeason.net.walls exSeason.sea.weight.lo exSeason.sea.weight.hi exSeason.sea.places exSeason.sea.boats exSeason.skies exSeason.follows exSeason.first exSeason.days exShort 1 lab s
 have hv : calmR exSeason 1 = (3, 0) := by decide +kernel
 change _ = some (V.tup [i64 (calmR exSeason 1).1, i64 (calmR exSeason 1).2], s) at h
 rw [hv] at h
 exact h
theorem x_Holds (lab s) : den T 15 [.agg (season0 exSeason), i64 1] lab s = some (.tup [.bool true, i64 0], s) := by
 have h := e_Holds exSeason.net.wind.lo exSeason.net.wind.hi exSeason.net.cur.lo exSeason.net.cur.hi exSeason.net.grips exSeason.net.anch exSeason.net.walls exSeason.sea.weight.lo exSeason.sea.weight.hi exSeason.sea.places exSeason.sea.boats exSeason.skies exSeason.follows exSeason.first exSeason.days exShort 1 lab s
 have hv : holdsR exSeason 1 = (true, 0) := by decide +kernel
 change _ = some (V.tup [.bool (holdsR exSeason 1).1, i64 (holdsR exSeason 1).2], s) at h
 rw [hv] at h
 exact h
theorem x_Worth (lab s) : den T 33 [.agg (season0 exSeason), i64 0, i64 1] lab s = some (.tup [i64 90, i64 0], s) := by
 have h := e_Worth exSeason.net.wind.lo exSeason.net.wind.hi exSeason.net.cur.lo exSeason.net.cur.hi exSeason.net.grips exSeason.net.anch exSeason.net.walls exSeason.sea.weight.lo exSeason.sea.weight.hi exSeason.sea.places exSeason.sea.boats exSeason.skies exSeason.follows exSeason.first exSeason.days exShort 0 1 lab s
 have hv : worthR exSeason 0 1 = (90, 0) := by decide +kernel
 change _ = some (V.tup [i64 (worthR exSeason 0 1).1, i64 (worthR exSeason 0 1).2], s) at h
 rw [hv] at h
 exact h
theorem x_Best (lab s) : den T 35 [.agg (season0 exSeason)] lab s = some (.tup [i64 60, i64 0], s) := by
 have h := e_Best exSeason.net.wind.lo exSeason.net.wind.hi exSeason.net.cur.lo exSeason.net.cur.hi exSeason.net.grips exSeason.net.anch exSeason.net.walls exSeason.sea.weight.lo exSeason.sea.weight.hi exSeason.sea.places exSeason.sea.boats exSeason.skies exSeason.follows exSeason.first exSeason.days exShort  lab s
 have hv : bestR exSeason  = (60, 0) := by decide +kernel
 change _ = some (V.tup [i64 (bestR exSeason ).1, i64 (bestR exSeason ).2], s) at h
 rw [hv] at h
 exact h
theorem x_Off (lab s) : den T 25 [.agg (season0 exSeason)] lab s = some (.tup [.agg [i64 0, i64 1], i64 0], s) := by
 have h := e_Off exSeason.net.wind.lo exSeason.net.wind.hi exSeason.net.cur.lo exSeason.net.cur.hi exSeason.net.grips exSeason.net.anch exSeason.net.walls exSeason.sea.weight.lo exSeason.sea.weight.hi exSeason.sea.places exSeason.sea.boats exSeason.skies exSeason.follows exSeason.first exSeason.days exShort  lab s
 have hv : offR (⟨⟨⟨exSeason.net.wind.lo, exSeason.net.wind.hi⟩, ⟨exSeason.net.cur.lo, exSeason.net.cur.hi⟩, exSeason.net.grips, exSeason.net.anch, exSeason.net.walls⟩, ⟨⟨exSeason.sea.weight.lo, exSeason.sea.weight.hi⟩, exSeason.sea.places, exSeason.sea.boats⟩, exSeason.skies, exSeason.follows, exSeason.first, exSeason.days⟩ : Season) = ((0, 1), 0) := by decide +kernel
 rw [hv] at h
 exact h
theorem x_Regret (lab s) : den T 27 [.agg (season0 exSeason)] lab s = some (.tup [i64 30, i64 0], s) := by
 have h := e_Regret exSeason.net.wind.lo exSeason.net.wind.hi exSeason.net.cur.lo exSeason.net.cur.hi exSeason.net.grips exSeason.net.anch exSeason.net.walls exSeason.sea.weight.lo exSeason.sea.weight.hi exSeason.sea.places exSeason.sea.boats exSeason.skies exSeason.follows exSeason.first exSeason.days exShort  lab s
 have hv : regretR exSeason  = (30, 0) := by decide +kernel
 change _ = some (V.tup [i64 (regretR exSeason ).1, i64 (regretR exSeason ).2], s) at h
 rw [hv] at h
 exact h
theorem e_works (lab s) : den T 9 [] lab s = some (.bool true, s) := by
 have h1 := x_Calm
 have h2 := x_Holds
 have h3 := x_Worth
 have h4 := x_Best
 have h5 := x_Off
 have h6 := x_Regret
 have h0 := e_Example13
 simp only [season0] at h0 h1 h2 h3 h4 h5 h6
 rw [den_fn t9 _ _ _ rfl]
 simp only [b9]
 simp (maxSteps := 1000000) (disch := first | omega | assumption | decide +kernel | (simp; done) | (simp; omega) | fail) [run_drawnK, h0, h1, h2, h3, h4, h5, h6]
end Go.Proofs.YtekgicoibcgecaaGreat

/-
  SkiesStep.
-/
namespace Go.Proofs.YtekgicoibcgecaaGreat
open Go.Ab
theorem leastL_ge (f : Int → Int) : ∀ (l : List Int) (a : Int), (∀ x ∈ l, 0 ≤ f x) → 0 ≤ a → 0 ≤ l.foldl (fun a x => min a (f x)) a
 | [], a, _, h => h
 | x :: l, a, hl, h => by
   simp only [List.foldl_cons]
   exact leastL_ge f l _ (fun y hy => hl y (by simp [hy])) (by have := hl x (by simp); omega)
theorem leastL_le0 (f : Int → Int) : ∀ (l : List Int) (a : Int), l.foldl (fun a x => min a (f x)) a ≤ a
 | [], a => by simp
 | x :: l, a => by
   simp only [List.foldl_cons]
   have := leastL_le0 f l (min a (f x))
   omega
theorem worthS_range {n : Season} (hok : seasonOk n = true) : ∀ (r : Nat) (sky : Int), r ≤ n.days.length → 0 ≤ sky → sky < (n.skies.length : Int) → 0 ≤ worthS n r sky ∧ worthS n r sky ≤ 2000
 | 0, _, _, _, _ => by simp [worthS]
 | r + 1, sky, hr, h0, h1 => by
   obtain ⟨hk2, _, hf⟩ := follows_ok hok (k := sky.toNat) (by omega)
   have hfo : n.follows.getD sky.toNat [] = n.follows[sky.toNat] := by simp [List.getD, hk2]
   have a1 := leastL_ge (worthS n r) n.follows[sky.toNat] 2000 (fun x hx => (worthS_range hok r x (by omega) (hf x hx).1 (hf x hx).2).1) (by omega)
   have a2 := leastL_le0 (worthS n r) n.follows[sky.toNat] 2000
   have hd := days_ok hok (k := n.days.length - (r + 1)) (by omega)
   have hlo : dayLo n (n.days.length - (r + 1)) = n.days[n.days.length - (r + 1)].lo := by simp [dayLo, show n.days.length - (r + 1) < n.days.length by omega]
   simp only [worthS, hfo, hlo, leastL]
   split <;> omega
end Go.Proofs.YtekgicoibcgecaaGreat

/-
  What the arguments read as.
-/
namespace Go.Proofs.YtekgicoibcgecaaGreat
open Go.Ab
set_option maxRecDepth 100000
theorem cells23 : Tryz.prog.cellsOf 23 = 2 := by kernel_rfl
theorem cells97 : Tryz.prog.cellsOf 97 = 2 := by kernel_rfl
theorem cells112 : Tryz.prog.cellsOf 112 = 5 := by kernel_rfl
theorem cells123 : Tryz.prog.cellsOf 123 = 2 := by kernel_rfl
theorem cells74 : Tryz.prog.cellsOf 74 = 4 := by kernel_rfl
theorem cells34 : Tryz.prog.cellsOf 34 = 1 := by kernel_rfl
theorem cells3 : Tryz.prog.cellsOf 3 = 1 := by kernel_rfl
variable {B : TypeId → Nat → Prop} {n : Nat} {vs : List V}
theorem fit_int (h : Fit Tryz.prog B (n + 1) 3 vs) : ∃ x, vs = [i64 x] := by
 simp only [Fit, Tryz.underlying3] at h
 exact h
theorem fit_sp (h : Fit Tryz.prog B (n + 2) 23 vs) : ∃ x : Sp, vs = cSp x := by
 simp only [Fit, FitF, Tryz.underlying23, Tryz.underlying3] at h
 obtain ⟨_, _, rfl, ⟨x, rfl⟩, _, _, rfl, ⟨y, rfl⟩, rfl⟩ := h
 exact ⟨⟨x, y⟩, rfl⟩
theorem fit_anc (h : Fit Tryz.prog B (n + 2) 97 vs) : ∃ x : Anc, vs = cAnc x := by
 simp only [Fit, FitF, Tryz.underlying97, Tryz.underlying3] at h
 obtain ⟨_, _, rfl, ⟨x, rfl⟩, _, _, rfl, ⟨y, rfl⟩, rfl⟩ := h
 exact ⟨⟨x, y⟩, rfl⟩
theorem fit_boat (h : Fit Tryz.prog B (n + 2) 123 vs) : ∃ x : Boat, vs = cBoat x := by
 simp only [Fit, FitF, Tryz.underlying123, Tryz.underlying3] at h
 obtain ⟨_, _, rfl, ⟨x, rfl⟩, _, _, rfl, ⟨y, rfl⟩, rfl⟩ := h
 exact ⟨⟨x, y⟩, rfl⟩
theorem fit_wal (h : Fit Tryz.prog B (n + 2) 112 vs) : ∃ x : Wal, vs = cWal x := by
 simp only [Fit, FitF, Tryz.underlying112, Tryz.underlying3] at h
 obtain ⟨_, _, rfl, ⟨x, rfl⟩, _, _, rfl, ⟨y, rfl⟩, _, _, rfl, ⟨z, rfl⟩, _, _, rfl, ⟨u, rfl⟩, _, _, rfl, ⟨v, rfl⟩, rfl⟩ := h
 exact ⟨⟨x, y, z, u, v⟩, rfl⟩
theorem fit_sky (h : Fit Tryz.prog B (n + 3) 74 vs) : ∃ x : Sky, vs = cSky x := by
 rw [Fit, Tryz.underlying74] at h
 simp only [FitF] at h
 obtain ⟨_, _, rfl, h1, _, _, rfl, h2, rfl⟩ := h
 obtain ⟨x, rfl⟩ := fit_sp h1
 obtain ⟨y, rfl⟩ := fit_sp h2
 exact ⟨⟨x, y⟩, rfl⟩
theorem es_all {α : Type} {f : α → List V} (l : List (List V)) (h : ∀ x ∈ l, ∃ y, x = f y) : ∃ l' : List α, l = es f l' := by
 obtain ⟨l', h1, _⟩ := es_of (Q := fun _ => True) l fun x hx => by obtain ⟨y, hy⟩ := h x hx; exact ⟨y, hy, trivial⟩
 exact ⟨l', h1⟩
theorem fit_ints (h : Fit Tryz.prog B (n + 2) 34 vs) : ∃ l : List Int, vs = [.sl .no 1 (es cInt l)] ∧ B 3 l.length := by
 rw [Fit, Tryz.underlying34] at h
 simp only at h
 obtain ⟨l, rfl, hb, h⟩ := h
 obtain ⟨l', rfl⟩ := es_all (f := cInt) l fun x hx => by obtain ⟨y, hy⟩ := fit_int (h x hx); exact ⟨y, hy⟩
 rw [cells3]
 exact ⟨l', rfl, by simpa using hb⟩
theorem fit_sps (h : Fit Tryz.prog B (n + 3) 24 vs) : ∃ l : List Sp, vs = [.sl .no 2 (es cSp l)] ∧ B 23 l.length := by
 rw [Fit, Tryz.underlying24] at h
 simp only at h
 obtain ⟨l, rfl, hb, h⟩ := h
 obtain ⟨l', rfl⟩ := es_all (f := cSp) l fun x hx => fit_sp (h x hx)
 rw [cells23]
 exact ⟨l', rfl, by simpa using hb⟩
theorem fit_ancs (h : Fit Tryz.prog B (n + 3) 25 vs) : ∃ l : List Anc, vs = [.sl .no 2 (es cAnc l)] ∧ B 97 l.length := by
 rw [Fit, Tryz.underlying25] at h
 simp only at h
 obtain ⟨l, rfl, hb, h⟩ := h
 obtain ⟨l', rfl⟩ := es_all (f := cAnc) l fun x hx => fit_anc (h x hx)
 rw [cells97]
 exact ⟨l', rfl, by simpa using hb⟩
theorem fit_wals (h : Fit Tryz.prog B (n + 3) 26 vs) : ∃ l : List Wal, vs = [.sl .no 5 (es cWal l)] ∧ B 112 l.length := by
 rw [Fit, Tryz.underlying26] at h
 simp only at h
 obtain ⟨l, rfl, hb, h⟩ := h
 obtain ⟨l', rfl⟩ := es_all (f := cWal) l fun x hx => fit_wal (h x hx)
 rw [cells112]
 exact ⟨l', rfl, by simpa using hb⟩
theorem fit_boats (h : Fit Tryz.prog B (n + 3) 29 vs) : ∃ l : List Boat, vs = [.sl .no 2 (es cBoat l)] ∧ B 123 l.length := by
 rw [Fit, Tryz.underlying29] at h
 simp only at h
 obtain ⟨l, rfl, hb, h⟩ := h
 obtain ⟨l', rfl⟩ := es_all (f := cBoat) l fun x hx => fit_boat (h x hx)
 rw [cells123]
 exact ⟨l', rfl, by simpa using hb⟩
theorem fit_skys (h : Fit Tryz.prog B (n + 4) 32 vs) : ∃ l : List Sky, vs = [.sl .no 4 (es cSky l)] ∧ B 74 l.length := by
 rw [Fit, Tryz.underlying32] at h
 simp only at h
 obtain ⟨l, rfl, hb, h⟩ := h
 obtain ⟨l', rfl⟩ := es_all (f := cSky) l fun x hx => fit_sky (h x hx)
 rw [cells74]
 exact ⟨l', rfl, by simpa using hb⟩
theorem fit_intss (h : Fit Tryz.prog B (n + 3) 33 vs) : ∃ l : List (List Int), vs = [.sl .no 1 (es cInts l)] ∧ B 34 l.length ∧ ∀ x ∈ l, B 3 x.length := by
 rw [Fit, Tryz.underlying33] at h
 simp only at h
 obtain ⟨l, rfl, hb, h⟩ := h
 obtain ⟨l', rfl, hl⟩ := es_of (f := cInts) (Q := fun x => B 3 x.length) l fun x hx => fit_ints (h x hx)
 rw [cells34]
 exact ⟨l', rfl, by simpa using hb, hl⟩
structure Held (B : TypeId → Nat → Prop) (n : Season) : Prop where
 grips : B 23 n.net.grips.length
 anch : B 97 n.net.anch.length
 walls : B 112 n.net.walls.length
 places : B 23 n.sea.places.length
 boats : B 123 n.sea.boats.length
 skies : B 74 n.skies.length
 follows : B 34 n.follows.length
 first : B 3 n.first.length
 days : B 23 n.days.length
 each : ∀ l ∈ n.follows, B 3 l.length
theorem fit_season (h : Fit Tryz.prog B (n + 6) 36 vs) : ∃ m : Season, vs = season0 m ∧ Held B m := by
 rw [Fit, Tryz.underlying36] at h
 simp only [FitF] at h
 obtain ⟨_, _, rfl, hnet, _, _, rfl, hsea, _, _, rfl, h1, _, _, rfl, h2, _, _, rfl, h3, _, _, rfl, h4, rfl⟩ := h
 rw [Fit, Tryz.underlying28] at hnet
 simp only [FitF] at hnet
 obtain ⟨_, _, rfl, k1, _, _, rfl, k2, _, _, rfl, k3, _, _, rfl, k4, _, _, rfl, k5, rfl⟩ := hnet
 rw [Fit, Tryz.underlying31] at hsea
 simp only [FitF] at hsea
 obtain ⟨_, _, rfl, j1, _, _, rfl, j2, _, _, rfl, j3, rfl⟩ := hsea
 obtain ⟨x1, rfl⟩ := fit_sp k1
 obtain ⟨x2, rfl⟩ := fit_sp k2
 obtain ⟨x3, rfl, b3⟩ := fit_sps k3
 obtain ⟨x4, rfl, b4⟩ := fit_ancs k4
 obtain ⟨x5, rfl, b5⟩ := fit_wals k5
 obtain ⟨y1, rfl⟩ := fit_sp j1
 obtain ⟨y2, rfl, c2⟩ := fit_sps j2
 obtain ⟨y3, rfl, c3⟩ := fit_boats j3
 obtain ⟨z1, rfl, d1⟩ := fit_skys h1
 obtain ⟨z2, rfl, d2, d2'⟩ := fit_intss h2
 obtain ⟨z3, rfl, d3⟩ := fit_ints h3
 obtain ⟨z4, rfl, d4⟩ := fit_sps h4
 exact ⟨⟨⟨x1, x2, x3, x4, x5⟩, ⟨y1, y2, y3⟩, z1, z2, z3, z4⟩, rfl, ⟨b3, b4, b5, c2, c3, d1, d2, d3, d4, d2'⟩⟩
def Reach (e : TypeId) (k : Nat) : Prop := k ≤ maxLen ∧ k * Tryz.prog.bytesOf e ≤ reachBytes
theorem bytes23 : Tryz.prog.bytesOf 23 = 16 := by kernel_rfl
theorem bytes97 : Tryz.prog.bytesOf 97 = 16 := by kernel_rfl
theorem bytes112 : Tryz.prog.bytesOf 112 = 40 := by kernel_rfl
theorem bytes123 : Tryz.prog.bytesOf 123 = 16 := by kernel_rfl
theorem bytes74 : Tryz.prog.bytesOf 74 = 32 := by kernel_rfl
theorem bytes34 : Tryz.prog.bytesOf 34 = 24 := by kernel_rfl
theorem bytes3 : Tryz.prog.bytesOf 3 = 8 := by kernel_rfl
end Go.Proofs.YtekgicoibcgecaaGreat

/-
  SkiesPut.
-/
namespace Go.Proofs.YtekgicoibcgecaaGreat
open Go.Ab
def inB (l : List Int) (x : Int) : Bool := anyB (fun y => decide (y = x)) l
theorem inB_iff {l : List Int} {x : Int} : inB l x = true ↔ x ∈ l := by
 simp only [inB, anyB, List.any_eq_true, decide_eq_true_eq]
 exact ⟨fun ⟨y, h1, h2⟩ => h2 ▸ h1, fun h => ⟨x, h, rfl⟩⟩
end Go.Proofs.YtekgicoibcgecaaGreat

/-
  Copies of seasons; all worths; worse.
-/
namespace Go.Proofs.YtekgicoibcgecaaGreat
open Go.Ab
structure ShortC (n : Season) : Prop where
 grips : n.net.grips.length < 8796093022208
 anch : n.net.anch.length < 8796093022208
 walls : n.net.walls.length < 3518437208884
 places : n.sea.places.length < 8796093022208
 boats : n.sea.boats.length < 8796093022208
 skies : n.skies.length < 4398046511104
 follows : n.follows.length < 5864062014805
 first : n.first.length < 17592186044416
 days : n.days.length < 8796093022207
 each : ∀ l ∈ n.follows, l.length < 17592186044416
theorem ShortC.short {n : Season} (h : ShortC n) : Short n := by
 obtain ⟨h1, h2, h3, h4, h5, h6, h7, h8, h9, h10⟩ := h
 exact ⟨by omega, by omega, by omega, by omega, by omega, by omega, by omega, fun l hl => by have := h10 l hl; omega⟩
theorem filter_tt {α : Type} (l : List α) : l.filter (fun _ => true) = l := by simp
@[simp] theorem es_ints1 (l : List (List Int)) (x : List Int) : es cInts l ++ [[.sl .no 1 (es cInt x)]] = es cInts (l ++ [x]) := by simp [es]
@[simp] theorem map_cInts (r : Ren) (h : r.c .no = .no) (l) : (es cInts l).map (V.mapAll r) = es cInts l := es_map _ _ (fun _ => by simp [h]) _
@[simp] theorem map_cInts_d (d keep l) : (es cInts l).map (V.mapAll (dropR d keep)) = es cInts l := map_cInts _ rfl l
@[simp] theorem map_cInts_f (d k z e l) : (es cInts l).map (V.mapAll (frzR d k z e)) = es cInts l := map_cInts _ rfl l
@[simp] theorem map_cInts_r (own d loc ls d' lab l) : (es cInts l).map (V.mapAll (renR own d loc ls d' lab)) = es cInts l := map_cInts _ (by cases own <;> rfl) l
@[simp] theorem strip_cInts (l) : (es cInts l).map V.stripAll = es cInts l := es_strip _ (fun _ => by simp) _
@[simp] theorem refs_cInts (own : Bool) (d : Nat) (l) : (es cInts l).flatMap (V.refsAll own d) = [] := es_refs _ _ _ (fun _ => by cases own <;> simp [V.refs, Cap.refs]) _
@[simp] theorem elems_cInts (l) : elemsOk (es cInts l) 1 = true := elemsOk_es _ _ (fun _ => by simp) _
def zeroSeason : List V := [i64 0, i64 0, i64 0, i64 0, .sl .full 2 [], .sl .full 2 [], .sl .full 5 [], i64 0, i64 0, .sl .full 2 [], .sl .full 2 [], .sl .full 4 [], .sl .full 1 [], .sl .full 1 [], .sl .full 2 []]
def copyCell (n : Season) (d : Nat) (a : List (List Int)) : List V := [i64 n.net.wind.lo, i64 n.net.wind.hi, i64 n.net.cur.lo, i64 n.net.cur.hi, .asl d 112 2 n.net.grips.length 0 n.net.grips.length, .asl d 1112 2 n.net.anch.length 0 n.net.anch.length, .asl d 2112 5 n.net.walls.length 0 n.net.walls.length, i64 n.sea.weight.lo, i64 n.sea.weight.hi, .asl d 160 2 n.sea.places.length 0 n.sea.places.length, .asl d 1160 2 n.sea.boats.length 0 n.sea.boats.length,
 .asl d 224 4 n.skies.length 0 n.skies.length, .asl d 62 1 a.length 0 a.length, .asl d 288 1 n.first.length 0 n.first.length, .asl d 352 2 n.days.length 0 n.days.length]
theorem copyCell_12 (n d a) (h : 12 < (copyCell n d a).length) : (copyCell n d a)[12] = .asl d 62 1 a.length 0 a.length := rfl
theorem copyCell_12' (n d a) : (copyCell n d a)[12]? = some (.asl d 62 1 a.length 0 a.length) := rfl
theorem copyCell_len (n d a) : (copyCell n d a).length = 15 := rfl
theorem copyCell_set (n d a b) : (copyCell n d a).set 12 (.asl d 62 1 b.length 0 b.length) = copyCell n d b := rfl
def copyLoc (n : Season) (d : Nat) (a : List (List Int)) : Ab.Loc := [(16, .cell (season0 n)), (32, .cell zeroSeason), (112, .arr 2 (es cSp n.net.grips)), (1112, .arr 2 (es cAnc n.net.anch)), (2112, .arr 5 (es cWal n.net.walls)),
 (160, .arr 2 (es cSp n.sea.places)), (1160, .arr 2 (es cBoat n.sea.boats)), (224, .arr 4 (es cSky n.skies)), (288, .arr 1 (es cInt n.first)), (352, .arr 2 (es cSp n.days)),
 (48, .cell (copyCell n d a)), (62, .arr 1 (es cInts a))]
set_option maxHeartbeats 4000000 in
theorem e_Copy13_l (n0 : Int) (n1 : Int) (n2 : Int) (n3 : Int) (n4 : List Sp) (n5 : List Anc) (n6 : List Wal) (n7 : Int) (n8 : Int) (n9 : List Sp) (n10 : List Boat) (n11 : List Sky) (n12 : List (List Int)) (n13 : List Int) (n14 : List Sp) (hs : ShortC (⟨⟨⟨n0, n1⟩, ⟨n2, n3⟩, n4, n5, n6⟩, ⟨⟨n7, n8⟩, n9, n10⟩, n11, n12, n13, n14⟩ : Season)) (s : Stk) :
 Run T b10l0 [(1, .ptr s.length 16 0), (2, .ptr s.length 32 0), (3, .ptr s.length 48 0), (4, i64 0)] (copyLoc (⟨⟨⟨n0, n1⟩, ⟨n2, n3⟩, n4, n5, n6⟩, ⟨⟨n7, n8⟩, n9, n10⟩, n11, n12, n13, n14⟩ : Season) s.length [] :: s) =
  some (.exit 0, [(1, .ptr s.length 16 0), (2, .ptr s.length 32 0), (3, .ptr s.length 48 0), (4, i64 n12.length), (28, .bool false)], copyLoc (⟨⟨⟨n0, n1⟩, ⟨n2, n3⟩, n4, n5, n6⟩, ⟨⟨n7, n8⟩, n9, n10⟩, n11, n12, n13, n14⟩ : Season) s.length n12 :: s) := by
 obtain ⟨h1, h2, h3, h4, h5, h6, h7, h8, h9, h10⟩ := hs
 simp only at h1 h2 h3 h4 h5 h6 h7 h8 h9 h10
 have key := loop_fold (T := T) (live := [1, 2, 3, 4]) (keep := [16, 32, 48, 62, 112, 160, 224, 288, 352, 1112, 1160, 2112, 2160, 3112, 3160, 4112, 4160, 5112, 5160, 6112, 6160, 7112, 7160, 8112, 8160]) (b := d10l0) n12 (fun k (a : List (List Int)) => a.length = k) (fun a x => a ++ [x])
  (fun k _ => [(1, .ptr s.length 16 0), (2, .ptr s.length 32 0), (3, .ptr s.length 48 0), (4, i64 k)]) (fun _ a => copyLoc (⟨⟨⟨n0, n1⟩, ⟨n2, n3⟩, n4, n5, n6⟩, ⟨⟨n7, n8⟩, n9, n10⟩, n11, n12, n13, n14⟩ : Season) s.length a :: s)
  (fun a => (.exit 0, [(1, .ptr s.length 16 0), (2, .ptr s.length 32 0), (3, .ptr s.length 48 0), (4, i64 n12.length), (28, .bool false)], copyLoc (⟨⟨⟨n0, n1⟩, ⟨n2, n3⟩, n4, n5, n6⟩, ⟨⟨n7, n8⟩, n9, n10⟩, n11, n12, n13, n14⟩ : Season) s.length a :: s))
  (by simp) ?_ ?_ ?_ [] (by simp) [(1, .ptr s.length 16 0), (2, .ptr s.length 32 0), (3, .ptr s.length 48 0), (4, i64 0)] (copyLoc (⟨⟨⟨n0, n1⟩, ⟨n2, n3⟩, n4, n5, n6⟩, ⟨⟨n7, n8⟩, n9, n10⟩, n11, n12, n13, n14⟩ : Season) s.length [] :: s) (by simp) (by simp [copyLoc, zeroSeason, season0, copyCell])
 ·have e : ∀ (l a : List (List Int)), l.foldl (fun a x => a ++ [x]) a = a ++ l := by
   intro l
   induction l with
   | nil => simp
   | cons x r ih => intro a; simp [ih]
  rw [e, List.nil_append] at key
  exact key
 ·intro k a hk hi
  subst hi
  have hx := h10 n12[a.length] (List.getElem_mem hk)
  have hcl : Loc.ren (dropR s.length ((copyLoc (⟨⟨⟨n0, n1⟩, ⟨n2, n3⟩, n4, n5, n6⟩, ⟨⟨n7, n8⟩, n9, n10⟩, n11, n12, n13, n14⟩ : Season) s.length a).map (·.1))) (copyLoc (⟨⟨⟨n0, n1⟩, ⟨n2, n3⟩, n4, n5, n6⟩, ⟨⟨n7, n8⟩, n9, n10⟩, n11, n12, n13, n14⟩ : Season) s.length a) = copyLoc (⟨⟨⟨n0, n1⟩, ⟨n2, n3⟩, n4, n5, n6⟩, ⟨⟨n7, n8⟩, n9, n10⟩, n11, n12, n13, n14⟩ : Season) s.length a := by simp [copyLoc, zeroSeason, season0, copyCell]
  have hcl2 : ∀ m, Loc.ren (dropR s.length (((copyLoc (⟨⟨⟨n0, n1⟩, ⟨n2, n3⟩, n4, n5, n6⟩, ⟨⟨n7, n8⟩, n9, n10⟩, n11, n12, n13, n14⟩ : Season) s.length a).put 624 (.tok m)).map (·.1))) ((copyLoc (⟨⟨⟨n0, n1⟩, ⟨n2, n3⟩, n4, n5, n6⟩, ⟨⟨n7, n8⟩, n9, n10⟩, n11, n12, n13, n14⟩ : Season) s.length a).put 624 (.tok m)) = (copyLoc (⟨⟨⟨n0, n1⟩, ⟨n2, n3⟩, n4, n5, n6⟩, ⟨⟨n7, n8⟩, n9, n10⟩, n11, n12, n13, n14⟩ : Season) s.length a).put 624 (.tok m) := by intro m; simp [copyLoc, zeroSeason, season0, copyCell]
  have m16 : 16 ∈ (copyLoc (⟨⟨⟨n0, n1⟩, ⟨n2, n3⟩, n4, n5, n6⟩, ⟨⟨n7, n8⟩, n9, n10⟩, n11, n12, n13, n14⟩ : Season) s.length a).map (·.1) := by simp [copyLoc]
  have m48 : 48 ∈ (copyLoc (⟨⟨⟨n0, n1⟩, ⟨n2, n3⟩, n4, n5, n6⟩, ⟨⟨n7, n8⟩, n9, n10⟩, n11, n12, n13, n14⟩ : Season) s.length a).map (·.1) := by simp [copyLoc]
  have m62 : 62 ∈ (copyLoc (⟨⟨⟨n0, n1⟩, ⟨n2, n3⟩, n4, n5, n6⟩, ⟨⟨n7, n8⟩, n9, n10⟩, n11, n12, n13, n14⟩ : Season) s.length a).map (·.1) := by simp [copyLoc]
  have g16 : (copyLoc (⟨⟨⟨n0, n1⟩, ⟨n2, n3⟩, n4, n5, n6⟩, ⟨⟨n7, n8⟩, n9, n10⟩, n11, n12, n13, n14⟩ : Season) s.length a).get 16 = some (.cell (season0 (⟨⟨⟨n0, n1⟩, ⟨n2, n3⟩, n4, n5, n6⟩, ⟨⟨n7, n8⟩, n9, n10⟩, n11, n12, n13, n14⟩ : Season))) := rfl
  have g48 : (copyLoc (⟨⟨⟨n0, n1⟩, ⟨n2, n3⟩, n4, n5, n6⟩, ⟨⟨n7, n8⟩, n9, n10⟩, n11, n12, n13, n14⟩ : Season) s.length a).get 48 = some (.cell (copyCell (⟨⟨⟨n0, n1⟩, ⟨n2, n3⟩, n4, n5, n6⟩, ⟨⟨n7, n8⟩, n9, n10⟩, n11, n12, n13, n14⟩ : Season) s.length a)) := rfl
  have n624 : ¬ 624 ∈ (copyLoc (⟨⟨⟨n0, n1⟩, ⟨n2, n3⟩, n4, n5, n6⟩, ⟨⟨n7, n8⟩, n9, n10⟩, n11, n12, n13, n14⟩ : Season) s.length a).map (·.1) := by simp [copyLoc]
  have g62 : (copyLoc (⟨⟨⟨n0, n1⟩, ⟨n2, n3⟩, n4, n5, n6⟩, ⟨⟨n7, n8⟩, n9, n10⟩, n11, n12, n13, n14⟩ : Season) s.length a).get 62 = some (.arr 1 (es cInts a)) := rfl
  have g624 : (copyLoc (⟨⟨⟨n0, n1⟩, ⟨n2, n3⟩, n4, n5, n6⟩, ⟨⟨n7, n8⟩, n9, n10⟩, n11, n12, n13, n14⟩ : Season) s.length a).get 624 = none := rfl
  by_cases h0 : n12[a.length] = []
  ·have e0 : es cInts a ++ [[.sl .no 1 []]] = es cInts (a ++ [[]]) := es_ints1 a []
   generalize hF : copyLoc (⟨⟨⟨n0, n1⟩, ⟨n2, n3⟩, n4, n5, n6⟩, ⟨⟨n7, n8⟩, n9, n10⟩, n11, n12, n13, n14⟩ : Season) s.length a = F at *
   simp (maxSteps := 1000000) (disch := first | omega | assumption | decide +kernel | (simp; done) | (simp; omega) | fail) [run_drawnK, hk, h0, e0, appD_full_nil, appA_one, hcl, hcl2, m16, m48, m62, g16, g48, g62, g624, filter_tt, copyCell_12, copyCell_12', copyCell_len, copyCell_set, n624, season0, wk a.length (by omega)]
   subst hF
   simp [copyLoc, zeroSeason, season0, copyCell]
  ·have he : es cInt n12[a.length] ≠ [] := by simpa using h0
   generalize hF : copyLoc (⟨⟨⟨n0, n1⟩, ⟨n2, n3⟩, n4, n5, n6⟩, ⟨⟨n7, n8⟩, n9, n10⟩, n11, n12, n13, n14⟩ : Season) s.length a = F at *
   simp (maxSteps := 1000000) (disch := first | omega | assumption | decide +kernel | (simp; done) | (simp; omega) | fail) [run_drawnK, hk, appD_full, appA_one, hcl, hcl2, m16, m48, m62, g16, g48, g62, g624, filter_tt, copyCell_12, copyCell_12', copyCell_len, copyCell_set, n624, season0, wk a.length (by omega)]
   subst hF
   simp [copyLoc, zeroSeason, season0, copyCell]
 ·intro k a hk hi
  simp [hi]
 ·intro a hi
  simp [copyLoc, season0]
def copyCells (n : Season) (d lab : Nat) : List V := [i64 n.net.wind.lo, i64 n.net.wind.hi, i64 n.net.cur.lo, i64 n.net.cur.hi, .asl d lab 2 n.net.grips.length 0 n.net.grips.length, .asl d (lab + 1000) 2 n.net.anch.length 0 n.net.anch.length, .asl d (lab + 2000) 5 n.net.walls.length 0 n.net.walls.length, i64 n.sea.weight.lo, i64 n.sea.weight.hi, .asl d (lab + 3000) 2 n.sea.places.length 0 n.sea.places.length, .asl d (lab + 4000) 2 n.sea.boats.length 0 n.sea.boats.length,
 .asl d (lab + 5000) 4 n.skies.length 0 n.skies.length, .asl d (lab + 6000) 1 n.follows.length 0 n.follows.length, .asl d (lab + 7000) 1 n.first.length 0 n.first.length, .asl d (lab + 8000) 2 n.days.length 0 n.days.length]
set_option maxHeartbeats 4000000 in
theorem e_Copy13 (n0 : Int) (n1 : Int) (n2 : Int) (n3 : Int) (n4 : List Sp) (n5 : List Anc) (n6 : List Wal) (n7 : Int) (n8 : Int) (n9 : List Sp) (n10 : List Boat) (n11 : List Sky) (n12 : List (List Int)) (n13 : List Int) (n14 : List Sp) (hs : ShortC (⟨⟨⟨n0, n1⟩, ⟨n2, n3⟩, n4, n5, n6⟩, ⟨⟨n7, n8⟩, n9, n10⟩, n11, n12, n13, n14⟩ : Season)) (lab) (loc : Ab.Loc) (s : Stk) (k0 : loc.get lab = none) (k1 : loc.get (lab + 1000) = none) (k2 : loc.get (lab + 2000) = none) (k3 : loc.get (lab + 3000) = none) (k4 : loc.get (lab + 4000) = none) (k5 : loc.get (lab + 5000) = none) (k6 : loc.get (lab + 6000) = none) (k7 : loc.get (lab + 7000) = none) (k8 : loc.get (lab + 8000) = none) :
 den T 10 [.agg [i64 n0, i64 n1, i64 n2, i64 n3, .sl .no 2 (es cSp n4), .sl .no 2 (es cAnc n5), .sl .no 5 (es cWal n6), i64 n7, i64 n8, .sl .no 2 (es cSp n9), .sl .no 2 (es cBoat n10), .sl .no 4 (es cSky n11), .sl .no 1 (es cInts n12), .sl .no 1 (es cInt n13), .sl .no 2 (es cSp n14)]] lab (loc :: s) = some (.agg (copyCells (⟨⟨⟨n0, n1⟩, ⟨n2, n3⟩, n4, n5, n6⟩, ⟨⟨n7, n8⟩, n9, n10⟩, n11, n12, n13, n14⟩ : Season) s.length lab), ((((((((loc.put lab (.arr 2 (es cSp n4))).put (lab + 1000) (.arr 2 (es cAnc n5))).put (lab + 2000) (.arr 5 (es cWal n6))).put (lab + 3000) (.arr 2 (es cSp n9))).put (lab + 4000) (.arr 2 (es cBoat n10))).put (lab + 5000) (.arr 4 (es cSky n11))).put (lab + 6000) (.arr 1 (es cInts n12))).put (lab + 7000) (.arr 1 (es cInt n13))).put (lab + 8000) (.arr 2 (es cSp n14)) :: s) := by
 have key := e_Copy13_l n0 n1 n2 n3 n4 n5 n6 n7 n8 n9 n10 n11 n12 n13 n14 hs (loc :: s)
 obtain ⟨h1, h2, h3, h4, h5, h6, h7, h8, h9, h10⟩ := hs
 simp only at h1 h2 h3 h4 h5 h6 h7 h8 h9 h10
 simp only [copyLoc, copyCell, zeroSeason, season0, List.length_cons, es_nil, List.length_nil] at key
 rw [den_fn t10 _ _ _ rfl]
 simp only [b10]
 simp (maxSteps := 6000000) (disch := first | omega | assumption | decide +kernel | (simp; done) | (simp; omega) | fail) [run_drawnK, appmD_es, key, k0, k1, k2, k3, k4, k5, k6, k7, k8, copyCells]
end Go.Proofs.YtekgicoibcgecaaGreat

/-
  What the reach of the arguments says of a season's copy.
-/
namespace Go.Proofs.YtekgicoibcgecaaGreat
open Go.Ab
theorem held_shortC {m : Season} (h : Held Reach m) : ShortC m := by
 obtain ⟨h1, h2, h3, h4, h5, h6, h7, h8, h9, h10⟩ := h
 simp only [Reach, bytes23, bytes97, bytes112, bytes123, bytes74, bytes34, bytes3, reachBytes] at h1 h2 h3 h4 h5 h6 h7 h8 h9 h10
 exact ⟨by omega, by omega, by omega, by omega, by omega, by omega, by omega, by omega, by omega, fun l hl => by have := h10 l hl; omega⟩
end Go.Proofs.YtekgicoibcgecaaGreat

/-
  The document's chapter 2: truths.
-/
namespace Go.Proofs.YtekgicoibcgecaaGreat
open Go.Ab
@[simp] theorem e_Known (so all : Int) (lab s) : den T 112 [i64 so, i64 all] lab s = some (i64 (if so = 0 then 2 else if so = all then 1 else 3), s) := by
 rw [den_fn t112 _ _ _ rfl]
 simp only [b112]
 by_cases h0 : so = 0
 ·simp (disch := first | omega | assumption | decide +kernel | (simp; done) | (simp; omega) | fail) [h0]
 ·by_cases h1 : so = all
  ·subst h1; simp (disch := first | omega | assumption | decide +kernel | (simp; done) | (simp; omega) | fail) [h0]
  ·simp (disch := first | omega | assumption | decide +kernel | (simp; done) | (simp; omega) | fail) [h0, h1]
theorem e_LoadOf (x : Wal) (w c : Int) (hx : walOk x = true) (hw : 0 ≤ w ∧ w ≤ 20) (hc : 0 ≤ c ∧ c ≤ 20) (lab s) : den T 166 [.agg [i64 x.sail, i64 x.drag, i64 x.lean, i64 x.corks, i64 x.stones], i64 w, i64 c] lab s = some (i64 (x.sail * w + x.drag * c), s) := by
 simp only [walOk, Bool.and_eq_true, within_iff] at hx
 have h1 : 0 ≤ x.sail * w ∧ x.sail * w ≤ 180 := ⟨Int.mul_nonneg (by omega) (by omega), by
  have := Int.mul_le_mul (show x.sail ≤ 9 by omega) hw.2 hw.1 (by omega); omega⟩
 have h2 : 0 ≤ x.drag * c ∧ x.drag * c ≤ 180 := ⟨Int.mul_nonneg (by omega) (by omega), by
  have := Int.mul_le_mul (show x.drag ≤ 9 by omega) hc.2 hc.1 (by omega); omega⟩
 have w1 : IntKind.i64.wrap (x.sail * w) = x.sail * w := wi _ (by omega) (by omega)
 have w2 : IntKind.i64.wrap (x.drag * c) = x.drag * c := wi _ (by omega) (by omega)
 have w3 : IntKind.i64.wrap (x.sail * w + x.drag * c) = x.sail * w + x.drag * c := wi _ (by omega) (by omega)
 rw [den_fn t166 _ _ _ rfl]
 simp only [b166]
 simp (disch := first | omega | assumption | decide +kernel | (simp; done) | (simp; omega) | fail) [w1, w2, w3]
def rng (lo hi : Int) : List Int := (List.range (hi + 1 - lo).toNat).map fun k : Nat => lo + (k : Int)
theorem mem_rng {lo hi x : Int} : x ∈ rng lo hi ↔ lo ≤ x ∧ x ≤ hi := by
 simp only [rng, List.mem_map, List.mem_range]
 constructor
 ·rintro ⟨k, hk, rfl⟩; omega
 ·intro h; exact ⟨(x - lo).toNat, by omega, by omega⟩
theorem rng_len (lo hi : Int) : (rng lo hi).length = (hi + 1 - lo).toNat := by simp [rng]
theorem rng_get (lo hi : Int) (k : Nat) (hk : k < (rng lo hi).length) : (rng lo hi)[k] = lo + k := by simp [rng]
theorem es_ints_one (x : List Int) : [[V.sl .no 1 (es cInt x)]] = es cInts [x] := rfl
theorem es_int_one (x : Int) : es cInt [x] = [[i64 x]] := rfl
def gripsFrom : List Sp → List Int → List (List Int)
 | [], f => [f]
 | x :: r, f => (rng x.lo x.hi).flatMap fun g => gripsFrom r (f ++ [g])
theorem flat_le {α β : Type} (f : α → List β) (m : Nat) : ∀ l : List α, (∀ x ∈ l, (f x).length ≤ m) → (l.flatMap f).length ≤ l.length * m
 | [], _ => by simp
 | x :: l, h => by
   rw [List.flatMap_cons, List.length_append, List.length_cons, Nat.add_mul, Nat.one_mul]
   have := flat_le f m l (fun y hy => h y (by simp [hy]))
   have := h x (by simp)
   omega
theorem grips_bound (m : Int) (M : Nat) (hM : m + 1 = M) : ∀ (r : List Sp), (∀ x ∈ r, spanOk x m = true) → ∀ f, (gripsFrom r f).length ≤ M ^ r.length
 | [], _, f => by simp [gripsFrom]
 | x :: r, h, f => by
   have hx := spanOk_iff.1 (h x (by simp))
   have h1 := flat_le (fun g => gripsFrom r (f ++ [g])) (M ^ r.length) (rng x.lo x.hi) (fun g _ => grips_bound m M hM r (fun y hy => h y (by simp [hy])) (f ++ [g]))
   rw [gripsFrom, List.length_cons, Nat.pow_succ, Nat.mul_comm]
   refine Nat.le_trans h1 (Nat.mul_le_mul_right _ ?_)
   rw [rng_len]; omega
theorem fold_app2 {α β : Type} (f : α → List β) (l : List α) (a : List β) : l.foldl (fun a x => a ++ f x) a = a ++ l.flatMap f := by
 induction l generalizing a with
 | nil => simp
 | cons x l ih => rw [List.foldl_cons, ih, List.flatMap_cons, List.append_assoc]
theorem appK_many {α : Type} (f : α → List V) (esz bytes lab loc) (r : Stk) (l : Nat) (a b : List α) (c' z') (h1 : (a.length + b.length) * bytes ≤ 140737488355328) (h2 : a.length + b.length < 140737488355328) (h4 : z' = esz) (h6 : Loc.get loc l = some (.tok a.length)) :
 appK esz bytes lab (loc :: r) (.sl (.own r.length l) esz (es f a)) (.sl c' z' (es f b)) = some (.sl (.own r.length l) esz (es f (a ++ b)), loc.put l (.tok (a.length + b.length)) :: r) := by
 have := appK_own esz bytes lab loc r l (es f a) c' z' (es f b) (by simpa using h1) (by simpa using h2) (.inl h4) (by simpa using h6)
 simpa using this
set_option maxHeartbeats 4000000 in
theorem e_grips (n0 : Int) (n1 : Int) (n2 : Int) (n3 : Int) (n4 : List Sp) (n5 : List Anc) (n6 : List Wal) (hl : n4.length ≤ 3) (hg : ∀ x ∈ n4, spanOk x 9 = true) : ∀ (m : Nat) (first : List Int), first.length + m = n4.length → ∀ (lab : Nat) (s : Stk),
 den T 153 [.agg [i64 n0, i64 n1, i64 n2, i64 n3, .sl .no 2 (es cSp n4), .sl .no 2 (es cAnc n5), .sl .no 5 (es cWal n6)], .sl .no 1 (es cInt first)] lab s = some (.sl .no 1 (es cInts (gripsFrom (n4.drop first.length) first)), s) := by
 intro m
 induction m with
 | zero =>
   intro first hf lab s
   rw [List.drop_of_length_le (by omega), gripsFrom]
   have hq : (first.length : Int) = n4.length := by omega
   rw [den_fn t153 _ _ _ rfl]
   simp only [b153]
   simp (disch := first | omega | assumption | decide +kernel | (simp; done) | (simp; omega) | fail) [hq, hf, es_ints_one]
 | succ m ih =>
   intro first hf lab s
   have hk : first.length < n4.length := by omega
   have hk2 : (first.length : Int) < n4.length := by omega
   have hq : ¬ first.length = n4.length := by omega
   have hq2 : ¬ (first.length : Int) = n4.length := by omega
   have hx := spanOk_iff.1 (hg n4[first.length] (List.getElem_mem hk))
   have hlen := rng_len n4[first.length].lo n4[first.length].hi
   rw [List.drop_eq_getElem_cons hk, gripsFrom]
   have ih2 := fun (g : Int) lab s => ih (first ++ [g]) (by simp; omega) lab s
   have hdrop : ∀ g : Int, n4.drop (first ++ [g]).length = n4.drop (first.length + 1) := fun g => by simp
   simp only [hdrop] at ih2
   have hb : ∀ g : Int, (gripsFrom (n4.drop (first.length + 1)) (first ++ [g])).length ≤ 100 := fun g => by
    refine Nat.le_trans (grips_bound 9 10 rfl _ (fun x hx => hg x (List.mem_of_mem_drop hx)) _) ?_
    rw [List.length_drop]
    calc 10 ^ (n4.length - (first.length + 1)) ≤ 10 ^ 2 := Nat.pow_le_pow_right (by omega) (by omega)
     _ = 100 := rfl
   have key := loop_fold (T := T) (live := [1, 2, 5, 6, 7]) (keep := [32, 81, 96]) (b := d153l0) (rng n4[first.length].lo n4[first.length].hi) (fun k (a : List (List Int)) => a.length ≤ k * 100) (fun a g => a ++ gripsFrom (n4.drop (first.length + 1)) (first ++ [g]))
    (fun k a => [(1, .sl .no 1 (es cInt first)), (2, .ptr s.length 32 0), (5, .sl (.own s.length 81) 1 (es cInts a)), (6, .ptr s.length 96 0), (7, i64 (n4[first.length].lo + k))])
    (fun _ a => [(32, .cell [i64 n0, i64 n1, i64 n2, i64 n3, .sl .no 2 (es cSp n4), .sl .no 2 (es cAnc n5), .sl .no 5 (es cWal n6)]), (96, .cell [i64 n4[first.length].lo, i64 n4[first.length].hi]), (81, .tok a.length)] :: s)
    (fun a => (.exit 0, [(1, .sl .no 1 (es cInt first)), (2, .ptr s.length 32 0), (5, .sl (.own s.length 81) 1 (es cInts a)), (6, .ptr s.length 96 0), (7, i64 (n4[first.length].hi + 1)), (27, .bool false)], [(32, .cell [i64 n0, i64 n1, i64 n2, i64 n3, .sl .no 2 (es cSp n4), .sl .no 2 (es cAnc n5), .sl .no 5 (es cWal n6)]), (96, .cell [i64 n4[first.length].lo, i64 n4[first.length].hi]), (81, .tok a.length)] :: s))
    (by simp) ?_ ?_ ?_ [] (by simp) [(5, .sl (.own s.length 81) 1 []), (1, .sl .no 1 (es cInt first)), (2, .ptr s.length 32 0), (5, .sl .full 1 []), (6, .ptr s.length 96 0), (7, i64 n4[first.length].lo)] ([(32, .cell [i64 n0, i64 n1, i64 n2, i64 n3, .sl .no 2 (es cSp n4), .sl .no 2 (es cAnc n5), .sl .no 5 (es cWal n6)]), (96, .cell [i64 n4[first.length].lo, i64 n4[first.length].hi]), (81, .tok 0)] :: s) (by simp) (by simp)
   ·rw [fold_app2, List.nil_append] at key
    change Run T b153l0 _ _ = _ at key
    rw [den_fn t153 _ _ _ rfl]
    simp only [b153]
    simp (maxSteps := 1000000) (disch := first | omega | assumption | decide +kernel | (simp; done) | (simp; omega) | fail) [run_drawnK, hk, hk2, hq, hq2, key]
   ·intro k a hk' hi
    rw [hlen] at hk'
    have hle : n4[first.length].lo + (k : Int) ≤ n4[first.length].hi := by omega
    have hgb := hb (n4[first.length].lo + (k : Int))
    rw [rng_get]
    have ih3 := ih2 (n4[first.length].lo + (k : Int))
    have hwr : IntKind.i64.wrap (n4[first.length].lo + ((k : Int) + 1)) = n4[first.length].lo + ((k : Int) + 1) := wi _ (by omega) (by omega)
    generalize gripsFrom (n4.drop (first.length + 1)) (first ++ [n4[first.length].lo + (k : Int)]) = L at *
    generalize n4[first.length] = p at *
    have hk100 : k < 100 := by omega
    by_cases h0 : first = []
    ·subst h0
     simp only [List.nil_append, es_int_one] at ih3
     simp (maxSteps := 1000000) (disch := first | omega | assumption | decide +kernel | (simp; done) | (simp; omega) | fail) [run_drawnK, hle, ih3, hwr, appK_many, appD_full_nil, appD_full, Int.add_assoc]
    ·simp (maxSteps := 1000000) (disch := first | omega | assumption | decide +kernel | (simp; done) | (simp; omega) | fail) [run_drawnK, hle, ih3, hwr, h0, appK_many, appD_full_nil, appD_full, appD_own1, appK_own1, Int.add_assoc]
   ·intro k a hk' hi
    rw [rng_get, List.length_append]
    have := hb (n4[first.length].lo + (k : Int))
    omega
   ·intro a hi
    rw [hlen]
    have e : n4[first.length].lo + (((n4[first.length].hi + 1 - n4[first.length].lo).toNat : Nat) : Int) = n4[first.length].hi + 1 := by omega
    rw [e]
    generalize n4[first.length] = p at *
    have hle : ¬ p.hi + 1 ≤ p.hi := by omega
    simp [hle]
end Go.Proofs.YtekgicoibcgecaaGreat

/-
  The plain law of chapter 2: what is known of a net, by its worst and its best truth.
-/
namespace Go.Proofs.YtekgicoibcgecaaGreat
open Go.Ab
def fitsG : List Sp → List Int → Prop
 | [], [] => True
 | x :: r, g :: t => (x.lo ≤ g ∧ g ≤ x.hi) ∧ fitsG r t
 | _, _ => False
theorem fitsG_len : ∀ {r : List Sp} {t : List Int}, fitsG r t → t.length = r.length
 | [], [], _ => rfl
 | x :: r, g :: t, h => by simp [fitsG_len h.2]
 | [], _ :: _, h => h.elim
 | _ :: _, [], h => h.elim
theorem fitsG_get : ∀ {r : List Sp} {t : List Int}, fitsG r t → ∀ (i : Nat) (h1 : i < r.length) (h2 : i < t.length), r[i].lo ≤ t[i] ∧ t[i] ≤ r[i].hi
 | x :: r, g :: t, h, 0, _, _ => h.1
 | x :: r, g :: t, h, i + 1, h1, h2 => by
   simpa using fitsG_get h.2 i (by simpa using h1) (by simpa using h2)
 | [], _, _, i, h1, _ => by simp at h1
 | _ :: _, [], h, _, _, _ => h.elim
theorem fitsG_lo : ∀ {r : List Sp}, (∀ x ∈ r, x.lo ≤ x.hi) → fitsG r (r.map (·.lo))
 | [], _ => trivial
 | x :: r, h => ⟨⟨Int.le_refl _, h x (by simp)⟩, fitsG_lo fun y hy => h y (by simp [hy])⟩
theorem fitsG_hi : ∀ {r : List Sp}, (∀ x ∈ r, x.lo ≤ x.hi) → fitsG r (r.map (·.hi))
 | [], _ => trivial
 | x :: r, h => ⟨⟨h x (by simp), Int.le_refl _⟩, fitsG_hi fun y hy => h y (by simp [hy])⟩
theorem mem_grips : ∀ (r : List Sp) (f g : List Int), g ∈ gripsFrom r f ↔ ∃ t, g = f ++ t ∧ fitsG r t
 | [], f, g => by
   simp only [gripsFrom, List.mem_singleton]
   constructor
   ·rintro rfl; exact ⟨[], by simp, trivial⟩
   ·rintro ⟨t, rfl, h⟩
    cases t with
    | nil => simp
    | cons _ _ => exact h.elim
 | x :: r, f, g => by
   simp only [gripsFrom, List.mem_flatMap, mem_rng, mem_grips r]
   constructor
   ·rintro ⟨y, hy, t, rfl, h⟩; exact ⟨y :: t, by simp, hy, h⟩
   ·rintro ⟨t, rfl, h⟩
    cases t with
    | nil => exact h.elim
    | cons y t => exact ⟨y, h.1, t, by simp, h.2⟩
structure Tru where
 w : Int
 c : Int
 g : List Int
@[simp] def cTru (a : Tru) : List V := [i64 a.w, i64 a.c, .sl .no 1 (es cInt a.g)]
def truthsS (n : Net) : List Tru := (rng n.wind.lo n.wind.hi).flatMap fun w => (rng n.cur.lo n.cur.hi).flatMap fun c => (gripsFrom n.grips []).map fun g => ⟨w, c, g⟩
theorem mem_truths {n : Net} {t : Tru} : t ∈ truthsS n ↔ (n.wind.lo ≤ t.w ∧ t.w ≤ n.wind.hi) ∧ (n.cur.lo ≤ t.c ∧ t.c ≤ n.cur.hi) ∧ fitsG n.grips t.g := by
 simp only [truthsS, List.mem_flatMap, List.mem_map, mem_rng, mem_grips, List.nil_append]
 constructor
 ·rintro ⟨w, hw, c, hc, g, ⟨t', rfl, hg⟩, rfl⟩; exact ⟨hw, hc, hg⟩
 ·rintro ⟨hw, hc, hg⟩; exact ⟨t.w, hw, t.c, hc, t.g, ⟨t.g, rfl, hg⟩, rfl⟩
theorem sideS_mono {l : List Wal} (hl : ∀ x ∈ l, walOk x = true) {w c w' c' : Int} (hw : w ≤ w') (hc : c ≤ c') (a : Int) : sideS l w c a ≤ sideS l w' c' a := by
 unfold sideS
 split
 ·split
  ·rename_i x hx
   obtain ⟨h1, h2, _⟩ := walOk_iff.1 (hl x (List.mem_of_getElem? hx))
   have a1 := Int.mul_le_mul_of_nonneg_left hw h1.1
   have a2 := Int.mul_le_mul_of_nonneg_left hc h2.1
   unfold loadW; omega
  ·exact Int.le_refl _
 ·exact Int.le_refl _
theorem spareS_mono {n : Net} (hok : netOk n = true) {w c w' c' : Int} {g g' : List Int} (hw : w ≤ w') (hc : c ≤ c') (hg : ∀ i : Nat, g'.getD i 0 ≤ g.getD i 0) (k : Nat) : spareS n w' c' g' k ≤ spareS n w c g k := by
 obtain ⟨a1, a2, a3, a4, a5, a6, a7, a8⟩ := netOk_iff.1 hok
 rw [allB_iff] at a7 a8
 unfold spareS
 cases h : n.anch[k]? with
 | none => exact Int.le_refl _
 | some a =>
   obtain ⟨h1, h2, h3⟩ := ancOk_iff.1 (a7 a (List.mem_of_getElem? h))
   have b1 := sideS_mono a8 hw hc ((k : Int) - 1)
   have b2 := sideS_mono a8 hw hc (k : Int)
   have b3 := Int.mul_le_mul_of_nonneg_left (hg a.bottom.toNat) (show 0 ≤ 2 * a.weight by omega)
   simp only [bearsS]; omega
theorem quiet_mono {n : Net} (hok : netOk n = true) {w c w' c' : Int} {g g' : List Int} (hw : w ≤ w') (hc : c ≤ c') (hg : ∀ i : Nat, g'.getD i 0 ≤ g.getD i 0) (h : quiet n w' c' g' = true) : quiet n w c g = true := by
 simp only [quiet, allB_iff, decide_eq_true_eq] at h ⊢
 intro k hk
 have := h k hk
 have := spareS_mono hok hw hc hg k
 omega
theorem fitsG_getD {r : List Sp} {t : List Int} (h : fitsG r t) (i : Nat) : (r.map (·.lo)).getD i 0 ≤ t.getD i 0 ∧ t.getD i 0 ≤ (r.map (·.hi)).getD i 0 := by
 have hl := fitsG_len h
 by_cases hi : i < r.length
 ·have hi2 : i < t.length := by omega
  have := fitsG_get h i hi hi2
  simp only [List.getD, List.getElem?_map, List.getElem?_eq_getElem hi, List.getElem?_eq_getElem hi2, Option.map_some, Option.getD_some]
  exact this
 ·have hi2 : ¬ i < t.length := by omega
  simp only [List.getD, List.getElem?_map, List.getElem?_eq_none (Nat.not_lt.1 hi), List.getElem?_eq_none (Nat.not_lt.1 hi2), Option.map_none, Option.getD_none]
  exact ⟨Int.le_refl _, Int.le_refl _⟩
def knownI (so all : Int) : Int := if so = 0 then 2 else if so = all then 1 else 3
theorem safe_law {n : Net} (hok : netOk n = true) : knownI ((truthsS n).countP fun t => quiet n t.w t.c t.g) (truthsS n).length = safeS n := by
 obtain ⟨a1, a2, a3, a4, a5, a6, a7, a8⟩ := netOk_iff.1 hok
 have b1 := spanOk_iff.1 a1
 have b2 := spanOk_iff.1 a2
 rw [allB_iff] at a6
 have b3 : ∀ x ∈ n.grips, x.lo ≤ x.hi := fun x hx => (spanOk_iff.1 (a6 x hx)).2.1
 have mw : (⟨n.wind.hi, n.cur.hi, n.grips.map (·.lo)⟩ : Tru) ∈ truthsS n := mem_truths.2 ⟨⟨b1.2.1, Int.le_refl _⟩, ⟨b2.2.1, Int.le_refl _⟩, fitsG_lo b3⟩
 have mb : (⟨n.wind.lo, n.cur.lo, n.grips.map (·.hi)⟩ : Tru) ∈ truthsS n := mem_truths.2 ⟨⟨Int.le_refl _, b1.2.1⟩, ⟨Int.le_refl _, b2.2.1⟩, fitsG_hi b3⟩
 have e1 : quiet n n.wind.hi n.cur.hi (n.grips.map (·.lo)) = true ↔ (truthsS n).countP (fun t => quiet n t.w t.c t.g) = (truthsS n).length := by
  rw [List.countP_eq_length]
  constructor
  ·intro h t ht
   obtain ⟨h1, h2, h3⟩ := mem_truths.1 ht
   exact quiet_mono hok h1.2 h2.2 (fun i => (fitsG_getD h3 i).1) h
  ·intro h; exact h _ mw
 have e2 : quiet n n.wind.lo n.cur.lo (n.grips.map (·.hi)) = true ↔ (truthsS n).countP (fun t => quiet n t.w t.c t.g) ≠ 0 := by
  rw [Ne, List.countP_eq_zero]
  constructor
  ·intro h h2; exact h2 _ mb h
  ·intro h
   cases hq : quiet n n.wind.lo n.cur.lo (n.grips.map (·.hi))
   ·refine absurd (fun t ht hh => ?_) h
    obtain ⟨h1, h2, h3⟩ := mem_truths.1 ht
    rw [quiet_mono hok h1.1 h2.1 (fun i => (fitsG_getD h3 i).2) hh] at hq
    cases hq
   ·rfl
 have hpos : 0 < (truthsS n).length := List.length_pos_of_mem mw
 generalize (truthsS n).countP (fun t => quiet n t.w t.c t.g) = q at e1 e2
 generalize (truthsS n).length = m at e1 hpos
 simp only [knownI, safeS, hok, if_true]
 by_cases h1 : quiet n n.wind.hi n.cur.hi (n.grips.map (·.lo)) = true
 ·have := e1.1 h1
  simp only [h1, if_true]
  rw [if_neg (by omega), if_pos (by omega)]
 ·have h1' := mt e1.2 h1
  by_cases h2 : quiet n n.wind.lo n.cur.lo (n.grips.map (·.hi)) = true
  ·have := e2.1 h2
   simp only [h1, h2, if_true, Bool.false_eq_true, if_false]
   rw [if_neg (by omega), if_neg (by omega)]
  ·have h2' : ¬ q ≠ 0 := mt e2.2 h2
   simp only [h1, h2, Bool.false_eq_true, if_false]
   rw [if_pos (by omega)]
end Go.Proofs.YtekgicoibcgecaaGreat

/-
  The plain law of chapter 5: the greatest number of parts of a place, and the least need.
-/
namespace Go.Proofs.YtekgicoibcgecaaGreat
open Go.Ab
def partingsFrom : List Sp → List Int → List (List Int)
 | [], f => if f.sum = 12 then [f] else []
 | x :: r, f => (rng x.lo x.hi).flatMap fun g => partingsFrom r (f ++ [g])
theorem mem_partings : ∀ (r : List Sp) (f g : List Int), g ∈ partingsFrom r f ↔ ∃ t, g = f ++ t ∧ fitsG r t ∧ g.sum = 12
 | [], f, g => by
   simp only [partingsFrom]
   constructor
   ·intro h
    split at h
    ·rename_i hs
     simp only [List.mem_singleton] at h
     subst h; exact ⟨[], by simp, trivial, hs⟩
    ·simp at h
   ·rintro ⟨t, rfl, h, hs⟩
    cases t with
    | nil => rw [List.append_nil] at hs; rw [if_pos hs]; simp
    | cons _ _ => exact h.elim
 | x :: r, f, g => by
   simp only [partingsFrom, List.mem_flatMap, mem_rng, mem_partings r]
   constructor
   ·rintro ⟨y, hy, t, rfl, h, hs⟩; exact ⟨y :: t, by simp, ⟨hy, h⟩, hs⟩
   ·rintro ⟨t, rfl, h, hs⟩
    cases t with
    | nil => exact h.elim
    | cons y t => exact ⟨y, h.1, t, by simp, h.2, hs⟩
theorem partings_bound (m : Int) (M : Nat) (hM : m + 1 = M) : ∀ (r : List Sp), (∀ x ∈ r, spanOk x m = true) → ∀ f, (partingsFrom r f).length ≤ M ^ r.length
 | [], _, f => by simp only [partingsFrom]; split <;> simp
 | x :: r, h, f => by
   have hx := spanOk_iff.1 (h x (by simp))
   have h1 := flat_le (fun g => partingsFrom r (f ++ [g])) (M ^ r.length) (rng x.lo x.hi) (fun g _ => partings_bound m M hM r (fun y hy => h y (by simp [hy])) (f ++ [g]))
   rw [partingsFrom, List.length_cons, Nat.pow_succ, Nat.mul_comm]
   refine Nat.le_trans h1 (Nat.mul_le_mul_right _ ?_)
   rw [rng_len]; omega
theorem fits_sum : ∀ {r : List Sp} {t : List Int}, fitsG r t → lowSum r ≤ t.sum ∧ t.sum ≤ highSum r
 | [], [], _ => by simp [lowSum, highSum]
 | x :: r, g :: t, h => by
   have := fits_sum h.2
   have h1 := h.1
   simp only [lowSum, highSum, List.map_cons, List.sum_cons] at this ⊢
   omega
 | [], _ :: _, h => h.elim
 | _ :: _, [], h => h.elim
theorem fits_some : ∀ (r : List Sp) (T : Int), (∀ x ∈ r, x.lo ≤ x.hi) → lowSum r ≤ T → T ≤ highSum r → ∃ t, fitsG r t ∧ t.sum = T
 | [], T, _, h1, h2 => ⟨[], trivial, by simp only [lowSum, highSum, List.map_nil, List.sum_nil] at h1 h2 ⊢; omega⟩
 | x :: r, T, h, h1, h2 => by
   have hx := h x (by simp)
   simp only [lowSum, highSum, List.map_cons, List.sum_cons] at h1 h2
   have hr : lowSum r ≤ highSum r := by
    have := fits_sum (fitsG_lo (r := r) fun y hy => h y (by simp [hy]))
    omega
   simp only [lowSum, highSum] at hr
   obtain ⟨t, k1, k2⟩ := fits_some r (T - max x.lo (min x.hi (T - lowSum r))) (fun y hy => h y (by simp [hy])) (by simp only [lowSum]; omega) (by simp only [highSum, lowSum]; omega)
   refine ⟨max x.lo (min x.hi (T - lowSum r)) :: t, ⟨by omega, k1⟩, ?_⟩
   rw [List.sum_cons, k2]; omega
theorem fits_at : ∀ (r : List Sp) (T : Int) (i : Nat) (hi : i < r.length) (v : Int), (∀ x ∈ r, x.lo ≤ x.hi) → r[i].lo ≤ v → v ≤ r[i].hi → lowSum r - r[i].lo ≤ T - v → T - v ≤ highSum r - r[i].hi → ∃ t, fitsG r t ∧ t.sum = T ∧ t.getD i 0 = v
 | x :: r, T, 0, _, v, h, h1, h2, h3, h4 => by
   simp only [List.getElem_cons_zero] at h1 h2 h3 h4
   simp only [lowSum, highSum, List.map_cons, List.sum_cons] at h3 h4
   obtain ⟨t, k1, k2⟩ := fits_some r (T - v) (fun y hy => h y (by simp [hy])) (by simp only [lowSum]; omega) (by simp only [highSum]; omega)
   exact ⟨v :: t, ⟨⟨h1, h2⟩, k1⟩, by rw [List.sum_cons, k2]; omega, rfl⟩
 | x :: r, T, i + 1, hi, v, h, h1, h2, h3, h4 => by
   simp only [List.getElem_cons_succ] at h1 h2 h3 h4
   have hi' : i < r.length := by simpa using hi
   have hx := h x (by simp)
   simp only [lowSum, highSum, List.map_cons, List.sum_cons] at h3 h4
   have hlh : ∀ (r : List Sp) (i : Nat) (hi : i < r.length), (∀ x ∈ r, x.lo ≤ x.hi) → lowSum r - r[i].lo ≤ highSum r - r[i].hi := by
    intro r
    induction r with
    | nil => intro i hi; simp at hi
    | cons y r ih =>
      intro i hi hy
      have h0 := hy y (by simp)
      have hs := fits_sum (fitsG_lo (r := r) fun z hz => hy z (by simp [hz]))
      cases i with
      | zero => simp only [List.getElem_cons_zero, lowSum, highSum, List.map_cons, List.sum_cons] at hs ⊢; omega
      | succ i =>
        have := ih i (by simpa using hi) fun z hz => hy z (by simp [hz])
        simp only [List.getElem_cons_succ, lowSum, highSum, List.map_cons, List.sum_cons] at this ⊢; omega
   have hb := hlh r i hi' fun y hy => h y (by simp [hy])
   simp only [lowSum, highSum] at hb
   obtain ⟨t, k1, k2, k3⟩ := fits_at r (T - max x.lo (min x.hi (T - v - (lowSum r - r[i].lo)))) i hi' v (fun y hy => h y (by simp [hy])) h1 h2 (by simp only [lowSum]; omega) (by simp only [lowSum, highSum]; omega)
   refine ⟨max x.lo (min x.hi (T - v - (lowSum r - r[i].lo))) :: t, ⟨by omega, k1⟩, ?_, by simpa using k3⟩
   rw [List.sum_cons, k2]; omega
theorem fits_rest : ∀ {r : List Sp} {t : List Int}, fitsG r t → ∀ (i : Nat) (h1 : i < r.length) (h2 : i < t.length), lowSum r - r[i].lo ≤ t.sum - t[i] ∧ t.sum - t[i] ≤ highSum r - r[i].hi
 | x :: r, g :: t, h, 0, _, _ => by
   have := fits_sum h.2
   simp only [lowSum, highSum, List.map_cons, List.sum_cons, List.getElem_cons_zero] at this ⊢; omega
 | x :: r, g :: t, h, i + 1, h1, h2 => by
   have := fits_rest h.2 i (by simpa using h1) (by simpa using h2)
   have h0 := h.1
   simp only [lowSum, highSum, List.map_cons, List.sum_cons, List.getElem_cons_succ] at this ⊢; omega
 | [], _, _, i, h1, _ => by simp at h1
 | _ :: _, [], h, _, _, _ => h.elim
def partingsS (n : Sea) : List (List Int) := partingsFrom n.places []
theorem mem_partingsS {n : Sea} {t : List Int} : t ∈ partingsS n ↔ fitsG n.places t ∧ t.sum = 12 := by
 simp only [partingsS, mem_partings, List.nil_append]
 constructor
 ·rintro ⟨t', rfl, h⟩; exact h
 ·intro h; exact ⟨t, rfl, h⟩
theorem part_greatest {n : Sea} (hok : seaOk n = true) {i : Nat} (hi : i < n.places.length) :
 (∀ t ∈ partingsS n, t.getD i 0 ≤ (partS n i).hi) ∧ (∃ t ∈ partingsS n, t.getD i 0 = (partS n i).hi) := by
 obtain ⟨h1, h2, h3, h4, h5, h6, h7⟩ := seaOk_iff.1 hok
 have hp := spanOk_iff.1 (h4 _ (List.getElem_mem hi))
 have hle : ∀ x ∈ n.places, x.lo ≤ x.hi := fun x hx => (spanOk_iff.1 (h4 x hx)).2.1
 have e : (partS n i).hi = min n.places[i].hi (12 - (lowSum n.places - n.places[i].lo)) := by simp [partS, hi]
 rw [e]
 constructor
 ·intro t ht
  obtain ⟨k1, k2⟩ := mem_partingsS.1 ht
  have hl := fitsG_len k1
  have hi2 : i < t.length := by omega
  have a := fitsG_get k1 i hi hi2
  have b := fits_rest k1 i hi hi2
  have c : t.getD i 0 = t[i] := by simp [List.getD, hi2]
  rw [c]; omega
 ·obtain ⟨t, k1, k2, k3⟩ := fits_at n.places 12 i hi (min n.places[i].hi (12 - (lowSum n.places - n.places[i].lo))) hle (by omega) (by omega) (by omega) (by
   have := fits_rest (fitsG_hi hle) i hi (by simpa using hi)
   have := fits_rest (fitsG_lo hle) i hi (by simpa using hi)
   have e1 : (n.places.map (·.lo)).sum = lowSum n.places := rfl
   have e2 : (n.places.map (·.hi)).sum = highSum n.places := rfl
   simp only [List.getElem_map] at *
   omega)
  exact ⟨t, mem_partingsS.2 ⟨k1, k2⟩, k3⟩
def bestY (n : Sea) (b : List Int) (c : List Int) : List Int := if holdsS n c = true ∧ (b = [] ∨ costS n c < costS n b) then c else b
def crewS (n : Sea) : List Int := (crewsFrom n.boats.length n.places.length []).foldl (bestY n) []
theorem crewsFrom_len (nb : Nat) : ∀ (r : Nat) (c e : List Int), e ∈ crewsFrom nb r c → e.length = c.length + r ∧ ∀ x : Int, x ∈ e → x ∈ c ∨ (0 ≤ x ∧ x < (nb : Int))
 | 0, c, e, h => by
   simp only [crewsFrom, List.mem_singleton] at h
   subst h; exact ⟨rfl, fun x hx => .inl hx⟩
 | r + 1, c, e, h => by
   simp only [crewsFrom, List.mem_flatMap, List.mem_range] at h
   obtain ⟨b, hb, h⟩ := h
   split at h
   ·simp at h
   ·obtain ⟨h1, h2⟩ := crewsFrom_len nb r _ e h
    refine ⟨by simp at h1; omega, fun x hx => ?_⟩
    rcases h2 x hx with h3 | h3
    ·rcases List.mem_append.1 h3 with h4 | h4
     ·exact .inl h4
     ·simp only [List.mem_singleton] at h4; subst h4; exact .inr ⟨by omega, by omega⟩
    ·exact .inr h3
theorem costS_ge {n : Sea} (hok : seaOk n = true) (c : List Int) : 0 ≤ costS n c := by
 have hb : ∀ b : Int, 0 ≤ (boatAt n b).pence := by
  intro b
  unfold boatAt
  rw [List.getD]
  cases h : n.boats[b.toNat]? with
  | none => decide
  | some x =>
    have := (seaOk_iff.1 hok).2.2.2.2.1 x (List.mem_of_getElem? h)
    simp only [boatOk, Bool.and_eq_true, within_iff] at this
    simp only [Option.getD_some]; omega
 have : ∀ (l : List Int) (a : Int), 0 ≤ a → 0 ≤ l.foldl (fun a b => a + (boatAt n b).pence) a := by
  intro l
  induction l with
  | nil => intro a h; exact h
  | cons x l ih => intro a h; exact ih _ (by have := hb x; simp only; omega)
 exact this c 0 (Int.le_refl _)
theorem crew_law {n : Sea} (hok : seaOk n = true) : (crewS n = [] ↔ (cheapS n).2 < 0) ∧ (crewS n ≠ [] → (cheapS n) = (some (crewS n), costS n (crewS n))) := by
 have hpl : 0 < n.places.length := by
  have h7 := (seaOk_iff.1 hok).2.2.2.2.2.2
  cases h : n.places with
  | nil => rw [h] at h7; simp [highSum] at h7
  | cons _ _ => simp
 have key : ∀ (l : List (List Int)) (b : List Int) (a : Option (List Int) × Int), (∀ c ∈ l, c ≠ []) → (b = [] ∧ a = (none, -1) ∨ b ≠ [] ∧ a = (some b, costS n b)) →
  (l.foldl (bestY n) b = [] ∧ l.foldl (cheapY n) a = (none, -1) ∨ l.foldl (bestY n) b ≠ [] ∧ l.foldl (cheapY n) a = (some (l.foldl (bestY n) b), costS n (l.foldl (bestY n) b))) := by
  intro l
  induction l with
  | nil => intro b a _ h; exact h
  | cons c l ih =>
    intro b a hl h
    rw [List.foldl_cons, List.foldl_cons]
    refine ih _ _ (fun c hc => hl c (by simp [hc])) ?_
    have hc := hl c (by simp)
    rcases h with ⟨rfl, rfl⟩ | ⟨hb, rfl⟩
    ·cases h1 : holdsS n c
     ·left; simp [bestY, cheapY, h1]
     ·right; simp [bestY, cheapY, h1, hc]
    ·have hcost := costS_ge hok b
     have hnl : ¬ costS n b < 0 := by omega
     cases h1 : holdsS n c
     ·right; simp [bestY, cheapY, h1, hb]
     ·right
      by_cases h2 : costS n c < costS n b
      ·simp [bestY, cheapY, h1, h2, hc]
      ·simp [bestY, cheapY, h1, h2, hb, hnl]
 have := key (crewsFrom n.boats.length n.places.length []) [] (none, -1) (fun c hc => by
  have := (crewsFrom_len _ _ _ c hc).1
  intro e; subst e; simp at this; omega) (.inl ⟨rfl, rfl⟩)
 change (crewS n = [] ∧ cheapS n = (none, -1)) ∨ (crewS n ≠ [] ∧ cheapS n = (some (crewS n), costS n (crewS n))) at this
 rcases this with ⟨h1, h2⟩ | ⟨h1, h2⟩
 ·rw [h2]; exact ⟨⟨fun _ => by decide, fun _ => h1⟩, fun h => absurd h1 h⟩
 ·rw [h2]
  have := costS_ge hok (crewS n)
  exact ⟨⟨fun h => absurd h h1, fun h => by simp only at h; omega⟩, fun _ => rfl⟩
end Go.Proofs.YtekgicoibcgecaaGreat

/-
  The reference of chapter 2: Bears, Can, more, Truths, quiet, Safe.
-/
namespace Go.Proofs.YtekgicoibcgecaaGreat
open Go.Ab
@[simp] theorem map_cTru (r : Ren) (h : r.c .no = .no) (l) : (es cTru l).map (V.mapAll r) = es cTru l := es_map _ _ (fun _ => by simp [h]) _
@[simp] theorem map_cTru_d (d keep l) : (es cTru l).map (V.mapAll (dropR d keep)) = es cTru l := map_cTru _ rfl l
@[simp] theorem map_cTru_f (d k z e l) : (es cTru l).map (V.mapAll (frzR d k z e)) = es cTru l := map_cTru _ rfl l
@[simp] theorem map_cTru_r (own d loc ls d' lab l) : (es cTru l).map (V.mapAll (renR own d loc ls d' lab)) = es cTru l := map_cTru _ (by cases own <;> rfl) l
@[simp] theorem strip_cTru (l) : (es cTru l).map V.stripAll = es cTru l := es_strip _ (fun _ => by simp) _
@[simp] theorem refs_cTru (own : Bool) (d : Nat) (l) : (es cTru l).flatMap (V.refsAll own d) = [] := es_refs _ _ _ (fun _ => by cases own <;> simp [V.refs, Cap.refs]) _
@[simp] theorem elems_cTru (l) : elemsOk (es cTru l) 3 = true := elemsOk_es _ _ (fun _ => by simp) _
@[simp] theorem es_tru1 (l : List Tru) (w c : Int) (g : List Int) : es cTru l ++ [[i64 w, i64 c, .sl .no 1 (es cInt g)]] = es cTru (l ++ [⟨w, c, g⟩]) := by simp [es]
theorem e_In_nil (n : Int) (lab s) : den T 44 [.sl .no 1 [], i64 n] lab s = some (.bool false, s) := by
 have := e_In [] n (by simp) lab s
 simpa [anyB] using this
set_option maxHeartbeats 1000000 in
theorem e_Bears (n0 : Int) (n1 : Int) (n2 : Int) (n3 : Int) (n4 : List Sp) (n5 : List Anc) (n6 : List Wal) (w c : Int) (G : List (List V)) (k : Nat) (hk : k < n5.length) (h56 : (n6.length : Int) = max 0 ((n5.length : Int) - 1)) (h5 : n5.length ≤ 6) (hwal : ∀ x ∈ n6, walOk x = true) (hw : 0 ≤ w ∧ w ≤ 20) (hc : 0 ≤ c ∧ c ≤ 20) (lab s) :
 den T 154 [.agg [i64 n0, i64 n1, i64 n2, i64 n3, .sl .no 2 (es cSp n4), .sl .no 2 (es cAnc n5), .sl .no 5 (es cWal n6)], .agg [i64 w, i64 c, .sl .no 1 G], i64 k, .sl .no 1 []] lab s = some (i64 (bearsS n6 w c k), s) := by
 have hin := fun n lab s => e_In_nil n lab s
 have hl : ∀ (x : Wal), walOk x = true → ∀ lab s, den T 166 [.agg [i64 x.sail, i64 x.drag, i64 x.lean, i64 x.corks, i64 x.stones], i64 w, i64 c] lab s = some (i64 (loadW x w c), s) := fun x hx lab s => e_LoadOf x w c hx hw hc lab s
 have b1 := sideS_bound hwal hw hc ((k : Int) - 1)
 have b2 := sideS_bound hwal hw hc (k : Int)
 have e1 : sideS n6 w c (k : Int) = if h : k < n6.length then loadW n6[k] w c else 0 := by
  by_cases h : k < n6.length
  ·simp [sideS, h]
  ·simp [sideS, h, List.getElem?_eq_none (Nat.not_lt.1 h)]
 have e2 : sideS n6 w c ((k : Int) - 1) = if h : 0 < k ∧ k - 1 < n6.length then loadW n6[k - 1] w c else 0 := by
  by_cases h : 0 < k
  ·have hn : ((k : Int) - 1).toNat = k - 1 := by omega
   have h1 : k - 1 < n6.length := by omega
   have h0 : (1 : Int) ≤ (k : Int) := by omega
   simp [sideS, h, h1, hn, h0]
  ·obtain rfl : k = 0 := by omega
   simp [sideS]
 unfold bearsS
 rw [den_fn t154 _ _ _ rfl]
 simp only [b154]
 by_cases c0 : 0 < k
 ·have h1 : k - 1 < n6.length := by omega
  have hn : ((k : Int) - 1).toNat = k - 1 := by omega
  have h1i : (0 : Int) ≤ (k : Int) - 1 := by omega
  have h1j : (1 : Int) ≤ (k : Int) := by omega
  have l1 := hl n6[k - 1] (hwal _ (List.getElem_mem h1))
  rw [dif_pos ⟨c0, h1⟩] at e2
  by_cases c1 : k < n6.length
  ·have c1i : (k : Int) < (n5.length : Int) - 1 := by omega
   have l2 := hl n6[k] (hwal _ (List.getElem_mem c1))
   rw [dif_pos c1] at e1
   rw [e1] at b2
   rw [e2] at b1
   rw [e1, e2]
   simp (maxSteps := 1000000) (disch := first | omega | assumption | decide +kernel | (simp; done) | (simp; omega) | fail) [wi, c0, h1, h1i, h1j, hn, l1, l2, c1, c1i, hin]
  ·have c1i : ¬ (k : Int) < (n5.length : Int) - 1 := by omega
   rw [dif_neg c1] at e1
   rw [e1] at b2
   rw [e2] at b1
   rw [e1, e2]
   simp (maxSteps := 1000000) (disch := first | omega | assumption | decide +kernel | (simp; done) | (simp; omega) | fail) [wi, c0, h1, h1i, h1j, hn, l1, c1, c1i, hin]
 ·have hz : k = 0 := by omega
  subst hz
  rw [dif_neg (by omega)] at e2
  by_cases c1 : 0 < n6.length
  ·have c1i : (0 : Int) < (n5.length : Int) - 1 := by omega
   have c1j : (1 : Int) < (n5.length : Int) := by omega
   have l2 := hl n6[0] (hwal _ (List.getElem_mem c1))
   rw [dif_pos c1] at e1
   rw [e1] at b2
   rw [e2] at b1
   rw [e1, e2]
   simp (maxSteps := 1000000) (disch := first | omega | assumption | decide +kernel | (simp; done) | (simp; omega) | fail) [wi, l2, c1, c1i, c1j, hin]
  ·have c1i : ¬ (0 : Int) < (n5.length : Int) - 1 := by omega
   have c1j : ¬ (1 : Int) < (n5.length : Int) := by omega
   rw [dif_neg c1] at e1
   rw [e1] at b2
   rw [e2] at b1
   rw [e1, e2]
   simp (maxSteps := 1000000) (disch := first | omega | assumption | decide +kernel | (simp; done) | (simp; omega) | fail) [wi, c1, c1i, c1j, hin]
theorem e_Can (n0 : Int) (n1 : Int) (n2 : Int) (n3 : Int) (n4 : List Sp) (n5 : List Anc) (n6 : List Wal) (w c : Int) (g : List Int) (k : Nat) (hk : k < n5.length) (ha : ∀ x ∈ n5, ancOk g.length x = true) (hg : ∀ x ∈ g, 0 ≤ x ∧ x ≤ 9) (lab s) :
 den T 155 [.agg [i64 n0, i64 n1, i64 n2, i64 n3, .sl .no 2 (es cSp n4), .sl .no 2 (es cAnc n5), .sl .no 5 (es cWal n6)], .agg [i64 w, i64 c, .sl .no 1 (es cInt g)], i64 k] lab s = some (i64 (2 * n5[k].weight * g.getD n5[k].bottom.toNat 0), s) := by
 obtain ⟨h1, h2, h3⟩ := ancOk_iff.1 (ha n5[k] (List.getElem_mem hk))
 have hb : n5[k].bottom.toNat < g.length := by omega
 have hgg := hg g[n5[k].bottom.toNat] (List.getElem_mem hb)
 have m1 := mulb (a := 2 * n5[k].weight) (A := 40) (w := g[n5[k].bottom.toNat]) (W := 9) (by omega) (by omega) hgg.1 hgg.2
 have e : g.getD n5[k].bottom.toNat 0 = g[n5[k].bottom.toNat] := by simp [List.getD, hb]
 rw [e]
 rw [den_fn t155 _ _ _ rfl]
 simp only [b155]
 simp (disch := first | omega | assumption | decide +kernel | (simp; done) | (simp; omega) | fail) [wi, hk, hb, h1, h2, h3]
def moreS (n : Net) (w c : Int) (g : List Int) : List Int := (List.range n.anch.length).foldl (fun (a : List Int) (k : Nat) => if spareS n w c g k < 0 then a ++ [(k : Int)] else a) []
theorem moreS_nil (n : Net) (w c : Int) (g : List Int) : moreS n w c g = [] ↔ quiet n w c g = true := by
 have key : ∀ (l : List Nat) (a : List Int), l.foldl (fun (a : List Int) (k : Nat) => if spareS n w c g k < 0 then a ++ [(k : Int)] else a) a = [] ↔ a = [] ∧ allB (fun k => decide (0 ≤ spareS n w c g k)) l = true := by
  intro l
  induction l with
  | nil => intro a; simp [allB]
  | cons k l ih =>
    intro a
    rw [List.foldl_cons, ih]
    split
    ·rename_i h
     have : ¬ 0 ≤ spareS n w c g k := by omega
     simp [allB, this]
    ·rename_i h
     have : 0 ≤ spareS n w c g k := by omega
     simp [allB, this]
 rw [moreS, key, quiet]; simp
theorem e_more_l (n0 : Int) (n1 : Int) (n2 : Int) (n3 : Int) (n4 : List Sp) (n5 : List Anc) (n6 : List Wal) (w c : Int) (g : List Int) (h56 : (n6.length : Int) = max 0 ((n5.length : Int) - 1)) (h5 : n5.length ≤ 6) (ha : ∀ x ∈ n5, ancOk g.length x = true) (hg : ∀ x ∈ g, 0 ≤ x ∧ x ≤ 9) (hwal : ∀ x ∈ n6, walOk x = true) (hw : 0 ≤ w ∧ w ≤ 20) (hc : 0 ≤ c ∧ c ≤ 20) (s : Stk) :
 Run T b130l0 [(7, .sl (.own s.length 113) 1 []), (2, .sl .no 1 []), (3, .ptr s.length 48 0), (4, .ptr s.length 64 0), (7, .sl .full 1 []), (8, i64 0)] ([(48, .cell [i64 n0, i64 n1, i64 n2, i64 n3, .sl .no 2 (es cSp n4), .sl .no 2 (es cAnc n5), .sl .no 5 (es cWal n6)]), (64, .cell [i64 w, i64 c, .sl .no 1 (es cInt g)]), (113, .tok 0)] :: s) = some (.exit 0, [(2, .sl .no 1 []), (3, .ptr s.length 48 0), (4, .ptr s.length 64 0), (7, .sl (.own s.length 113) 1 (es cInt ((List.range n5.length).foldl (fun (a : List Int) (k : Nat) => if spareS (⟨⟨n0, n1⟩, ⟨n2, n3⟩, n4, n5, n6⟩ : Net) w c g k < 0 then a ++ [(k : Int)] else a) []))), (8, i64 n5.length), (13, .bool false)], [(48, .cell [i64 n0, i64 n1, i64 n2, i64 n3, .sl .no 2 (es cSp n4), .sl .no 2 (es cAnc n5), .sl .no 5 (es cWal n6)]), (64, .cell [i64 w, i64 c, .sl .no 1 (es cInt g)]), (113, .tok ((List.range n5.length).foldl (fun (a : List Int) (k : Nat) => if spareS (⟨⟨n0, n1⟩, ⟨n2, n3⟩, n4, n5, n6⟩ : Net) w c g k < 0 then a ++ [(k : Int)] else a) []).length)] :: s) := by
 have key := loop_fold (T := T) (live := [2, 3, 4, 7, 8]) (keep := [48, 64, 113]) (b := d130l0) (List.range n5.length) (fun k (a : List Int) => a.length ≤ k) (fun (a : List Int) (k : Nat) => if spareS (⟨⟨n0, n1⟩, ⟨n2, n3⟩, n4, n5, n6⟩ : Net) w c g k < 0 then a ++ [(k : Int)] else a) (fun k (a : List Int) => [(2, .sl .no 1 []), (3, .ptr s.length 48 0), (4, .ptr s.length 64 0), (7, .sl (.own s.length 113) 1 (es cInt a)), (8, i64 k)]) (fun k (a : List Int) => [(48, .cell [i64 n0, i64 n1, i64 n2, i64 n3, .sl .no 2 (es cSp n4), .sl .no 2 (es cAnc n5), .sl .no 5 (es cWal n6)]), (64, .cell [i64 w, i64 c, .sl .no 1 (es cInt g)]), (113, .tok a.length)] :: s) (fun (a : List Int) => (.exit 0, [(2, .sl .no 1 []), (3, .ptr s.length 48 0), (4, .ptr s.length 64 0), (7, .sl (.own s.length 113) 1 (es cInt a)), (8, i64 n5.length), (13, .bool false)], [(48, .cell [i64 n0, i64 n1, i64 n2, i64 n3, .sl .no 2 (es cSp n4), .sl .no 2 (es cAnc n5), .sl .no 5 (es cWal n6)]), (64, .cell [i64 w, i64 c, .sl .no 1 (es cInt g)]), (113, .tok a.length)] :: s)) (by simp) ?_ ?_ ?_ [] (by simp) [(7, .sl (.own s.length 113) 1 []), (2, .sl .no 1 []), (3, .ptr s.length 48 0), (4, .ptr s.length 64 0), (7, .sl .full 1 []), (8, i64 0)] ([(48, .cell [i64 n0, i64 n1, i64 n2, i64 n3, .sl .no 2 (es cSp n4), .sl .no 2 (es cAnc n5), .sl .no 5 (es cWal n6)]), (64, .cell [i64 w, i64 c, .sl .no 1 (es cInt g)]), (113, .tok 0)] :: s) (by simp) (by simp)
 ·exact key
 ·intro k a hk hi
  try simp only [List.length_range] at hk
  try simp only [List.getElem_range]
  have h1 := fun lab s => e_Bears n0 n1 n2 n3 n4 n5 n6 w c (es cInt g) k hk h56 h5 hwal hw hc lab s
  have h2 := fun lab s => e_Can n0 n1 n2 n3 n4 n5 n6 w c g k hk ha hg lab s
  have hin := fun n lab s => e_In_nil n lab s
  have e : spareS (⟨⟨n0, n1⟩, ⟨n2, n3⟩, n4, n5, n6⟩ : Net) w c g k = 2 * n5[k].weight * g[n5[k].bottom.toNat]?.getD 0 - bearsS n6 w c k := by simp [spareS, hk]
  by_cases c0 : spareS (⟨⟨n0, n1⟩, ⟨n2, n3⟩, n4, n5, n6⟩ : Net) w c g k < 0
  ·have c1 : 2 * n5[k].weight * g[n5[k].bottom.toNat]?.getD 0 < bearsS n6 w c k := by omega
   simp (maxSteps := 1000000) (disch := first | omega | assumption | decide +kernel | (simp; done) | (simp; omega) | fail) [hk, h1, h2, hin, c0, c1, appK_own1, wk k (by omega)]
  ·have c1 : ¬ 2 * n5[k].weight * g[n5[k].bottom.toNat]?.getD 0 < bearsS n6 w c k := by omega
   simp (maxSteps := 1000000) (disch := first | omega | assumption | decide +kernel | (simp; done) | (simp; omega) | fail) [hk, h1, h2, hin, c0, c1, wk k (by omega)]
 ·intro k a hk hi
  try simp only [List.length_range] at hk
  try simp only [List.getElem_range]
  split
  ·simp; omega
  ·omega
 ·intro a hi
  simp
theorem e_more (n0 : Int) (n1 : Int) (n2 : Int) (n3 : Int) (n4 : List Sp) (n5 : List Anc) (n6 : List Wal) (w c : Int) (g : List Int) (h56 : (n6.length : Int) = max 0 ((n5.length : Int) - 1)) (h5 : n5.length ≤ 6) (ha : ∀ x ∈ n5, ancOk g.length x = true) (hg : ∀ x ∈ g, 0 ≤ x ∧ x ≤ 9) (hwal : ∀ x ∈ n6, walOk x = true) (hw : 0 ≤ w ∧ w ≤ 20) (hc : 0 ≤ c ∧ c ≤ 20) (lab s) :
 den T 130 [.agg [i64 n0, i64 n1, i64 n2, i64 n3, .sl .no 2 (es cSp n4), .sl .no 2 (es cAnc n5), .sl .no 5 (es cWal n6)], .agg [i64 w, i64 c, .sl .no 1 (es cInt g)], .sl .no 1 []] lab s = some (.sl .no 1 (es cInt (moreS (⟨⟨n0, n1⟩, ⟨n2, n3⟩, n4, n5, n6⟩ : Net) w c g)), s) := by
 have key := e_more_l n0 n1 n2 n3 n4 n5 n6 w c g h56 h5 ha hg hwal hw hc s
 change _ = some (Ex.exit 0, [_, _, _, (7, V.sl (.own s.length 113) 1 (es cInt (moreS (⟨⟨n0, n1⟩, ⟨n2, n3⟩, n4, n5, n6⟩ : Net) w c g))), _, _], [_, _, (113, Entry.tok (moreS (⟨⟨n0, n1⟩, ⟨n2, n3⟩, n4, n5, n6⟩ : Net) w c g).length)] :: s) at key
 rw [den_fn t130 _ _ _ rfl]
 simp only [b130]
 simp (disch := first | omega | assumption | decide +kernel | (simp; done) | (simp; omega) | fail) [key]
theorem e_Truths_l2 (n0 : Int) (n1 : Int) (n2 : Int) (n3 : Int) (n4 : List Sp) (n5 : List Anc) (n6 : List Wal) (w c : Int) (L : List (List Int)) (hL : L.length ≤ 1000) (a0 : List Tru) (h0 : a0.length ≤ 1000000) (s : Stk) :
 Run T b129l2 [(1, .ptr s.length 16 0), (3, .sl (.own s.length 49) 3 (es cTru a0)), (4, .sl .no 1 (es cInts L)), (5, i64 w), (6, i64 c), (7, i64 0)] ([(16, .cell [i64 n0, i64 n1, i64 n2, i64 n3, .sl .no 2 (es cSp n4), .sl .no 2 (es cAnc n5), .sl .no 5 (es cWal n6)]), (49, .tok a0.length)] :: s) = some (.exit 4, [(1, .ptr s.length 16 0), (3, .sl (.own s.length 49) 3 (es cTru ((L).foldl (fun (a : List Tru) (g : List Int) => a ++ [⟨w, c, g⟩]) a0))), (4, .sl .no 1 (es cInts L)), (5, i64 w), (6, i64 c), (7, i64 (L).length), (33, .bool false)], [(16, .cell [i64 n0, i64 n1, i64 n2, i64 n3, .sl .no 2 (es cSp n4), .sl .no 2 (es cAnc n5), .sl .no 5 (es cWal n6)]), (49, .tok ((L).foldl (fun (a : List Tru) (g : List Int) => a ++ [⟨w, c, g⟩]) a0).length)] :: s) := by
 have key := loop_fold (T := T) (live := [1, 3, 4, 5, 6, 7]) (keep := [16, 49, 144]) (b := d129l2) (L) (fun k (a : List Tru) => a.length = a0.length + k) (fun (a : List Tru) (g : List Int) => a ++ [⟨w, c, g⟩]) (fun k (a : List Tru) => [(1, .ptr s.length 16 0), (3, .sl (.own s.length 49) 3 (es cTru a)), (4, .sl .no 1 (es cInts L)), (5, i64 w), (6, i64 c), (7, i64 k)]) (fun k (a : List Tru) => [(16, .cell [i64 n0, i64 n1, i64 n2, i64 n3, .sl .no 2 (es cSp n4), .sl .no 2 (es cAnc n5), .sl .no 5 (es cWal n6)]), (49, .tok a.length)] :: s) (fun (a : List Tru) => (.exit 4, [(1, .ptr s.length 16 0), (3, .sl (.own s.length 49) 3 (es cTru a)), (4, .sl .no 1 (es cInts L)), (5, i64 w), (6, i64 c), (7, i64 (L).length), (33, .bool false)], [(16, .cell [i64 n0, i64 n1, i64 n2, i64 n3, .sl .no 2 (es cSp n4), .sl .no 2 (es cAnc n5), .sl .no 5 (es cWal n6)]), (49, .tok a.length)] :: s)) (by simp) ?_ ?_ ?_ a0 (by simp) [(1, .ptr s.length 16 0), (3, .sl (.own s.length 49) 3 (es cTru a0)), (4, .sl .no 1 (es cInts L)), (5, i64 w), (6, i64 c), (7, i64 0)] ([(16, .cell [i64 n0, i64 n1, i64 n2, i64 n3, .sl .no 2 (es cSp n4), .sl .no 2 (es cAnc n5), .sl .no 5 (es cWal n6)]), (49, .tok a0.length)] :: s) (by simp) (by simp)
 ·exact key
 ·intro k a hk hi
  simp (maxSteps := 1000000) (disch := first | omega | assumption | decide +kernel | (simp; done) | (simp; omega) | fail) [hk, appK_own1, wk k (by omega)]
 ·intro k a hk hi
  simp; omega
 ·intro a hi
  simp
theorem fold_app1 {α β : Type} (f : α → β) (l : List α) (a : List β) : l.foldl (fun a x => a ++ [f x]) a = a ++ l.map f := by
 induction l generalizing a with
 | nil => simp
 | cons x l ih => rw [List.foldl_cons, ih, List.map_cons, List.append_assoc]; rfl
theorem e_Truths_l1 (n0 : Int) (n1 : Int) (n2 : Int) (n3 : Int) (n4 : List Sp) (n5 : List Anc) (n6 : List Wal) (w : Int) (L : List (List Int)) (hL : L.length ≤ 1000) (a0 : List Tru) (h0 : a0.length ≤ 900000) (h2 : 0 ≤ n2 ∧ n2 ≤ n3 ∧ n3 ≤ 20) (s : Stk) :
 Run T b129l1 [(1, .ptr s.length 16 0), (3, .sl (.own s.length 49) 3 (es cTru a0)), (4, .sl .no 1 (es cInts L)), (5, i64 w), (6, i64 n2)] ([(16, .cell [i64 n0, i64 n1, i64 n2, i64 n3, .sl .no 2 (es cSp n4), .sl .no 2 (es cAnc n5), .sl .no 5 (es cWal n6)]), (49, .tok a0.length)] :: s) = some (.exit 2, [(1, .ptr s.length 16 0), (3, .sl (.own s.length 49) 3 (es cTru ((rng n2 n3).foldl (fun (a : List Tru) (c : Int) => a ++ L.map fun g => (⟨w, c, g⟩ : Tru)) a0))), (4, .sl .no 1 (es cInts L)), (5, i64 w), (6, i64 (n2 + ((n3 + 1 - n2).toNat : Nat))), (27, .bool false)], [(16, .cell [i64 n0, i64 n1, i64 n2, i64 n3, .sl .no 2 (es cSp n4), .sl .no 2 (es cAnc n5), .sl .no 5 (es cWal n6)]), (49, .tok ((rng n2 n3).foldl (fun (a : List Tru) (c : Int) => a ++ L.map fun g => (⟨w, c, g⟩ : Tru)) a0).length)] :: s) := by
 have key := loop_fold (T := T) (live := [1, 3, 4, 5, 6]) (keep := [16, 49, 144]) (b := d129l1) (rng n2 n3) (fun k (a : List Tru) => a.length = a0.length + k * L.length) (fun (a : List Tru) (c : Int) => a ++ L.map fun g => (⟨w, c, g⟩ : Tru)) (fun k (a : List Tru) => [(1, .ptr s.length 16 0), (3, .sl (.own s.length 49) 3 (es cTru a)), (4, .sl .no 1 (es cInts L)), (5, i64 w), (6, i64 (n2 + (k : Nat)))]) (fun k (a : List Tru) => [(16, .cell [i64 n0, i64 n1, i64 n2, i64 n3, .sl .no 2 (es cSp n4), .sl .no 2 (es cAnc n5), .sl .no 5 (es cWal n6)]), (49, .tok a.length)] :: s) (fun (a : List Tru) => (.exit 2, [(1, .ptr s.length 16 0), (3, .sl (.own s.length 49) 3 (es cTru a)), (4, .sl .no 1 (es cInts L)), (5, i64 w), (6, i64 (n2 + ((n3 + 1 - n2).toNat : Nat))), (27, .bool false)], [(16, .cell [i64 n0, i64 n1, i64 n2, i64 n3, .sl .no 2 (es cSp n4), .sl .no 2 (es cAnc n5), .sl .no 5 (es cWal n6)]), (49, .tok a.length)] :: s)) (by simp) ?_ ?_ ?_ a0 (by simp) [(1, .ptr s.length 16 0), (3, .sl (.own s.length 49) 3 (es cTru a0)), (4, .sl .no 1 (es cInts L)), (5, i64 w), (6, i64 n2)] ([(16, .cell [i64 n0, i64 n1, i64 n2, i64 n3, .sl .no 2 (es cSp n4), .sl .no 2 (es cAnc n5), .sl .no 5 (es cWal n6)]), (49, .tok a0.length)] :: s) (by simp) (by simp)
 ·exact key
 ·intro k a hk hi
  rw [rng_len] at hk
  rw [rng_get]
  have hkl : (k : Int) ≤ n3 - n2 := by omega
  have hle : n2 + (k : Int) ≤ n3 := by omega
  have hb : k * L.length ≤ 21 * 1000 := Nat.mul_le_mul (by omega) hL
  have hl := e_Truths_l2 n0 n1 n2 n3 n4 n5 n6 w (n2 + (k : Int)) L hL a (by omega) s
  rw [fold_app1] at hl
  have hwr : IntKind.i64.wrap (n2 + ((k : Int) + 1)) = n2 + ((k : Int) + 1) := wi _ (by omega) (by omega)
  simp (maxSteps := 1000000) (disch := first | omega | assumption | decide +kernel | (simp; done) | (simp; omega) | fail) [hle, hl, hwr, Int.add_assoc]
 ·intro k a hk hi
  simp only [List.length_append, List.length_map, Nat.add_mul, hi]; omega
 ·intro a hi
  have e : n2 + (((n3 + 1 - n2).toNat : Nat) : Int) = n3 + 1 := by omega
  rw [rng_len, e]
  have hle : ¬ n3 + 1 ≤ n3 := by omega
  simp [hle]
theorem e_Truths_l0 (n0 : Int) (n1 : Int) (n2 : Int) (n3 : Int) (n4 : List Sp) (n5 : List Anc) (n6 : List Wal) (L : List (List Int)) (hL : L.length ≤ 1000) (h2 : 0 ≤ n2 ∧ n2 ≤ n3 ∧ n3 ≤ 20) (h1 : 0 ≤ n0 ∧ n0 ≤ n1 ∧ n1 ≤ 20) (s : Stk) :
 Run T b129l0 [(3, .sl (.own s.length 49) 3 []), (1, .ptr s.length 16 0), (3, .sl .full 3 []), (4, .sl .no 1 (es cInts L)), (5, i64 n0)] ([(16, .cell [i64 n0, i64 n1, i64 n2, i64 n3, .sl .no 2 (es cSp n4), .sl .no 2 (es cAnc n5), .sl .no 5 (es cWal n6)]), (49, .tok 0)] :: s) = some (.exit 0, [(1, .ptr s.length 16 0), (3, .sl (.own s.length 49) 3 (es cTru ((rng n0 n1).foldl (fun (a : List Tru) (w : Int) => a ++ (rng n2 n3).flatMap fun c => L.map fun g => (⟨w, c, g⟩ : Tru)) []))), (4, .sl .no 1 (es cInts L)), (5, i64 (n0 + ((n1 + 1 - n0).toNat : Nat))), (17, .bool false)], [(16, .cell [i64 n0, i64 n1, i64 n2, i64 n3, .sl .no 2 (es cSp n4), .sl .no 2 (es cAnc n5), .sl .no 5 (es cWal n6)]), (49, .tok ((rng n0 n1).foldl (fun (a : List Tru) (w : Int) => a ++ (rng n2 n3).flatMap fun c => L.map fun g => (⟨w, c, g⟩ : Tru)) []).length)] :: s) := by
 have key := loop_fold (T := T) (live := [1, 3, 4, 5]) (keep := [16, 49, 144]) (b := d129l0) (rng n0 n1) (fun k (a : List Tru) => a.length ≤ k * 21000) (fun (a : List Tru) (w : Int) => a ++ (rng n2 n3).flatMap fun c => L.map fun g => (⟨w, c, g⟩ : Tru)) (fun k (a : List Tru) => [(1, .ptr s.length 16 0), (3, .sl (.own s.length 49) 3 (es cTru a)), (4, .sl .no 1 (es cInts L)), (5, i64 (n0 + (k : Nat)))]) (fun k (a : List Tru) => [(16, .cell [i64 n0, i64 n1, i64 n2, i64 n3, .sl .no 2 (es cSp n4), .sl .no 2 (es cAnc n5), .sl .no 5 (es cWal n6)]), (49, .tok a.length)] :: s) (fun (a : List Tru) => (.exit 0, [(1, .ptr s.length 16 0), (3, .sl (.own s.length 49) 3 (es cTru a)), (4, .sl .no 1 (es cInts L)), (5, i64 (n0 + ((n1 + 1 - n0).toNat : Nat))), (17, .bool false)], [(16, .cell [i64 n0, i64 n1, i64 n2, i64 n3, .sl .no 2 (es cSp n4), .sl .no 2 (es cAnc n5), .sl .no 5 (es cWal n6)]), (49, .tok a.length)] :: s)) (by simp) ?_ ?_ ?_ [] (by simp) [(3, .sl (.own s.length 49) 3 []), (1, .ptr s.length 16 0), (3, .sl .full 3 []), (4, .sl .no 1 (es cInts L)), (5, i64 n0)] ([(16, .cell [i64 n0, i64 n1, i64 n2, i64 n3, .sl .no 2 (es cSp n4), .sl .no 2 (es cAnc n5), .sl .no 5 (es cWal n6)]), (49, .tok 0)] :: s) (by simp) (by simp)
 ·exact key
 ·intro k a hk hi
  rw [rng_len] at hk
  rw [rng_get]
  have hle : n0 + (k : Int) ≤ n1 := by omega
  have hl := e_Truths_l1 n0 n1 n2 n3 n4 n5 n6 (n0 + (k : Int)) L hL a (by omega) h2 s
  rw [fold_app2] at hl
  have hwr : IntKind.i64.wrap (n0 + ((k : Int) + 1)) = n0 + ((k : Int) + 1) := wi _ (by omega) (by omega)
  simp (maxSteps := 1000000) (disch := first | omega | assumption | decide +kernel | (simp; done) | (simp; omega) | fail) [hle, hl, hwr, Int.add_assoc]
 ·intro k a hk hi
  have := flat_le (fun c => L.map fun g => (⟨(rng n0 n1)[k], c, g⟩ : Tru)) 1000 (rng n2 n3) (fun c _ => by simpa using hL)
  rw [rng_len] at this
  simp only [List.length_append]; omega
 ·intro a hi
  have e : n0 + (((n1 + 1 - n0).toNat : Nat) : Int) = n1 + 1 := by omega
  rw [rng_len, e]
  have hle : ¬ n1 + 1 ≤ n1 := by omega
  simp [hle]
theorem truths_fold (n : Net) : (rng n.wind.lo n.wind.hi).foldl (fun (a : List Tru) (w : Int) => a ++ (rng n.cur.lo n.cur.hi).flatMap fun c => (gripsFrom n.grips []).map fun g => (⟨w, c, g⟩ : Tru)) [] = truthsS n := by
 rw [fold_app2, List.nil_append]; rfl
theorem grips_short {n : Net} (hok : netOk n = true) : (gripsFrom n.grips []).length ≤ 1000 := by
 obtain ⟨a1, a2, a3, a4, a5, a6, a7, a8⟩ := netOk_iff.1 hok
 rw [allB_iff] at a6
 refine Nat.le_trans (grips_bound 9 10 rfl _ a6 _) ?_
 calc 10 ^ n.grips.length ≤ 10 ^ 3 := Nat.pow_le_pow_right (by omega) a3
  _ = 1000 := rfl
theorem truths_short {n : Net} (hok : netOk n = true) : (truthsS n).length ≤ 441000 := by
 have hg := grips_short hok
 obtain ⟨a1, a2, a3, a4, a5, a6, a7, a8⟩ := netOk_iff.1 hok
 have b1 := spanOk_iff.1 a1
 have b2 := spanOk_iff.1 a2
 have h1 : ∀ w : Int, ((rng n.cur.lo n.cur.hi).flatMap fun c => (gripsFrom n.grips []).map fun g => (⟨w, c, g⟩ : Tru)).length ≤ 21000 := fun w => by
  have := flat_le (fun c => (gripsFrom n.grips []).map fun g => (⟨w, c, g⟩ : Tru)) 1000 (rng n.cur.lo n.cur.hi) (fun c _ => by simpa using hg)
  rw [rng_len] at this; omega
 have := flat_le _ 21000 (rng n.wind.lo n.wind.hi) (fun w _ => h1 w)
 rw [rng_len] at this
 unfold truthsS
 omega
theorem e_Truths (n0 : Int) (n1 : Int) (n2 : Int) (n3 : Int) (n4 : List Sp) (n5 : List Anc) (n6 : List Wal) (hok : netOk (⟨⟨n0, n1⟩, ⟨n2, n3⟩, n4, n5, n6⟩ : Net) = true) (lab s) : den T 129 [.agg [i64 n0, i64 n1, i64 n2, i64 n3, .sl .no 2 (es cSp n4), .sl .no 2 (es cAnc n5), .sl .no 5 (es cWal n6)]] lab s = some (.sl .no 3 (es cTru (truthsS (⟨⟨n0, n1⟩, ⟨n2, n3⟩, n4, n5, n6⟩ : Net))), s) := by
 have hgs := grips_short hok
 obtain ⟨a1, a2, a3, a4, a5, a6, a7, a8⟩ := netOk_iff.1 hok
 have b1 := spanOk_iff.1 a1
 have b2 := spanOk_iff.1 a2
 simp only at a3 b1 b2
 rw [allB_iff] at a6
 have hg := fun lab s => e_grips n0 n1 n2 n3 n4 n5 n6 a3 a6 n4.length [] (by simp) lab s
 simp only [List.length_nil, List.drop_zero, es_nil] at hg
 have key := e_Truths_l0 n0 n1 n2 n3 n4 n5 n6 (gripsFrom n4 []) hgs b2 b1 s
 have e := truths_fold (⟨⟨n0, n1⟩, ⟨n2, n3⟩, n4, n5, n6⟩ : Net)
 simp only at e
 rw [e] at key
 rw [den_fn t129 _ _ _ rfl]
 simp only [b129]
 simp (disch := first | omega | assumption | decide +kernel | (simp; done) | (simp; omega) | fail) [hg, key]
theorem e_quiet_l (n0 : Int) (n1 : Int) (n2 : Int) (n3 : Int) (n4 : List Sp) (n5 : List Anc) (n6 : List Wal) (hok : netOk (⟨⟨n0, n1⟩, ⟨n2, n3⟩, n4, n5, n6⟩ : Net) = true) (L : List Tru) (hL : ∀ t ∈ L, t ∈ truthsS (⟨⟨n0, n1⟩, ⟨n2, n3⟩, n4, n5, n6⟩ : Net)) (hlen : L.length ≤ 1000000) (s : Stk) :
 Run T b111l0 [(1, .ptr s.length 16 0), (2, i64 0), (4, .sl .no 3 (es cTru L)), (5, i64 0)] ([(16, .cell [i64 n0, i64 n1, i64 n2, i64 n3, .sl .no 2 (es cSp n4), .sl .no 2 (es cAnc n5), .sl .no 5 (es cWal n6)])] :: s) = some (.exit 0, [(1, .ptr s.length 16 0), (2, i64 (((L).foldl (fun (a : Nat) (t : Tru) => if quiet (⟨⟨n0, n1⟩, ⟨n2, n3⟩, n4, n5, n6⟩ : Net) t.w t.c t.g = true then a + 1 else a) 0) : Nat)), (4, .sl .no 3 (es cTru L)), (5, i64 (L).length), (11, .bool false)], [(16, .cell [i64 n0, i64 n1, i64 n2, i64 n3, .sl .no 2 (es cSp n4), .sl .no 2 (es cAnc n5), .sl .no 5 (es cWal n6)])] :: s) := by
 have key := loop_fold (T := T) (live := [1, 2, 4, 5]) (keep := [16, 112]) (b := d111l0) (L) (fun k (a : Nat) => a ≤ k) (fun (a : Nat) (t : Tru) => if quiet (⟨⟨n0, n1⟩, ⟨n2, n3⟩, n4, n5, n6⟩ : Net) t.w t.c t.g = true then a + 1 else a) (fun k (a : Nat) => [(1, .ptr s.length 16 0), (2, i64 (a : Nat)), (4, .sl .no 3 (es cTru L)), (5, i64 k)]) (fun k (a : Nat) => [(16, .cell [i64 n0, i64 n1, i64 n2, i64 n3, .sl .no 2 (es cSp n4), .sl .no 2 (es cAnc n5), .sl .no 5 (es cWal n6)])] :: s) (fun (a : Nat) => (.exit 0, [(1, .ptr s.length 16 0), (2, i64 (a : Nat)), (4, .sl .no 3 (es cTru L)), (5, i64 (L).length), (11, .bool false)], [(16, .cell [i64 n0, i64 n1, i64 n2, i64 n3, .sl .no 2 (es cSp n4), .sl .no 2 (es cAnc n5), .sl .no 5 (es cWal n6)])] :: s)) (by simp) ?_ ?_ ?_ 0 (by simp) [(1, .ptr s.length 16 0), (2, i64 0), (4, .sl .no 3 (es cTru L)), (5, i64 0)] ([(16, .cell [i64 n0, i64 n1, i64 n2, i64 n3, .sl .no 2 (es cSp n4), .sl .no 2 (es cAnc n5), .sl .no 5 (es cWal n6)])] :: s) (by simp) (by simp)
 ·exact key
 ·intro k a hk hi
  obtain ⟨a1, a2, a3, a4, a5, a6, a7, a8⟩ := netOk_iff.1 hok
  have b1 := spanOk_iff.1 a1
  have b2 := spanOk_iff.1 a2
  simp only at a3 a4 a5 a6 a7 a8 b1 b2
  rw [allB_iff] at a6 a7 a8
  obtain ⟨k1, k2, k3⟩ := mem_truths.1 (hL L[k] (List.getElem_mem hk))
  simp only at k1 k2 k3
  have kl := fitsG_len k3
  have hm := fun lab s => e_more n0 n1 n2 n3 n4 n5 n6 L[k].w L[k].c L[k].g a5 a4 (by rw [kl]; exact a7) (by
   intro x hx
   obtain ⟨i, hi, rfl⟩ := List.getElem_of_mem hx
   have q := fitsG_get k3 i (by omega) hi
   have := spanOk_iff.1 (a6 n4[i] (List.getElem_mem _))
   omega) a8 (by omega) (by omega) lab s
  have hn := moreS_nil (⟨⟨n0, n1⟩, ⟨n2, n3⟩, n4, n5, n6⟩ : Net) L[k].w L[k].c L[k].g
  cases c0 : quiet (⟨⟨n0, n1⟩, ⟨n2, n3⟩, n4, n5, n6⟩ : Net) L[k].w L[k].c L[k].g
  ·have c1 : ¬ moreS (⟨⟨n0, n1⟩, ⟨n2, n3⟩, n4, n5, n6⟩ : Net) L[k].w L[k].c L[k].g = [] := by rw [hn, c0]; simp
   have c2 : ¬ ((moreS (⟨⟨n0, n1⟩, ⟨n2, n3⟩, n4, n5, n6⟩ : Net) L[k].w L[k].c L[k].g).length : Int) = 0 := by
    intro h; exact c1 (List.length_eq_zero_iff.1 (by omega))
   simp (maxSteps := 1000000) (disch := first | omega | assumption | decide +kernel | (simp; done) | (simp; omega) | fail) [run_drawnK, hk, hm, c1, c2, c0, wk k (by omega)]
  ·have c1 : moreS (⟨⟨n0, n1⟩, ⟨n2, n3⟩, n4, n5, n6⟩ : Net) L[k].w L[k].c L[k].g = [] := by rw [hn, c0]
   simp (maxSteps := 1000000) (disch := first | omega | assumption | decide +kernel | (simp; done) | (simp; omega) | fail) [run_drawnK, hk, hm, c1, c0, wk k (by omega), wk a (by omega)]
 ·intro k a hk hi
  split <;> omega
 ·intro a hi
  simp
theorem count_fold {α : Type} (p : α → Bool) (l : List α) (a : Nat) : l.foldl (fun a x => if p x = true then a + 1 else a) a = a + l.countP p := by
 induction l generalizing a with
 | nil => simp
 | cons x l ih =>
   rw [List.foldl_cons, ih, List.countP_cons]
   split <;> omega
theorem e_quiet (n0 : Int) (n1 : Int) (n2 : Int) (n3 : Int) (n4 : List Sp) (n5 : List Anc) (n6 : List Wal) (hok : netOk (⟨⟨n0, n1⟩, ⟨n2, n3⟩, n4, n5, n6⟩ : Net) = true) (lab s) : den T 111 [.agg [i64 n0, i64 n1, i64 n2, i64 n3, .sl .no 2 (es cSp n4), .sl .no 2 (es cAnc n5), .sl .no 5 (es cWal n6)]] lab s = some (.tup [i64 ((truthsS (⟨⟨n0, n1⟩, ⟨n2, n3⟩, n4, n5, n6⟩ : Net)).countP fun t => quiet (⟨⟨n0, n1⟩, ⟨n2, n3⟩, n4, n5, n6⟩ : Net) t.w t.c t.g), i64 (truthsS (⟨⟨n0, n1⟩, ⟨n2, n3⟩, n4, n5, n6⟩ : Net)).length], s) := by
 have ht := truths_short hok
 have key := e_quiet_l n0 n1 n2 n3 n4 n5 n6 hok (truthsS (⟨⟨n0, n1⟩, ⟨n2, n3⟩, n4, n5, n6⟩ : Net)) (fun t h => h) (by omega) s
 have hT := fun lab s => e_Truths n0 n1 n2 n3 n4 n5 n6 hok lab s
 rw [count_fold, Nat.zero_add] at key
 rw [den_fn t111 _ _ _ rfl]
 simp only [b111]
 simp (disch := first | omega | assumption | decide +kernel | (simp; done) | (simp; omega) | fail) [hT, key]
theorem e_Safe02 (n0 : Int) (n1 : Int) (n2 : Int) (n3 : Int) (n4 : List Sp) (n5 : List Anc) (n6 : List Wal) (h4 : n4.length < 4611686018427387904) (h5 : n5.length < 4611686018427387904) (h6 : n6.length < 4611686018427387904) (lab s) :
 den T 66 [.agg [i64 n0, i64 n1, i64 n2, i64 n3, .sl .no 2 (es cSp n4), .sl .no 2 (es cAnc n5), .sl .no 5 (es cWal n6)]] lab s = some (.tup [i64 (safeS (⟨⟨n0, n1⟩, ⟨n2, n3⟩, n4, n5, n6⟩ : Net)), i64 (if netOk (⟨⟨n0, n1⟩, ⟨n2, n3⟩, n4, n5, n6⟩ : Net) = true then 0 else 20)], s) := by
 rw [den_fn t66 _ _ _ rfl]
 simp only [b66]
 cases h : netOk (⟨⟨n0, n1⟩, ⟨n2, n3⟩, n4, n5, n6⟩ : Net)
 ·simp (disch := first | omega | assumption | decide +kernel | (simp; done) | (simp; omega) | fail) [h, safeS]
 have hq := fun lab s => e_quiet n0 n1 n2 n3 n4 n5 n6 h lab s
 have hl := safe_law h
 simp only [knownI] at hl
 rw [← hl]
 generalize List.countP _ (truthsS _) = q at hq ⊢
 generalize (truthsS _).length = m at hq ⊢
 simp (disch := first | omega | assumption | decide +kernel | (simp; done) | (simp; omega) | fail) [h, hq]
end Go.Proofs.YtekgicoibcgecaaGreat
