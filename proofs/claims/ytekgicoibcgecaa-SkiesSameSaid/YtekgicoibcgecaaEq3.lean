/-
  skies: Calm, Holds, May, Lift, Best, brings.
-/
import Derived.Test.YtekgicoibcgecaaEq2
import Derived.Test.YtekgicoibcgecaaAb7
set_option linter.unusedSimpArgs false
set_option linter.unusedVariables false
namespace Go.Proofs.Ytekgicoibcgecaa
open Go.Ab

def liftS (n : Season) (day : Nat) (sky : Int) : Bool := mayS n day sky.toNat && decide (worthS n (n.days.length - day) sky ≤ dayLo n day)
theorem e_lift13 (n : Season) (hok : seasonOk n = true) (hlen : ∀ l ∈ n.follows, l.length < 4611686018427387904) (day : Nat) (hday : day < n.days.length) (sky : Int) (h0 : 0 ≤ sky) (h1 : sky < (n.skies.length : Int)) (d l : Nat) (S : Stk) (hd : d < S.length) (h : sget S d l = some (.cell (seasonCell n))) (lab) :
    den T 51 [.ptr d l 0, i64 day, i64 sky] lab S = some (.bool (liftS n day sky), S) := by
  obtain ⟨_, _, q3, q4, q5, _, q7, _, _⟩ := seasonOk_iff.1 hok
  have hd' : ¬ d = S.length := by omega
  have hS1 : ∀ x : Ab.Loc, sget (x :: S) d l = some (.cell (seasonCell n)) := fun x => by rw [sget_cons, if_neg hd', h]
  have hm := fun lab => e_may n day sky.toNat (by omega) (by omega) d l ([] :: S) (by simp; omega) (hS1 _) lab
  have hsk : ((sky.toNat : Nat) : Int) = sky := by omega
  simp only [hsk] at hm
  have hw := fun lab => e_worth13 n hok hlen d l (n.days.length - day) day sky (by omega) h0 h1 ([] :: S) (by simp; omega) (hS1 _) lab
  have hlo : dayLo n day = n.days[day].lo := by simp [dayLo, hday]
  rw [den_fn t51 _ _ _ rfl]
  simp only [b51]
  cases c0 : mayS n day sky.toNat
  · simp (disch := first | omega | assumption | decide +kernel | (simp; done) | (simp; omega) | fail) [h, hd', hm, hw, c0, liftS]
  · simp (disch := first | omega | assumption | decide +kernel | (simp; done) | (simp; omega) | fail) [h, hd', hm, hw, c0, liftS, seasonCell, hlo, hday, ge_iff_le]


/-- what May answers -/
def mayR (n : Season) (day sky : Int) : Bool × Int := if seasonOk n = true then (if (isDayS n day && isSkyS n sky) = true then (mayS n day.toNat sky.toNat, 0) else (false, 1)) else (false, 130)
set_option maxHeartbeats 1000000 in
theorem e_May (n0 : Int) (n1 : Int) (n2 : Int) (n3 : Int) (n4 : List Sp) (n5 : List Anc) (n6 : List Wal) (n7 : Int) (n8 : Int) (n9 : List Sp) (n10 : List Boat) (n11 : List Sky) (n12 : List (List Int)) (n13 : List Int) (n14 : List Sp) (hs : Short (⟨⟨⟨n0, n1⟩, ⟨n2, n3⟩, n4, n5, n6⟩, ⟨⟨n7, n8⟩, n9, n10⟩, n11, n12, n13, n14⟩ : Season)) (day sky : Int) (lab s) : den T 50 [.agg [i64 n0, i64 n1, i64 n2, i64 n3, .sl .no 2 (es cSp n4), .sl .no 2 (es cAnc n5), .sl .no 5 (es cWal n6), i64 n7, i64 n8, .sl .no 2 (es cSp n9), .sl .no 2 (es cBoat n10), .sl .no 4 (es cSky n11), .sl .no 1 (es cInts n12), .sl .no 1 (es cInt n13), .sl .no 2 (es cSp n14)], i64 day, i64 sky] lab s = some (.tup [.bool (mayR (⟨⟨⟨n0, n1⟩, ⟨n2, n3⟩, n4, n5, n6⟩, ⟨⟨n7, n8⟩, n9, n10⟩, n11, n12, n13, n14⟩ : Season) day sky).1, i64 (mayR (⟨⟨⟨n0, n1⟩, ⟨n2, n3⟩, n4, n5, n6⟩, ⟨⟨n7, n8⟩, n9, n10⟩, n11, n12, n13, n14⟩ : Season) day sky).2], s) := by
  have hd := fun lab s => e_isDay13p n0 n1 n2 n3 n4 n5 n6 n7 n8 n9 n10 n11 n12 n13 n14 day hs.days lab s
  have hk := fun lab s => e_isSky13p n0 n1 n2 n3 n4 n5 n6 n7 n8 n9 n10 n11 n12 n13 n14 sky hs.skies lab s
  have hd0 : within day 0 (n14.length - 1) = isDayS (⟨⟨⟨n0, n1⟩, ⟨n2, n3⟩, n4, n5, n6⟩, ⟨⟨n7, n8⟩, n9, n10⟩, n11, n12, n13, n14⟩ : Season) day := rfl
  have hk0 : within sky 0 (n11.length - 1) = isSkyS (⟨⟨⟨n0, n1⟩, ⟨n2, n3⟩, n4, n5, n6⟩, ⟨⟨n7, n8⟩, n9, n10⟩, n11, n12, n13, n14⟩ : Season) sky := rfl
  rw [den_fn t50 _ _ _ rfl]
  simp only [b50]
  cases c0 : seasonOk (⟨⟨⟨n0, n1⟩, ⟨n2, n3⟩, n4, n5, n6⟩, ⟨⟨n7, n8⟩, n9, n10⟩, n11, n12, n13, n14⟩ : Season)
  · have ho := fun b lab loc s => e_open13_bad n0 n1 n2 n3 n4 n5 n6 n7 n8 n9 n10 n11 n12 n13 n14 hs c0 b lab loc s
    cases c1 : isDayS (⟨⟨⟨n0, n1⟩, ⟨n2, n3⟩, n4, n5, n6⟩, ⟨⟨n7, n8⟩, n9, n10⟩, n11, n12, n13, n14⟩ : Season) day
    · simp (disch := first | omega | assumption | decide +kernel | (simp; done) | (simp; omega) | fail) [hd, hd0, hk, hk0, c0, c1, ho, mayR]
    · simp (disch := first | omega | assumption | decide +kernel | (simp; done) | (simp; omega) | fail) [hd, hd0, hk, hk0, c0, c1, ho, mayR]
  · have ho := fun lab loc s => e_open13_arg n0 n1 n2 n3 n4 n5 n6 n7 n8 n9 n10 n11 n12 n13 n14 hs c0 lab loc s
    cases c1 : isDayS (⟨⟨⟨n0, n1⟩, ⟨n2, n3⟩, n4, n5, n6⟩, ⟨⟨n7, n8⟩, n9, n10⟩, n11, n12, n13, n14⟩ : Season) day
    · simp (disch := first | omega | assumption | decide +kernel | (simp; done) | (simp; omega) | fail) [hd, hd0, hk, hk0, c0, c1, ho, mayR]
    cases c2 : isSkyS (⟨⟨⟨n0, n1⟩, ⟨n2, n3⟩, n4, n5, n6⟩, ⟨⟨n7, n8⟩, n9, n10⟩, n11, n12, n13, n14⟩ : Season) sky
    · simp (disch := first | omega | assumption | decide +kernel | (simp; done) | (simp; omega) | fail) [hd, hd0, hk, hk0, c0, c1, c2, ho, mayR]
    obtain ⟨day, rfl, hday⟩ := isDay_nat c1
    obtain ⟨sky, rfl, hsky⟩ := isSky_nat c2
    obtain ⟨_, _, q3, q4, q5, _, q7, _, _⟩ := seasonOk_iff.1 c0
    simp only at hday hsky q4 q7
    have hp := fun lab loc s k0 => e_open13 n0 n1 n2 n3 n4 n5 n6 n7 n8 n9 n10 n11 n12 n13 n14 hs c0 lab loc s k0
    have hw := fun lab => e_may (⟨⟨⟨n0, n1⟩, ⟨n2, n3⟩, n4, n5, n6⟩, ⟨⟨n7, n8⟩, n9, n10⟩, n11, n12, n13, n14⟩ : Season) day sky (by omega) (by omega) s.length 320 ([(48, .cell [i64 n0, i64 n1, i64 n2, i64 n3, .sl .no 2 (es cSp n4), .sl .no 2 (es cAnc n5), .sl .no 5 (es cWal n6), i64 n7, i64 n8, .sl .no 2 (es cSp n9), .sl .no 2 (es cBoat n10), .sl .no 4 (es cSky n11), .sl .no 1 (es cInts n12), .sl .no 1 (es cInt n13), .sl .no 2 (es cSp n14)]), (320, .cell (seasonCell (⟨⟨⟨n0, n1⟩, ⟨n2, n3⟩, n4, n5, n6⟩, ⟨⟨n7, n8⟩, n9, n10⟩, n11, n12, n13, n14⟩ : Season)))] :: s) (by simp) ((sget_top _ _ _).trans rfl) lab
    have hr : mayR (⟨⟨⟨n0, n1⟩, ⟨n2, n3⟩, n4, n5, n6⟩, ⟨⟨n7, n8⟩, n9, n10⟩, n11, n12, n13, n14⟩ : Season) day sky = (mayS (⟨⟨⟨n0, n1⟩, ⟨n2, n3⟩, n4, n5, n6⟩, ⟨⟨n7, n8⟩, n9, n10⟩, n11, n12, n13, n14⟩ : Season) day sky, 0) := by simp [mayR, c0, c1, c2]
    rw [hr]
    simp (maxSteps := 1000000) (disch := first | omega | assumption | decide +kernel | (simp; done) | (simp; omega) | fail) [orSlow_none, hd, hd0, hk, hk0, c0, c1, c2, hp, hw]

/-- what Lift answers -/
def liftR (n : Season) (day sky : Int) : Bool × Int := if seasonOk n = true then (if (isDayS n day && isSkyS n sky) = true then (liftS n day.toNat sky, 0) else (false, 1)) else (false, 130)
set_option maxHeartbeats 1000000 in
theorem e_Lift (n0 : Int) (n1 : Int) (n2 : Int) (n3 : Int) (n4 : List Sp) (n5 : List Anc) (n6 : List Wal) (n7 : Int) (n8 : Int) (n9 : List Sp) (n10 : List Boat) (n11 : List Sky) (n12 : List (List Int)) (n13 : List Int) (n14 : List Sp) (hs : Short (⟨⟨⟨n0, n1⟩, ⟨n2, n3⟩, n4, n5, n6⟩, ⟨⟨n7, n8⟩, n9, n10⟩, n11, n12, n13, n14⟩ : Season)) (day sky : Int) (lab s) : den T 30 [.agg [i64 n0, i64 n1, i64 n2, i64 n3, .sl .no 2 (es cSp n4), .sl .no 2 (es cAnc n5), .sl .no 5 (es cWal n6), i64 n7, i64 n8, .sl .no 2 (es cSp n9), .sl .no 2 (es cBoat n10), .sl .no 4 (es cSky n11), .sl .no 1 (es cInts n12), .sl .no 1 (es cInt n13), .sl .no 2 (es cSp n14)], i64 day, i64 sky] lab s = some (.tup [.bool (liftR (⟨⟨⟨n0, n1⟩, ⟨n2, n3⟩, n4, n5, n6⟩, ⟨⟨n7, n8⟩, n9, n10⟩, n11, n12, n13, n14⟩ : Season) day sky).1, i64 (liftR (⟨⟨⟨n0, n1⟩, ⟨n2, n3⟩, n4, n5, n6⟩, ⟨⟨n7, n8⟩, n9, n10⟩, n11, n12, n13, n14⟩ : Season) day sky).2], s) := by
  have hd := fun lab s => e_isDay13p n0 n1 n2 n3 n4 n5 n6 n7 n8 n9 n10 n11 n12 n13 n14 day hs.days lab s
  have hk := fun lab s => e_isSky13p n0 n1 n2 n3 n4 n5 n6 n7 n8 n9 n10 n11 n12 n13 n14 sky hs.skies lab s
  have hd0 : within day 0 (n14.length - 1) = isDayS (⟨⟨⟨n0, n1⟩, ⟨n2, n3⟩, n4, n5, n6⟩, ⟨⟨n7, n8⟩, n9, n10⟩, n11, n12, n13, n14⟩ : Season) day := rfl
  have hk0 : within sky 0 (n11.length - 1) = isSkyS (⟨⟨⟨n0, n1⟩, ⟨n2, n3⟩, n4, n5, n6⟩, ⟨⟨n7, n8⟩, n9, n10⟩, n11, n12, n13, n14⟩ : Season) sky := rfl
  rw [den_fn t30 _ _ _ rfl]
  simp only [b30]
  cases c0 : seasonOk (⟨⟨⟨n0, n1⟩, ⟨n2, n3⟩, n4, n5, n6⟩, ⟨⟨n7, n8⟩, n9, n10⟩, n11, n12, n13, n14⟩ : Season)
  · have ho := fun b lab loc s => e_open13_bad n0 n1 n2 n3 n4 n5 n6 n7 n8 n9 n10 n11 n12 n13 n14 hs c0 b lab loc s
    cases c1 : isDayS (⟨⟨⟨n0, n1⟩, ⟨n2, n3⟩, n4, n5, n6⟩, ⟨⟨n7, n8⟩, n9, n10⟩, n11, n12, n13, n14⟩ : Season) day
    · simp (disch := first | omega | assumption | decide +kernel | (simp; done) | (simp; omega) | fail) [hd, hd0, hk, hk0, c0, c1, ho, liftR]
    · simp (disch := first | omega | assumption | decide +kernel | (simp; done) | (simp; omega) | fail) [hd, hd0, hk, hk0, c0, c1, ho, liftR]
  · have ho := fun lab loc s => e_open13_arg n0 n1 n2 n3 n4 n5 n6 n7 n8 n9 n10 n11 n12 n13 n14 hs c0 lab loc s
    cases c1 : isDayS (⟨⟨⟨n0, n1⟩, ⟨n2, n3⟩, n4, n5, n6⟩, ⟨⟨n7, n8⟩, n9, n10⟩, n11, n12, n13, n14⟩ : Season) day
    · simp (disch := first | omega | assumption | decide +kernel | (simp; done) | (simp; omega) | fail) [hd, hd0, hk, hk0, c0, c1, ho, liftR]
    cases c2 : isSkyS (⟨⟨⟨n0, n1⟩, ⟨n2, n3⟩, n4, n5, n6⟩, ⟨⟨n7, n8⟩, n9, n10⟩, n11, n12, n13, n14⟩ : Season) sky
    · simp (disch := first | omega | assumption | decide +kernel | (simp; done) | (simp; omega) | fail) [hd, hd0, hk, hk0, c0, c1, c2, ho, liftR]
    obtain ⟨day, rfl, hday⟩ := isDay_nat c1
    obtain ⟨sky, rfl, hsky⟩ := isSky_nat c2
    simp only at hday hsky
    have hp := fun lab loc s k0 => e_open13 n0 n1 n2 n3 n4 n5 n6 n7 n8 n9 n10 n11 n12 n13 n14 hs c0 lab loc s k0
    have hw := fun lab => e_lift13 (⟨⟨⟨n0, n1⟩, ⟨n2, n3⟩, n4, n5, n6⟩, ⟨⟨n7, n8⟩, n9, n10⟩, n11, n12, n13, n14⟩ : Season) c0 hs.each day hday sky (by omega) (by simp only; omega) s.length 320 ([(48, .cell [i64 n0, i64 n1, i64 n2, i64 n3, .sl .no 2 (es cSp n4), .sl .no 2 (es cAnc n5), .sl .no 5 (es cWal n6), i64 n7, i64 n8, .sl .no 2 (es cSp n9), .sl .no 2 (es cBoat n10), .sl .no 4 (es cSky n11), .sl .no 1 (es cInts n12), .sl .no 1 (es cInt n13), .sl .no 2 (es cSp n14)]), (320, .cell (seasonCell (⟨⟨⟨n0, n1⟩, ⟨n2, n3⟩, n4, n5, n6⟩, ⟨⟨n7, n8⟩, n9, n10⟩, n11, n12, n13, n14⟩ : Season)))] :: s) (by simp) ((sget_top _ _ _).trans rfl) lab
    have hr : liftR (⟨⟨⟨n0, n1⟩, ⟨n2, n3⟩, n4, n5, n6⟩, ⟨⟨n7, n8⟩, n9, n10⟩, n11, n12, n13, n14⟩ : Season) day sky = (liftS (⟨⟨⟨n0, n1⟩, ⟨n2, n3⟩, n4, n5, n6⟩, ⟨⟨n7, n8⟩, n9, n10⟩, n11, n12, n13, n14⟩ : Season) day sky, 0) := by simp [liftR, c0, c1, c2]
    rw [hr]
    simp (maxSteps := 1000000) (disch := first | omega | assumption | decide +kernel | (simp; done) | (simp; omega) | fail) [orSlow_none, hd, hd0, hk, hk0, c0, c1, c2, hp, hw]

/-- what Calm answers -/
def calmR (n : Season) (sky : Int) : Int × Int := if seasonOk n = true then (if isSkyS n sky = true then (calmS n sky.toNat, 0) else (0, 1)) else (0, 130)
set_option maxHeartbeats 1000000 in
theorem e_Calm (n0 : Int) (n1 : Int) (n2 : Int) (n3 : Int) (n4 : List Sp) (n5 : List Anc) (n6 : List Wal) (n7 : Int) (n8 : Int) (n9 : List Sp) (n10 : List Boat) (n11 : List Sky) (n12 : List (List Int)) (n13 : List Int) (n14 : List Sp) (hs : Short (⟨⟨⟨n0, n1⟩, ⟨n2, n3⟩, n4, n5, n6⟩, ⟨⟨n7, n8⟩, n9, n10⟩, n11, n12, n13, n14⟩ : Season)) (sky : Int) (lab s) : den T 17 [.agg [i64 n0, i64 n1, i64 n2, i64 n3, .sl .no 2 (es cSp n4), .sl .no 2 (es cAnc n5), .sl .no 5 (es cWal n6), i64 n7, i64 n8, .sl .no 2 (es cSp n9), .sl .no 2 (es cBoat n10), .sl .no 4 (es cSky n11), .sl .no 1 (es cInts n12), .sl .no 1 (es cInt n13), .sl .no 2 (es cSp n14)], i64 sky] lab s = some (.tup [i64 (calmR (⟨⟨⟨n0, n1⟩, ⟨n2, n3⟩, n4, n5, n6⟩, ⟨⟨n7, n8⟩, n9, n10⟩, n11, n12, n13, n14⟩ : Season) sky).1, i64 (calmR (⟨⟨⟨n0, n1⟩, ⟨n2, n3⟩, n4, n5, n6⟩, ⟨⟨n7, n8⟩, n9, n10⟩, n11, n12, n13, n14⟩ : Season) sky).2], s) := by
  have hk := fun lab s => e_isSky13p n0 n1 n2 n3 n4 n5 n6 n7 n8 n9 n10 n11 n12 n13 n14 sky hs.skies lab s
  have hk0 : within sky 0 (n11.length - 1) = isSkyS (⟨⟨⟨n0, n1⟩, ⟨n2, n3⟩, n4, n5, n6⟩, ⟨⟨n7, n8⟩, n9, n10⟩, n11, n12, n13, n14⟩ : Season) sky := rfl
  rw [den_fn t17 _ _ _ rfl]
  simp only [b17]
  cases c0 : seasonOk (⟨⟨⟨n0, n1⟩, ⟨n2, n3⟩, n4, n5, n6⟩, ⟨⟨n7, n8⟩, n9, n10⟩, n11, n12, n13, n14⟩ : Season)
  · have ho := fun b lab loc s => e_open13_bad n0 n1 n2 n3 n4 n5 n6 n7 n8 n9 n10 n11 n12 n13 n14 hs c0 b lab loc s
    simp (disch := first | omega | assumption | decide +kernel | (simp; done) | (simp; omega) | fail) [hk, hk0, c0, ho, calmR]
  · cases c2 : isSkyS (⟨⟨⟨n0, n1⟩, ⟨n2, n3⟩, n4, n5, n6⟩, ⟨⟨n7, n8⟩, n9, n10⟩, n11, n12, n13, n14⟩ : Season) sky
    · have ho := fun lab loc s => e_open13_arg n0 n1 n2 n3 n4 n5 n6 n7 n8 n9 n10 n11 n12 n13 n14 hs c0 lab loc s
      simp (disch := first | omega | assumption | decide +kernel | (simp; done) | (simp; omega) | fail) [hk, hk0, c0, c2, ho, calmR]
    obtain ⟨sky, rfl, hsky⟩ := isSky_nat c2
    obtain ⟨_, _, q3, q4, q5, _, q7, _, _⟩ := seasonOk_iff.1 c0
    simp only at hsky q4
    have hx : ∃ v, (seasonCell (⟨⟨⟨n0, n1⟩, ⟨n2, n3⟩, n4, n5, n6⟩, ⟨⟨n7, n8⟩, n9, n10⟩, n11, n12, n13, n14⟩ : Season))[15 + sky]? = some (i64 v) ∧ v = calmS (⟨⟨⟨n0, n1⟩, ⟨n2, n3⟩, n4, n5, n6⟩, ⟨⟨n7, n8⟩, n9, n10⟩, n11, n12, n13, n14⟩ : Season) sky := by
      obtain rfl | rfl | rfl | rfl : sky = 0 ∨ sky = 1 ∨ sky = 2 ∨ sky = 3 := by omega
      all_goals exact ⟨_, rfl, rfl⟩
    obtain ⟨v, hv, rfl⟩ := hx
    have h4 : sky < 4 := by omega
    have h4i : (sky : Int) < 4 := by omega
    have hv2 : ∀ h, (seasonCell (⟨⟨⟨n0, n1⟩, ⟨n2, n3⟩, n4, n5, n6⟩, ⟨⟨n7, n8⟩, n9, n10⟩, n11, n12, n13, n14⟩ : Season))[15 + sky]'h = i64 (calmS (⟨⟨⟨n0, n1⟩, ⟨n2, n3⟩, n4, n5, n6⟩, ⟨⟨n7, n8⟩, n9, n10⟩, n11, n12, n13, n14⟩ : Season) sky) := fun h => by rw [List.getElem?_eq_getElem h] at hv; exact Option.some.inj hv
    have hsl : (seasonCell (⟨⟨⟨n0, n1⟩, ⟨n2, n3⟩, n4, n5, n6⟩, ⟨⟨n7, n8⟩, n9, n10⟩, n11, n12, n13, n14⟩ : Season)).length = 24 := rfl
    have hp := fun lab loc s k0 => e_open13 n0 n1 n2 n3 n4 n5 n6 n7 n8 n9 n10 n11 n12 n13 n14 hs c0 lab loc s k0
    have hr : calmR (⟨⟨⟨n0, n1⟩, ⟨n2, n3⟩, n4, n5, n6⟩, ⟨⟨n7, n8⟩, n9, n10⟩, n11, n12, n13, n14⟩ : Season) sky = (calmS (⟨⟨⟨n0, n1⟩, ⟨n2, n3⟩, n4, n5, n6⟩, ⟨⟨n7, n8⟩, n9, n10⟩, n11, n12, n13, n14⟩ : Season) sky, 0) := by simp [calmR, c0, c2]
    rw [hr]
    simp (maxSteps := 1000000) (disch := first | omega | assumption | decide +kernel | (simp; done) | (simp; omega) | fail) [orSlow_none, hk, hk0, c0, c2, hp, hv, hv2, h4, h4i, hsl]

/-- what Holds answers -/
def holdsR (n : Season) (day : Int) : Bool × Int := if seasonOk n = true then (if isDayS n day = true then (decide (holdS n day.toNat = 1), 0) else (false, 1)) else (false, 130)
set_option maxHeartbeats 1000000 in
theorem e_Holds (n0 : Int) (n1 : Int) (n2 : Int) (n3 : Int) (n4 : List Sp) (n5 : List Anc) (n6 : List Wal) (n7 : Int) (n8 : Int) (n9 : List Sp) (n10 : List Boat) (n11 : List Sky) (n12 : List (List Int)) (n13 : List Int) (n14 : List Sp) (hs : Short (⟨⟨⟨n0, n1⟩, ⟨n2, n3⟩, n4, n5, n6⟩, ⟨⟨n7, n8⟩, n9, n10⟩, n11, n12, n13, n14⟩ : Season)) (day : Int) (lab s) : den T 22 [.agg [i64 n0, i64 n1, i64 n2, i64 n3, .sl .no 2 (es cSp n4), .sl .no 2 (es cAnc n5), .sl .no 5 (es cWal n6), i64 n7, i64 n8, .sl .no 2 (es cSp n9), .sl .no 2 (es cBoat n10), .sl .no 4 (es cSky n11), .sl .no 1 (es cInts n12), .sl .no 1 (es cInt n13), .sl .no 2 (es cSp n14)], i64 day] lab s = some (.tup [.bool (holdsR (⟨⟨⟨n0, n1⟩, ⟨n2, n3⟩, n4, n5, n6⟩, ⟨⟨n7, n8⟩, n9, n10⟩, n11, n12, n13, n14⟩ : Season) day).1, i64 (holdsR (⟨⟨⟨n0, n1⟩, ⟨n2, n3⟩, n4, n5, n6⟩, ⟨⟨n7, n8⟩, n9, n10⟩, n11, n12, n13, n14⟩ : Season) day).2], s) := by
  have hk := fun lab s => e_isDay13p n0 n1 n2 n3 n4 n5 n6 n7 n8 n9 n10 n11 n12 n13 n14 day hs.days lab s
  have hk0 : within day 0 (n14.length - 1) = isDayS (⟨⟨⟨n0, n1⟩, ⟨n2, n3⟩, n4, n5, n6⟩, ⟨⟨n7, n8⟩, n9, n10⟩, n11, n12, n13, n14⟩ : Season) day := rfl
  rw [den_fn t22 _ _ _ rfl]
  simp only [b22]
  cases c0 : seasonOk (⟨⟨⟨n0, n1⟩, ⟨n2, n3⟩, n4, n5, n6⟩, ⟨⟨n7, n8⟩, n9, n10⟩, n11, n12, n13, n14⟩ : Season)
  · have ho := fun b lab loc s => e_open13_bad n0 n1 n2 n3 n4 n5 n6 n7 n8 n9 n10 n11 n12 n13 n14 hs c0 b lab loc s
    simp (disch := first | omega | assumption | decide +kernel | (simp; done) | (simp; omega) | fail) [hk, hk0, c0, ho, holdsR]
  · cases c2 : isDayS (⟨⟨⟨n0, n1⟩, ⟨n2, n3⟩, n4, n5, n6⟩, ⟨⟨n7, n8⟩, n9, n10⟩, n11, n12, n13, n14⟩ : Season) day
    · have ho := fun lab loc s => e_open13_arg n0 n1 n2 n3 n4 n5 n6 n7 n8 n9 n10 n11 n12 n13 n14 hs c0 lab loc s
      simp (disch := first | omega | assumption | decide +kernel | (simp; done) | (simp; omega) | fail) [hk, hk0, c0, c2, ho, holdsR]
    obtain ⟨day, rfl, hday⟩ := isDay_nat c2
    obtain ⟨_, _, q3, q4, q5, _, q7, _, _⟩ := seasonOk_iff.1 c0
    simp only at hday q7
    have hx : ∃ v, (seasonCell (⟨⟨⟨n0, n1⟩, ⟨n2, n3⟩, n4, n5, n6⟩, ⟨⟨n7, n8⟩, n9, n10⟩, n11, n12, n13, n14⟩ : Season))[19 + day]? = some (i64 v) ∧ v = holdS (⟨⟨⟨n0, n1⟩, ⟨n2, n3⟩, n4, n5, n6⟩, ⟨⟨n7, n8⟩, n9, n10⟩, n11, n12, n13, n14⟩ : Season) day := by
      obtain rfl | rfl | rfl | rfl | rfl : day = 0 ∨ day = 1 ∨ day = 2 ∨ day = 3 ∨ day = 4 := by omega
      all_goals exact ⟨_, rfl, rfl⟩
    obtain ⟨v, hv, rfl⟩ := hx
    have h4 : day < 5 := by omega
    have h4i : (day : Int) < 5 := by omega
    have hv2 : ∀ h, (seasonCell (⟨⟨⟨n0, n1⟩, ⟨n2, n3⟩, n4, n5, n6⟩, ⟨⟨n7, n8⟩, n9, n10⟩, n11, n12, n13, n14⟩ : Season))[19 + day]'h = i64 (holdS (⟨⟨⟨n0, n1⟩, ⟨n2, n3⟩, n4, n5, n6⟩, ⟨⟨n7, n8⟩, n9, n10⟩, n11, n12, n13, n14⟩ : Season) day) := fun h => by rw [List.getElem?_eq_getElem h] at hv; exact Option.some.inj hv
    have hsl : (seasonCell (⟨⟨⟨n0, n1⟩, ⟨n2, n3⟩, n4, n5, n6⟩, ⟨⟨n7, n8⟩, n9, n10⟩, n11, n12, n13, n14⟩ : Season)).length = 24 := rfl
    have hp := fun lab loc s k0 => e_open13 n0 n1 n2 n3 n4 n5 n6 n7 n8 n9 n10 n11 n12 n13 n14 hs c0 lab loc s k0
    have hr : holdsR (⟨⟨⟨n0, n1⟩, ⟨n2, n3⟩, n4, n5, n6⟩, ⟨⟨n7, n8⟩, n9, n10⟩, n11, n12, n13, n14⟩ : Season) day = (decide (holdS (⟨⟨⟨n0, n1⟩, ⟨n2, n3⟩, n4, n5, n6⟩, ⟨⟨n7, n8⟩, n9, n10⟩, n11, n12, n13, n14⟩ : Season) day = 1), 0) := by simp [holdsR, c0, c2]
    rw [hr]
    by_cases c3 : holdS (⟨⟨⟨n0, n1⟩, ⟨n2, n3⟩, n4, n5, n6⟩, ⟨⟨n7, n8⟩, n9, n10⟩, n11, n12, n13, n14⟩ : Season) day = 1
    · simp (maxSteps := 1000000) (disch := first | omega | assumption | decide +kernel | (simp; done) | (simp; omega) | fail) [orSlow_none, hk, hk0, c0, c2, c3, hp, hv, hv2, h4, h4i, hsl]
    · simp (maxSteps := 1000000) (disch := first | omega | assumption | decide +kernel | (simp; done) | (simp; omega) | fail) [orSlow_none, hk, hk0, c0, c2, c3, hp, hv, hv2, h4, h4i, hsl]

/-- what Best answers -/
def bestS (n : Season) : Int := leastL (worthS n n.days.length) n.first
def bestR (n : Season) : Int × Int := if seasonOk n = true then (bestS n, 0) else (0, 130)
set_option maxHeartbeats 1000000 in
theorem e_Best (n0 : Int) (n1 : Int) (n2 : Int) (n3 : Int) (n4 : List Sp) (n5 : List Anc) (n6 : List Wal) (n7 : Int) (n8 : Int) (n9 : List Sp) (n10 : List Boat) (n11 : List Sky) (n12 : List (List Int)) (n13 : List Int) (n14 : List Sp) (hs : Short (⟨⟨⟨n0, n1⟩, ⟨n2, n3⟩, n4, n5, n6⟩, ⟨⟨n7, n8⟩, n9, n10⟩, n11, n12, n13, n14⟩ : Season)) (lab s) : den T 36 [.agg [i64 n0, i64 n1, i64 n2, i64 n3, .sl .no 2 (es cSp n4), .sl .no 2 (es cAnc n5), .sl .no 5 (es cWal n6), i64 n7, i64 n8, .sl .no 2 (es cSp n9), .sl .no 2 (es cBoat n10), .sl .no 4 (es cSky n11), .sl .no 1 (es cInts n12), .sl .no 1 (es cInt n13), .sl .no 2 (es cSp n14)]] lab s = some (.tup [i64 (bestR (⟨⟨⟨n0, n1⟩, ⟨n2, n3⟩, n4, n5, n6⟩, ⟨⟨n7, n8⟩, n9, n10⟩, n11, n12, n13, n14⟩ : Season)).1, i64 (bestR (⟨⟨⟨n0, n1⟩, ⟨n2, n3⟩, n4, n5, n6⟩, ⟨⟨n7, n8⟩, n9, n10⟩, n11, n12, n13, n14⟩ : Season)).2], s) := by
  rw [den_fn t36 _ _ _ rfl]
  simp only [b36]
  cases c0 : seasonOk (⟨⟨⟨n0, n1⟩, ⟨n2, n3⟩, n4, n5, n6⟩, ⟨⟨n7, n8⟩, n9, n10⟩, n11, n12, n13, n14⟩ : Season)
  · have ho := fun b lab loc s => e_open13_bad n0 n1 n2 n3 n4 n5 n6 n7 n8 n9 n10 n11 n12 n13 n14 hs c0 b lab loc s
    simp (disch := first | omega | assumption | decide +kernel | (simp; done) | (simp; omega) | fail) [c0, ho, bestR]
  · have hp := fun lab loc s k0 => e_open13 n0 n1 n2 n3 n4 n5 n6 n7 n8 n9 n10 n11 n12 n13 n14 hs c0 lab loc s k0
    have hf := (first_ok c0).2
    have hw := fun lab => e_least (⟨⟨⟨n0, n1⟩, ⟨n2, n3⟩, n4, n5, n6⟩, ⟨⟨n7, n8⟩, n9, n10⟩, n11, n12, n13, n14⟩ : Season) 0 (worthS (⟨⟨⟨n0, n1⟩, ⟨n2, n3⟩, n4, n5, n6⟩, ⟨⟨n7, n8⟩, n9, n10⟩, n11, n12, n13, n14⟩ : Season) n14.length) n13 hs.first s.length 128 ([(16, .cell [i64 n0, i64 n1, i64 n2, i64 n3, .sl .no 2 (es cSp n4), .sl .no 2 (es cAnc n5), .sl .no 5 (es cWal n6), i64 n7, i64 n8, .sl .no 2 (es cSp n9), .sl .no 2 (es cBoat n10), .sl .no 4 (es cSky n11), .sl .no 1 (es cInts n12), .sl .no 1 (es cInt n13), .sl .no 2 (es cSp n14)]), (128, .cell (seasonCell (⟨⟨⟨n0, n1⟩, ⟨n2, n3⟩, n4, n5, n6⟩, ⟨⟨n7, n8⟩, n9, n10⟩, n11, n12, n13, n14⟩ : Season)))] :: s) (by simp)
      (fun x hx lab => e_worth13 (⟨⟨⟨n0, n1⟩, ⟨n2, n3⟩, n4, n5, n6⟩, ⟨⟨n7, n8⟩, n9, n10⟩, n11, n12, n13, n14⟩ : Season) c0 hs.each s.length 128 n14.length 0 x (by simp only; omega) (hf x hx).1 (hf x hx).2 ([] :: [(16, .cell [i64 n0, i64 n1, i64 n2, i64 n3, .sl .no 2 (es cSp n4), .sl .no 2 (es cAnc n5), .sl .no 5 (es cWal n6), i64 n7, i64 n8, .sl .no 2 (es cSp n9), .sl .no 2 (es cBoat n10), .sl .no 4 (es cSky n11), .sl .no 1 (es cInts n12), .sl .no 1 (es cInt n13), .sl .no 2 (es cSp n14)]), (128, .cell (seasonCell (⟨⟨⟨n0, n1⟩, ⟨n2, n3⟩, n4, n5, n6⟩, ⟨⟨n7, n8⟩, n9, n10⟩, n11, n12, n13, n14⟩ : Season)))] :: s) (by simp; omega) (by rw [sget_cons, if_neg (by simp)]; exact (sget_top _ _ _).trans rfl) lab) lab
    have hr : bestR (⟨⟨⟨n0, n1⟩, ⟨n2, n3⟩, n4, n5, n6⟩, ⟨⟨n7, n8⟩, n9, n10⟩, n11, n12, n13, n14⟩ : Season) = (leastL (worthS (⟨⟨⟨n0, n1⟩, ⟨n2, n3⟩, n4, n5, n6⟩, ⟨⟨n7, n8⟩, n9, n10⟩, n11, n12, n13, n14⟩ : Season) n14.length) n13, 0) := by simp [bestR, bestS, c0]
    rw [hr]
    have hse : (seasonCell (⟨⟨⟨n0, n1⟩, ⟨n2, n3⟩, n4, n5, n6⟩, ⟨⟨n7, n8⟩, n9, n10⟩, n11, n12, n13, n14⟩ : Season))[13]? = some (.sl .no 1 (es cInt n13)) := rfl
    have hsl : (seasonCell (⟨⟨⟨n0, n1⟩, ⟨n2, n3⟩, n4, n5, n6⟩, ⟨⟨n7, n8⟩, n9, n10⟩, n11, n12, n13, n14⟩ : Season)).length = 24 := rfl
    simp only [show ((0 : Nat) : Int) = 0 from rfl] at hw
    simp (maxSteps := 1000000) (disch := first | omega | assumption | decide +kernel | (simp; done) | (simp; omega) | fail) [orSlow_none, c0, hp, hw, hse, hsl]
end Go.Proofs.Ytekgicoibcgecaa

/-
  skies: courses.
-/
namespace Go.Proofs.Ytekgicoibcgecaa
open Go.Ab

/-- all courses of r days more -/
def coursesFrom (n : Season) : Nat → List Int → List Int → List (List Int)
  | 0, c, _ => [c]
  | r + 1, c, nx => nx.flatMap fun (x : Int) => coursesFrom n r (c ++ [x]) (n.follows.getD x.toNat [])

structure Yield13 (n : Season) (σ : Type) (P : σ → Prop) (d l ds ls D : Nat) (St : σ → Stk) (Y : σ → List Int → σ × Bool) : Prop where
  len : ∀ a, (St a).length = D
  lt : ds < D
  ltd : d < D
  sea : ∀ a, sget (St a) ds ls = some (.cell (seasonCell n))
  yield : ∀ (fr : Stk) a c lab, P a → (∀ x : Int, x ∈ c → 0 ≤ x ∧ x < (n.skies.length : Int)) → c.length = n.days.length → denV T (.yld d l) [.sl .no 1 (es cInt c)] lab (fr ++ St a) = some (.bool (Y a c).2, fr ++ St (Y a c).1)
  keep : ∀ a c, P a → (Y a c).2 = true → P (Y a c).1

def coursesFrame (ds ls d l D : Nat) : Ab.Loc := [(32, .cell [.ptr ds ls 0]), (48, .cell [.yld d l]), (64, .cell [.fn 67 [] [.ptr D 32 0, .ptr D 48 0, .ptr D 64 0]])]

theorem foldB_inv {α σ : Type} {P : σ → Prop} {Y : σ → α → σ × Bool} (h : ∀ a c, P a → (Y a c).2 = true → P (Y a c).1) : ∀ (l : List α) (a : σ), P a → (foldB Y l a).2 = true → P (foldB Y l a).1
  | [], _, ha, _ => ha
  | x :: l, a, ha, hb => by
    simp only [foldB] at hb ⊢
    split at hb
    · rename_i h1; rw [if_pos h1]; exact foldB_inv h l _ (h _ _ ha h1) hb
    · rename_i h1; exact absurd hb h1
set_option maxHeartbeats 4000000 in
theorem e_from13 (n : Season) (hok : seasonOk n = true) (hlen : ∀ l ∈ n.follows, l.length < 4611686018427387904) {σ : Type} {P : σ → Prop} {d l ds ls D : Nat} {St : σ → Stk} {Y : σ → List Int → σ × Bool} (y : Yield13 n σ P d l ds ls D St Y) :
    ∀ (r : Nat) (c nx : List Int), c.length + r = n.days.length → nx.length < 4611686018427387904 → (∀ x : Int, x ∈ c → 0 ≤ x ∧ x < (n.skies.length : Int)) → (∀ x : Int, x ∈ nx → 0 ≤ x ∧ x < (n.skies.length : Int)) → ∀ (fr : Stk) (a : σ) (_ : P a) (lab : Nat),
      den T 67 [.sl .no 1 (es cInt c), .sl .no 1 (es cInt nx), .ptr D 32 0, .ptr D 48 0, .ptr D 64 0] lab (fr ++ coursesFrame ds ls d l D :: St a) =
        some (.bool (foldB Y (coursesFrom n r c nx) a).2, fr ++ coursesFrame ds ls d l D :: St (foldB Y (coursesFrom n r c nx) a).1) := by
  obtain ⟨_, _, q3, q4, q5, _, q7, _, _⟩ := seasonOk_iff.1 hok
  -- what the stack holds
  have facts : ∀ (fr : Stk) (a : σ), sget (fr ++ coursesFrame ds ls d l D :: St a) D 32 = some (.cell [.ptr ds ls 0]) ∧ sget (fr ++ coursesFrame ds ls d l D :: St a) D 48 = some (.cell [.yld d l]) ∧
      sget (fr ++ coursesFrame ds ls d l D :: St a) D 64 = some (.cell [.fn 67 [] [.ptr D 32 0, .ptr D 48 0, .ptr D 64 0]]) ∧ sget (fr ++ coursesFrame ds ls d l D :: St a) ds ls = some (.cell (seasonCell n)) ∧
      (¬ D = (fr ++ coursesFrame ds ls d l D :: St a).length) ∧ (¬ ds = (fr ++ coursesFrame ds ls d l D :: St a).length) ∧ (¬ d = (fr ++ coursesFrame ds ls d l D :: St a).length) := by
    intro fr a
    have hl := y.len a
    have hlt := y.lt
    have hltd := y.ltd
    have g : ∀ l', sget (fr ++ coursesFrame ds ls d l D :: St a) D l' = (coursesFrame ds ls d l D).get l' := fun l' => by
      rw [sget_append _ _ _ _ (by simp only [List.length_cons]; omega), ← hl, sget_top]
    refine ⟨by rw [g]; rfl, by rw [g]; rfl, by rw [g]; rfl, ?_, ?_, ?_, ?_⟩
    · rw [show fr ++ coursesFrame ds ls d l D :: St a = (fr ++ [coursesFrame ds ls d l D]) ++ St a by simp, sget_append _ _ _ _ (by omega), y.sea]
    all_goals simp only [List.length_append, List.length_cons]; omega
  intro r
  induction r with
  | zero =>
    intro c nx hr hnx hc hx fr a ha lab
    obtain ⟨h32, h48, h64, hsea, hD, hds, hd⟩ := facts fr a
    have hy := y.yield ([] :: (fr ++ [coursesFrame ds ls d l D])) a c
    simp only [List.cons_append, List.append_assoc, List.nil_append] at hy
    have hy2 := fun lab => hy lab ha hc (by omega)
    have e : foldB Y (coursesFrom n 0 c nx) a = Y a c := by
      simp only [coursesFrom, foldB]
      split
      · rename_i h; exact Prod.ext rfl h.symm
      · rfl
    rw [e]
    generalize fr ++ coursesFrame ds ls d l D :: St a = X at *
    generalize fr ++ coursesFrame ds ls d l D :: St (Y a c).1 = X' at *
    have hcl : (c.length : Int) = n.days.length := by omega
    rw [den_fn t67 _ _ _ rfl]
    simp only [b67]
    simp (disch := first | omega | assumption | decide +kernel | (simp; done) | (simp; omega) | fail) [h32, h48, hsea, hD, hds, hd, hy2, seasonCell, hcl]
  | succ r ih =>
    intro c nx hr hnx hc hx fr a ha lab
    obtain ⟨X, hX⟩ : ∃ X : σ → Stk, ∀ a, fr ++ coursesFrame ds ls d l D :: St a = X a := ⟨_, fun _ => rfl⟩
    have fx : ∀ a, sget (X a) D 32 = some (.cell [.ptr ds ls 0]) ∧ sget (X a) D 48 = some (.cell [.yld d l]) ∧ sget (X a) D 64 = some (.cell [.fn 67 [] [.ptr D 32 0, .ptr D 48 0, .ptr D 64 0]]) ∧ sget (X a) ds ls = some (.cell (seasonCell n)) ∧ (¬ D = (X a).length) ∧ (¬ ds = (X a).length) ∧ (¬ d = (X a).length) := fun a => by
      have := facts fr a; rw [hX] at this; exact this
    rw [hX, hX]
    have hne : ¬ (c.length : Int) = n.days.length := by omega
    -- the loop
    have key := fun a0 (ha0 : P a0) => loop_list_e (T := T) (live := [0, 2, 4, 22, 23, 24]) (keep := [336]) (b := ( .seq ( .region false [ ⟨(some 25), .bin .lss (.t 24) (.t 23), none, [], []⟩] [0, 2, 4, 22, 23, 24, 25]) ( .seq ( .cond (.t 25) ( .skip) ( .exit 0)) ( .seq ( .block 1 ( .seq ( .region false [ ⟨(some 26), .idxs 1 (.t 22) (.t 24), none, [], []⟩, ⟨(some 27), .load none (.t 26), none, [], []⟩, ⟨(some 9), .mv (.t 27), none, [], []⟩] [0, 2, 4, 9, 22, 23, 24]) ( .seq ( .region true (spl [ ⟨(some 28), .load none (.t 4), none, [], []⟩, ⟨(some 29), .mv (.t 0), none, [], []⟩, ⟨(some 30), .mv (.t 0), none, [], []⟩, ⟨(some 31), .len (.t 30), none, [2], []⟩, ⟨(some 32), .mv (.t 0), none, [], []⟩, ⟨(some 33), .len (.t 32), none, [4], []⟩, ⟨(some 34), .slice 1 (.t 29) none (some (.t 31)) (some (.t 33)), none, [1, 3, 5, 2, 4], []⟩, ⟨(some 35), .mv (.t 9), none, [], []⟩, ⟨(some 36), .lit [(i64 0)] 1 [(0, (.t 35))], none, [7], []⟩, ⟨(some 37), .app 1 8 (.t 34) (.t 36), none, [6, 8, 1, 3, 5, 2, 4, 7], []⟩, ⟨(some 38), .load none (.t 2), none, [], []⟩, ⟨(some 39), .nilck (.t 38), none, [10], []⟩, ⟨(some 40), .faddr 0 (.t 39), none, [11, 10], []⟩, ⟨(some 41), .faddr 12 (.t 40), none, [12, 11, 10], []⟩, ⟨(some 42), .load none (.t 41), none, [13, 12, 11, 10], []⟩, ⟨(some 43), .mv (.t 9), none, [], []⟩, ⟨(some 44), .idxs 1 (.t 42) (.t 43), none, [14, 15, 13, 12, 11, 10], []⟩, ⟨(some 45), .load none (.t 44), none, [16, 14, 15, 13, 12, 11, 10], []⟩] [ ⟨(some 46), .callv (.t 28) [(.t 37), (.t 45)], none, [0, 17, 9, 16, 14, 15, 13, 12, 11, 10, 6, 8, 1, 3, 5, 2, 4, 7], []⟩, ⟨(some 47), .un .not (.t 46), none, [18, 0, 17, 9, 16, 14, 15, 13, 12, 11, 10, 6, 8, 1, 3, 5, 2, 4, 7], []⟩]) [0, 2, 4, 22, 23, 24, 47]) ( .cond (.t 47) ( .seq ( .region false [ ⟨(some 7), .mv (.c (.bool false)), none, [], []⟩] [7]) ( .ret)) ( .skip))))) ( .region false [ ⟨(some 48), .bin .add (.t 24) (.c (i64 1)), none, [], []⟩, ⟨(some 24), .mv (.t 48), none, [], []⟩] [0, 2, 4, 22, 23, 24]))))) nx (fun _ (a : σ) => P a)
      (fun k _ => [(0, .sl .no 1 (es cInt c)), (2, .ptr D 32 0), (4, .ptr D 64 0), (22, .sl .no 1 (es cInt nx)), (23, i64 nx.length), (24, i64 k)]) (fun _ a => [] :: X a)
      (fun a (x : Int) => foldB Y (coursesFrom n r (c ++ [x]) (n.follows.getD x.toNat [])) a)
      (fun (g : Ab.Loc) a => (.ret, [(7, .bool false)], g :: X a)) (fun a => (.exit 0, [(0, .sl .no 1 (es cInt c)), (2, .ptr D 32 0), (4, .ptr D 64 0), (22, .sl .no 1 (es cInt nx)), (23, i64 nx.length), (24, i64 nx.length), (25, .bool false)], [] :: X a))
      (by simp) (by simp) ?_ ?_ a0 ha0 [(0, .sl .no 1 (es cInt c)), (2, .ptr D 32 0), (4, .ptr D 64 0), (22, .sl .no 1 (es cInt nx)), (23, i64 nx.length), (24, i64 0)] ([] :: X a0) (by simp [(fx a0).2.2.2.2.1]) (by simp)
    · obtain ⟨g, hg⟩ := key a ha
      change Run T b67l0 _ _ = _ at hg
      have e : foldB Y (coursesFrom n (r + 1) c nx) a = foldB (fun a (x : Int) => foldB Y (coursesFrom n r (c ++ [x]) (n.follows.getD x.toNat [])) a) nx a := by
        rw [coursesFrom, foldB_flatMap]
      rw [e]
      generalize foldB (fun a (x : Int) => foldB Y (coursesFrom n r (c ++ [x]) (n.follows.getD x.toNat [])) a) nx a = q at hg
      obtain ⟨a', bb⟩ := q
      obtain ⟨h32, h48, h64, hsea, hD, hds, hd⟩ := fx a
      rw [den_fn t67 _ _ _ rfl]
      simp only [b67]
      cases bb
      · simp (disch := first | omega | assumption | decide +kernel | (simp; done) | (simp; omega) | fail) [h32, h48, h64, hsea, hD, hds, hd, seasonCell, hne, hg]
      · simp (disch := first | omega | assumption | decide +kernel | (simp; done) | (simp; omega) | fail) [h32, h48, h64, hsea, hD, hds, hd, seasonCell, hne, hg]
    · intro k a hk ha
      obtain ⟨h32, h48, h64, hsea, hD, hds, hd⟩ := fx a
      have hcl : c.length < 10 := by omega
      obtain ⟨hx0, hx1⟩ := hx nx[k] (List.getElem_mem hk)
      obtain ⟨hk2, _, hf⟩ := follows_ok hok (k := nx[k].toNat) (by omega)
      have hfo : n.follows.getD nx[k].toNat [] = n.follows[nx[k].toNat] := by simp [List.getD, hk2]
      rw [hfo]
      have h1 := fun lab => ih (c ++ [nx[k]]) n.follows[nx[k].toNat] (by simp; omega) (hlen _ (List.getElem_mem hk2)) (fun x hx => by
        rcases List.mem_append.1 hx with h | h
        · exact hc x h
        · simp only [List.mem_singleton] at h; subst h; exact ⟨hx0, hx1⟩) hf ([(592, .tok (c.length + 1))] :: fr) a ha lab
      have hkp := foldB_inv y.keep (coursesFrom n r (c ++ [nx[k]]) n.follows[nx[k].toNat]) a ha
      simp only [List.cons_append] at h1
      rw [hX, hX] at h1
      generalize foldB Y (coursesFrom n r (c ++ [nx[k]]) n.follows[nx[k].toNat]) a = q at h1 hkp
      obtain ⟨a', bb⟩ := q
      refine ⟨fun hb => ⟨?_, hkp hb⟩, fun hb => ⟨[(592, .tok (c.length + 1))], ?_⟩⟩
      · simp only at hb
        subst hb
        simp (maxSteps := 1000000) (disch := first | omega | assumption | decide +kernel | (simp; done) | (simp; omega) | fail) [run_drawnK, h32, hsea, seasonCell, hx0, hk2, hD, hds, h64, hk, appD_full1, denV_fn, h1, (fx a').2.2.2.2.1, wk k (by omega)]
      · simp only at hb
        subst hb
        simp (maxSteps := 1000000) (disch := first | omega | assumption | decide +kernel | (simp; done) | (simp; omega) | fail) [run_drawnK, h32, hsea, seasonCell, hx0, hk2, hD, hds, h64, hk, appD_full1, denV_fn, h1, (fx a').2.2.2.2.1]
    · intro a _
      obtain ⟨h32, h48, h64, hsea, hD, hds, hd⟩ := fx a
      simp
theorem e_courses13 (n : Season) (hok : seasonOk n = true) (hlen : ∀ l ∈ n.follows, l.length < 4611686018427387904) (hfl : n.first.length < 4611686018427387904) {σ : Type} {P : σ → Prop} {d l ds ls D : Nat} {St : σ → Stk} {Y : σ → List Int → σ × Bool} (y : Yield13 n σ P d l ds ls D St Y) (a : σ) (ha : P a) (lab) :
    den T 48 [.ptr ds ls 0, .yld d l] lab (St a) = some (.tup [], St (foldB Y (coursesFrom n n.days.length [] n.first) a).1) := by
  have h := fun lab => e_from13 n hok hlen y n.days.length [] n.first (by simp) hfl (by simp) (first_ok hok).2 [] a ha lab
  have hl := y.len a
  have hds : ¬ ds = (St a).length := by have := y.lt; omega
  have hd : ¬ d = (St a).length := by have := y.ltd; omega
  have hsea := y.sea a
  simp only [es_nil, List.nil_append, ← hl, coursesFrame] at h
  rw [den_fn t48 _ _ _ rfl]
  simp only [b48]
  simp (disch := first | omega | assumption | decide +kernel | (simp; done) | (simp; omega) | fail) [denV_fn, h, hds, hd, hsea, seasonCell]
end Go.Proofs.Ytekgicoibcgecaa

/-
  skies: Off, Regret.
-/
namespace Go.Proofs.Ytekgicoibcgecaa
open Go.Ab

theorem coursesFrom_ok {n : Season} (hok : seasonOk n = true) : ∀ (r : Nat) (c nx : List Int), c.length + r = n.days.length → (∀ x : Int, x ∈ c → 0 ≤ x ∧ x < (n.skies.length : Int)) → (∀ x : Int, x ∈ nx → 0 ≤ x ∧ x < (n.skies.length : Int)) →
    ∀ e ∈ coursesFrom n r c nx, e.length = n.days.length ∧ ∀ x : Int, x ∈ e → 0 ≤ x ∧ x < (n.skies.length : Int)
  | 0, c, nx, hr, hc, _, e, he => by
    simp only [coursesFrom, List.mem_singleton] at he
    subst he
    exact ⟨by omega, hc⟩
  | r + 1, c, nx, hr, hc, hx, e, he => by
    simp only [coursesFrom, List.mem_flatMap] at he
    obtain ⟨x, h1, h2⟩ := he
    obtain ⟨hx0, hx1⟩ := hx x h1
    obtain ⟨hk2, _, hf⟩ := follows_ok hok (k := x.toNat) (by omega)
    have hfo : n.follows.getD x.toNat [] = n.follows[x.toNat] := by simp [List.getD, hk2]
    rw [hfo] at h2
    refine coursesFrom_ok hok r (c ++ [x]) _ (by simp; omega) (fun y hy => ?_) hf e h2
    rcases List.mem_append.1 hy with h | h
    · exact hc y h
    · simp only [List.mem_singleton] at h; subst h; exact ⟨hx0, hx1⟩

/-- the first day on which a lift may be -/
def firstMay (n : Season) : Nat → List Int → Option Nat
  | _, [] => none
  | k, x :: c => if mayS n k x.toNat = true then some k else firstMay n (k + 1) c

def season0 (n : Season) : List V := [i64 n.net.wind.lo, i64 n.net.wind.hi, i64 n.net.cur.lo, i64 n.net.cur.hi, .sl .no 2 (es cSp n.net.grips), .sl .no 2 (es cAnc n.net.anch), .sl .no 5 (es cWal n.net.walls), i64 n.sea.weight.lo, i64 n.sea.weight.hi, .sl .no 2 (es cSp n.sea.places), .sl .no 2 (es cBoat n.sea.boats), .sl .no 4 (es cSky n.skies), .sl .no 1 (es cInts n.follows), .sl .no 1 (es cInt n.first), .sl .no 2 (es cSp n.days)]
def offEnv (d : Nat) : Env := [(2, .ptr d 32 0), (3, .ptr d 48 0), (4, .ptr d 64 0), (6, .ptr d 96 0), (24, .fn 48 [.ptr d 192 0] [])]
def offF (n : Season) (d : Nat) (x : LoopState) (p : Option Ex) (a : (Int × Int) × Bool) : Ab.Loc := [(16, .cell (season0 n)), (32, .cell [i64 0, i64 0]), (48, .cell [i64 (if a.2 then 3 else 0)]), (192, .cell (seasonCell n)), (64, .cell [.ptr d 192 0]), (96, .cell [i64 a.1.1, i64 a.1.2]), (6919, .loop [25] b27l1 b27l2 (offEnv d) x p)]
def offY (n : Season) (a : (Int × Int) × Bool) (c : List Int) : ((Int × Int) × Bool) × Bool := match firstMay n 0 c with
  | some k => (((min a.1.1 k, max a.1.2 k), a.2), true)
  | none => ((a.1, true), false)

theorem off_body (n : Season) (hok : seasonOk n = true) (c : List Int) (hc : ∀ x : Int, x ∈ c → 0 ≤ x ∧ x < (n.skies.length : Int)) (hcl : c.length = n.days.length) (d : Nat) (X : (Int × Int) × Bool → Stk) (hd : ∀ a, d < (X a).length)
    (h64 : ∀ a, sget (X a) d 64 = some (.cell [.ptr d 192 0])) (hsea : ∀ a, sget (X a) d 192 = some (.cell (seasonCell n))) (h96 : ∀ a, sget (X a) d 96 = some (.cell [i64 a.1.1, i64 a.1.2]))
    (h32 : ∀ a, sget (X a) d 32 = some (.cell [i64 0, i64 0])) (h48 : ∀ a, sget (X a) d 48 = some (.cell [i64 (if a.2 then 3 else 0)]))
    (p96 : ∀ a lo hi, sput (X a) d 96 (.cell [i64 lo, i64 hi]) = X ((lo, hi), a.2)) (p32 : ∀ a, sput (X a) d 32 (.cell [i64 0, i64 0]) = X a) (p48 : ∀ a, sput (X a) d 48 (.cell [i64 3]) = X (a.1, true)) (a) :
    ∃ e, Run T b27l2 [(2, .ptr d 32 0), (3, .ptr d 48 0), (4, .ptr d 64 0), (6, .ptr d 96 0), (7, .sl .no 1 (es cInt c))] ([] :: X a) = some (if (offY n a c).2 = true then .normal else .ret, e, [] :: X (offY n a c).1) := by
  obtain ⟨_, _, q3, q4, q5, _, q7, _, _⟩ := seasonOk_iff.1 hok
  have hd' : ∀ a, ¬ d = (X a).length := fun a => by have := hd a; omega
  have key := loop_list (T := T) (live := [2, 3, 4, 6, 26, 27, 28]) (keep := [16, 32, 48, 64, 96, 192]) (b := ( .seq ( .region false [ ⟨(some 29), .bin .lss (.t 28) (.t 27), none, [], []⟩] [2, 3, 4, 6, 26, 27, 28, 29]) ( .seq ( .cond (.t 29) ( .skip) ( .exit 2)) ( .seq ( .block 3 ( .seq ( .region false [ ⟨(some 30), .mv (.t 28), none, [], []⟩, ⟨(some 31), .idxs 1 (.t 26) (.t 28), none, [], []⟩, ⟨(some 32), .load none (.t 31), none, [], []⟩, ⟨(some 8), .mv (.t 30), none, [], []⟩, ⟨(some 9), .mv (.t 32), none, [], []⟩] [2, 3, 4, 6, 8, 9, 26, 27, 28]) ( .seq ( .region false [ ⟨(some 33), .load none (.t 4), none, [], []⟩, ⟨(some 34), .mv (.t 8), none, [], []⟩, ⟨(some 35), .mv (.t 9), none, [], []⟩, ⟨(some 36), .call 49 [(.t 33), (.t 34), (.t 35)], none, [], []⟩] [2, 3, 4, 6, 8, 26, 27, 28, 36]) ( .cond (.t 36) ( .seq ( .region false [ ⟨(some 37), .faddr 0 (.t 6), none, [], []⟩, ⟨(some 38), .load none (.t 37), none, [], []⟩, ⟨(some 39), .mv (.t 8), none, [], []⟩, ⟨(some 40), .mm false (.t 38) (.t 39), none, [], []⟩, ⟨(some 41), .faddr 1 (.t 6), none, [], []⟩, ⟨(some 42), .load none (.t 41), none, [], []⟩, ⟨(some 43), .mv (.t 8), none, [], []⟩, ⟨(some 44), .mm true (.t 42) (.t 43), none, [], []⟩, ⟨(some 45), .build [(i64 0), (i64 0)] [(0, 1, (.t 40)), (1, 1, (.t 44))], none, [], []⟩, ⟨none, .store 2 (.t 6) (.t 45), none, [], []⟩] [2, 3, 6]) ( .exit 1)) ( .skip))))) ( .region false [ ⟨(some 46), .bin .add (.t 28) (.c (i64 1)), none, [], []⟩, ⟨(some 28), .mv (.t 46), none, [], []⟩] [2, 3, 4, 6, 26, 27, 28]))))) c (fun k (j : Nat) => j = k)
    (fun k _ => [(2, .ptr d 32 0), (3, .ptr d 48 0), (4, .ptr d 64 0), (6, .ptr d 96 0), (26, .sl .no 1 (es cInt c)), (27, i64 c.length), (28, i64 k)]) (fun _ _ => [] :: X a)
    (fun j x => if mayS n j x.toNat = true then .inr (.exit 1, [(2, .ptr d 32 0), (3, .ptr d 48 0), (6, .ptr d 96 0)], [] :: X ((min a.1.1 j, max a.1.2 j), a.2)) else .inl (j + 1))
    (fun _ => (.exit 2, [(2, .ptr d 32 0), (3, .ptr d 48 0), (4, .ptr d 64 0), (6, .ptr d 96 0), (26, .sl .no 1 (es cInt c)), (27, i64 c.length), (28, i64 c.length), (29, .bool false)], [] :: X a))
    ?_ (fun k j j' hk hj h => by split at h <;> simp_all) (fun k j q hk hj h => by split at h <;> simp_all; rw [← h]; simp) ?_ (by simp) 0 rfl
    [(2, .ptr d 32 0), (3, .ptr d 48 0), (4, .ptr d 64 0), (6, .ptr d 96 0), (26, .sl .no 1 (es cInt c)), (27, i64 c.length), (28, i64 0)] ([] :: X a) (by simp [hd' a]) (by simp)
  · have e : ∀ (l : List Int) (j : Nat), foldS (fun j (x : Int) => if mayS n j x.toNat = true then (.inr (.exit 1, [(2, .ptr d 32 0), (3, .ptr d 48 0), (6, .ptr d 96 0)], [] :: X ((min a.1.1 j, max a.1.2 j), a.2)) : Nat ⊕ (Ex × Env × Stk)) else .inl (j + 1))
        (fun _ => (.exit 2, [(2, .ptr d 32 0), (3, .ptr d 48 0), (4, .ptr d 64 0), (6, .ptr d 96 0), (26, .sl .no 1 (es cInt c)), (27, i64 c.length), (28, i64 c.length), (29, .bool false)], [] :: X a)) l j =
        match firstMay n j l with
        | some k => (.exit 1, [(2, .ptr d 32 0), (3, .ptr d 48 0), (6, .ptr d 96 0)], [] :: X ((min a.1.1 k, max a.1.2 k), a.2))
        | none => (.exit 2, [(2, .ptr d 32 0), (3, .ptr d 48 0), (4, .ptr d 64 0), (6, .ptr d 96 0), (26, .sl .no 1 (es cInt c)), (27, i64 c.length), (28, i64 c.length), (29, .bool false)], [] :: X a) := by
      intro l
      induction l with
      | nil => intro j; rfl
      | cons x l ih =>
        intro j
        simp only [foldS, firstMay]
        by_cases h : mayS n j x.toNat = true
        · simp only [h, if_true]
        · simp only [h, if_false, ih]; rfl
    rw [e] at key
    change Run T b27l0 _ _ = _ at key
    simp only [b27l2]
    cases h : firstMay n 0 c with
    | some k =>
      simp only [h] at key
      have e1 : offY n a c = (((min a.1.1 k, max a.1.2 k), a.2), true) := by simp only [offY, h]
      rw [e1]
      refine ⟨[(2, .ptr d 32 0), (3, .ptr d 48 0), (6, .ptr d 96 0)], ?_⟩
      simp (disch := first | omega | assumption | decide +kernel | (simp; done) | (simp; omega) | fail) [hd', key]
    | none =>
      simp only [h] at key
      have e1 : offY n a c = ((a.1, true), false) := by simp only [offY, h]
      rw [e1]
      refine ⟨[(2, .ptr d 32 0), (3, .ptr d 48 0)], ?_⟩
      simp (disch := first | omega | assumption | decide +kernel | (simp; done) | (simp; omega) | fail) [hd', key, h32, h48, p32, p48]
  · intro k j hk hj
    subst hj
    obtain ⟨h0, h1⟩ := hc c[j] (List.getElem_mem hk)
    have hsk : ((c[j].toNat : Nat) : Int) = c[j] := by omega
    have hm := fun lab => e_may n j c[j].toNat (by omega) (by omega) d 192 ([] :: X a) (by have := hd a; simp; omega) (by rw [sget_cons, if_neg (hd' a), hsea a]) lab
    rw [hsk] at hm
    cases c0 : mayS n j c[j].toNat
    · simp (disch := first | omega | assumption | decide +kernel | (simp; done) | (simp; omega) | fail) [hk, hd', h64, hm, c0, wk j (by omega)]
    · simp (disch := first | omega | assumption | decide +kernel | (simp; done) | (simp; omega) | fail) [hk, hd', h64, h96, p96, hm, c0]
  · intro j hj
    simp [hd' a]

def offSt (n : Season) (S0 : Stk) (a : (Int × Int) × Bool) : Stk := offF n S0.length (if a.2 then .done else .ready) (if a.2 then some .ret else none) a :: S0
theorem off_yield (n : Season) (hok : seasonOk n = true) (S0 : Stk) :
    Yield13 n ((Int × Int) × Bool) (fun a => a.2 = false) S0.length 6919 S0.length 192 (S0.length + 1) (offSt n S0) (offY n) where
  len := fun a => by simp [offSt]
  lt := by omega
  ltd := by omega
  sea := fun a => by rw [offSt, sget_top]; rfl
  keep := fun a c ha hb => by
    simp only [offY] at hb ⊢
    cases h : firstMay n 0 c <;> simp_all
  yield := fun fr a c lab ha hc hcl => by
    have top : ∀ (x : LoopState) p a l', sget (fr ++ offF n S0.length x p a :: S0) S0.length l' = (offF n S0.length x p a).get l' := fun x p a l' => by
      rw [sget_append _ _ _ _ (by simp), sget_top]
    have put : ∀ (x : LoopState) p a l' en, sput (fr ++ offF n S0.length x p a :: S0) S0.length l' en = fr ++ (offF n S0.length x p a).put l' en :: S0 := fun x p a l' en => by
      rw [sput_append _ _ _ _ _ (by simp), sput_top]
    have hlen : ∀ (x : LoopState) p a, S0.length < (fr ++ offF n S0.length x p a :: S0).length := fun x p a => by simp; omega
    obtain ⟨o, b⟩ := a
    simp only at ha
    subst ha
    obtain ⟨e, hB⟩ := off_body n hok c hc hcl S0.length (fun a => fr ++ offF n S0.length .busy none a :: S0) (fun a => hlen _ _ _) (fun a => by rw [top]; rfl) (fun a => by rw [top]; rfl) (fun a => by rw [top]; rfl) (fun a => by rw [top]; rfl) (fun a => by rw [top]; rfl)
      (fun a lo hi => by rw [put]; rfl) (fun a => by rw [put]; rfl) (fun a => by rw [put]; rfl) (o, false)
    change denV T _ _ lab (fr ++ offF n S0.length .ready none (o, false) :: S0) = _
    refine (yld_run (ps := [25]) (A := b27l1) (B := b27l2) (env := offEnv S0.length) (ex := if (offY n (o, false) c).2 = true then .normal else .ret) (st := .busy) (p := none) (s3 := fr ++ offF n S0.length .busy none (offY n (o, false) c).1 :: S0) (by rw [top]; rfl) rfl
      (e1 := [(2, .ptr S0.length 32 0), (3, .ptr S0.length 48 0), (4, .ptr S0.length 64 0), (6, .ptr S0.length 96 0), (7, .sl .no 1 (es cInt c))]) (fr1 := []) ?_ (hlen _ _ _) (e2 := e) (fr2 := []) ?_ (by rw [top]; rfl)).trans ?_
    · simp [b27l1, offEnv, bindEnv]
    · rw [put]; exact hB
    · rw [put]
      cases h : firstMay n 0 c with
      | some k =>
        have e1 : offY n (o, false) c = (((min o.1 k, max o.2 k), false), true) := by simp only [offY, h]
        rw [e1]; rfl
      | none =>
        have e1 : offY n (o, false) c = ((o, true), false) := by simp only [offY, h]
        rw [e1]; rfl

def offQ (n : Season) : ((Int × Int) × Bool) × Bool := foldB (offY n) (coursesFrom n n.days.length [] n.first) (((n.days.length : Int), -1), false)
/-- what Off answers -/
def offR (n : Season) : (Int × Int) × Int := if seasonOk n = true then (if (offQ n).2 = true then ((offQ n).1.1, 0) else ((0, 0), 3)) else ((0, 0), 130)
theorem offQ_keep (n : Season) : ∀ (l : List (List Int)) (a : (Int × Int) × Bool), a.2 = false → (foldB (offY n) l a).1.2 = !(foldB (offY n) l a).2
  | [], a, h => by simp [foldB, h]
  | c :: l, a, h => by
    cases h1 : firstMay n 0 c with
    | some k =>
      have e : offY n a c = (((min a.1.1 k, max a.1.2 k), a.2), true) := by simp only [offY, h1]
      simp only [foldB, e, if_true]
      exact offQ_keep n l _ h
    | none =>
      have e : offY n a c = ((a.1, true), false) := by simp only [offY, h1]
      simp [foldB, e]
set_option maxHeartbeats 1000000 in
theorem e_Off (n0 : Int) (n1 : Int) (n2 : Int) (n3 : Int) (n4 : List Sp) (n5 : List Anc) (n6 : List Wal) (n7 : Int) (n8 : Int) (n9 : List Sp) (n10 : List Boat) (n11 : List Sky) (n12 : List (List Int)) (n13 : List Int) (n14 : List Sp) (hs : Short (⟨⟨⟨n0, n1⟩, ⟨n2, n3⟩, n4, n5, n6⟩, ⟨⟨n7, n8⟩, n9, n10⟩, n11, n12, n13, n14⟩ : Season)) (lab s) : den T 27 [.agg [i64 n0, i64 n1, i64 n2, i64 n3, .sl .no 2 (es cSp n4), .sl .no 2 (es cAnc n5), .sl .no 5 (es cWal n6), i64 n7, i64 n8, .sl .no 2 (es cSp n9), .sl .no 2 (es cBoat n10), .sl .no 4 (es cSky n11), .sl .no 1 (es cInts n12), .sl .no 1 (es cInt n13), .sl .no 2 (es cSp n14)]] lab s = some (.tup [.agg [i64 (offR (⟨⟨⟨n0, n1⟩, ⟨n2, n3⟩, n4, n5, n6⟩, ⟨⟨n7, n8⟩, n9, n10⟩, n11, n12, n13, n14⟩ : Season)).1.1, i64 (offR (⟨⟨⟨n0, n1⟩, ⟨n2, n3⟩, n4, n5, n6⟩, ⟨⟨n7, n8⟩, n9, n10⟩, n11, n12, n13, n14⟩ : Season)).1.2], i64 (offR (⟨⟨⟨n0, n1⟩, ⟨n2, n3⟩, n4, n5, n6⟩, ⟨⟨n7, n8⟩, n9, n10⟩, n11, n12, n13, n14⟩ : Season)).2], s) := by
  rw [den_fn t27 _ _ _ rfl]
  simp only [b27]
  cases c0 : seasonOk (⟨⟨⟨n0, n1⟩, ⟨n2, n3⟩, n4, n5, n6⟩, ⟨⟨n7, n8⟩, n9, n10⟩, n11, n12, n13, n14⟩ : Season)
  · have ho := fun b lab loc s => e_open13_bad n0 n1 n2 n3 n4 n5 n6 n7 n8 n9 n10 n11 n12 n13 n14 hs c0 b lab loc s
    simp (disch := first | omega | assumption | decide +kernel | (simp; done) | (simp; omega) | fail) [c0, ho, offR]
  · have hp := fun lab loc s k0 => e_open13 n0 n1 n2 n3 n4 n5 n6 n7 n8 n9 n10 n11 n12 n13 n14 hs c0 lab loc s k0
    have h := fun lab => e_courses13 (⟨⟨⟨n0, n1⟩, ⟨n2, n3⟩, n4, n5, n6⟩, ⟨⟨n7, n8⟩, n9, n10⟩, n11, n12, n13, n14⟩ : Season) c0 hs.each hs.first (off_yield (⟨⟨⟨n0, n1⟩, ⟨n2, n3⟩, n4, n5, n6⟩, ⟨⟨n7, n8⟩, n9, n10⟩, n11, n12, n13, n14⟩ : Season) c0 s) (((n14.length : Int), -1), false) rfl lab
    have hk := offQ_keep (⟨⟨⟨n0, n1⟩, ⟨n2, n3⟩, n4, n5, n6⟩, ⟨⟨n7, n8⟩, n9, n10⟩, n11, n12, n13, n14⟩ : Season) (coursesFrom (⟨⟨⟨n0, n1⟩, ⟨n2, n3⟩, n4, n5, n6⟩, ⟨⟨n7, n8⟩, n9, n10⟩, n11, n12, n13, n14⟩ : Season) n14.length [] n13) (((n14.length : Int), -1), false) rfl
    have hr : offR (⟨⟨⟨n0, n1⟩, ⟨n2, n3⟩, n4, n5, n6⟩, ⟨⟨n7, n8⟩, n9, n10⟩, n11, n12, n13, n14⟩ : Season) = if (offQ (⟨⟨⟨n0, n1⟩, ⟨n2, n3⟩, n4, n5, n6⟩, ⟨⟨n7, n8⟩, n9, n10⟩, n11, n12, n13, n14⟩ : Season)).2 = true then ((offQ (⟨⟨⟨n0, n1⟩, ⟨n2, n3⟩, n4, n5, n6⟩, ⟨⟨n7, n8⟩, n9, n10⟩, n11, n12, n13, n14⟩ : Season)).1.1, 0) else ((0, 0), 3) := by rw [offR, if_pos c0]
    rw [hr]
    change (offQ (⟨⟨⟨n0, n1⟩, ⟨n2, n3⟩, n4, n5, n6⟩, ⟨⟨n7, n8⟩, n9, n10⟩, n11, n12, n13, n14⟩ : Season)).1.2 = !(offQ (⟨⟨⟨n0, n1⟩, ⟨n2, n3⟩, n4, n5, n6⟩, ⟨⟨n7, n8⟩, n9, n10⟩, n11, n12, n13, n14⟩ : Season)).2 at hk
    change ∀ lab, den T _ _ lab _ = some (_, offSt _ s (offQ (⟨⟨⟨n0, n1⟩, ⟨n2, n3⟩, n4, n5, n6⟩, ⟨⟨n7, n8⟩, n9, n10⟩, n11, n12, n13, n14⟩ : Season)).1) at h
    generalize offQ (⟨⟨⟨n0, n1⟩, ⟨n2, n3⟩, n4, n5, n6⟩, ⟨⟨n7, n8⟩, n9, n10⟩, n11, n12, n13, n14⟩ : Season) = q at h hk
    obtain ⟨⟨⟨lo, hi⟩, b1⟩, b2⟩ := q
    simp only at hk
    subst hk
    simp only [offSt, offF, offEnv, season0, Bool.false_eq_true, if_false] at h
    cases b2
    · simp (maxSteps := 1000000) (disch := first | omega | assumption | decide +kernel | (simp; done) | (simp; omega) | fail) [run_drawnK, hp, h]
    · simp (maxSteps := 1000000) (disch := first | omega | assumption | decide +kernel | (simp; done) | (simp; omega) | fail) [run_drawnK, hp, h]
end Go.Proofs.Ytekgicoibcgecaa

/-
  skies: brings, Regret.
-/
namespace Go.Proofs.Ytekgicoibcgecaa
open Go.Ab

theorem days_ok {n : Season} (h : seasonOk n = true) {k : Nat} (hk : k < n.days.length) : 0 ≤ n.days[k].lo ∧ n.days[k].lo ≤ n.days[k].hi ∧ n.days[k].hi ≤ 2000 := by
  have h9 := (seasonOk_iff.1 h).2.2.2.2.2.2.2.2
  have := allB_iff.1 h9 _ (List.getElem_mem hk)
  simp only [spanOk, Bool.and_eq_true, within_iff] at this
  omega

def firstLift (n : Season) : Nat → List Int → Option Nat
  | _, [] => none
  | k, x :: c => if liftS n k x = true then some k else firstLift n (k + 1) c
/-- what the rule brings -/
def bringsS (n : Season) (c : List Int) : Int := match firstLift n 0 c with
  | some k => dayLo n k
  | none => 0
theorem firstLift_lt (n : Season) : ∀ (l : List Int) (k j : Nat), firstLift n k l = some j → k ≤ j ∧ j < k + l.length
  | [], _, _, h => by cases h
  | x :: l, k, j, h => by
    simp only [firstLift] at h
    split at h
    · cases h; simp
    · have := firstLift_lt n l (k + 1) j h; simp only [List.length_cons]; omega
theorem firstMay_lt (n : Season) : ∀ (l : List Int) (k j : Nat), firstMay n k l = some j → k ≤ j ∧ j < k + l.length
  | [], _, _, h => by cases h
  | x :: l, k, j, h => by
    simp only [firstMay] at h
    split at h
    · cases h; simp
    · have := firstMay_lt n l (k + 1) j h; simp only [List.length_cons]; omega
theorem brings_ok {n : Season} (hok : seasonOk n = true) {c : List Int} (hcl : c.length ≤ n.days.length) : 0 ≤ bringsS n c ∧ bringsS n c ≤ 2000 := by
  unfold bringsS
  split
  · rename_i k h
    have := (firstLift_lt n c 0 k h).2
    have h1 := days_ok hok (k := k) (by omega)
    have e : dayLo n k = n.days[k].lo := by simp [dayLo, show k < n.days.length by omega]
    omega
  · omega

theorem e_brings13 (n : Season) (hok : seasonOk n = true) (hlen : ∀ l ∈ n.follows, l.length < 4611686018427387904) (c : List Int) (hc : ∀ x : Int, x ∈ c → 0 ≤ x ∧ x < (n.skies.length : Int)) (hcl : c.length ≤ n.days.length) (d l : Nat) (S : Stk) (hd : d < S.length) (h : sget S d l = some (.cell (seasonCell n))) (lab) :
    den T 62 [.ptr d l 0, .sl .no 1 (es cInt c)] lab S = some (i64 (bringsS n c), S) := by
  obtain ⟨_, _, q3, q4, q5, _, q7, _, _⟩ := seasonOk_iff.1 hok
  have hd' : ¬ d = S.length := by omega
  have key := loop_list (T := T) (live := [0, 7, 8, 9]) (keep := []) (b := ( .seq ( .region false [ ⟨(some 10), .bin .lss (.t 9) (.t 8), none, [], []⟩] [0, 7, 8, 9, 10]) ( .seq ( .cond (.t 10) ( .skip) ( .exit 0)) ( .seq ( .block 1 ( .seq ( .region false [ ⟨(some 11), .mv (.t 9), none, [], []⟩, ⟨(some 12), .idxs 1 (.t 7) (.t 9), none, [], []⟩, ⟨(some 13), .load none (.t 12), none, [], []⟩, ⟨(some 5), .mv (.t 11), none, [], []⟩, ⟨(some 6), .mv (.t 13), none, [], []⟩] [0, 5, 6, 7, 8, 9]) ( .seq ( .region false [ ⟨(some 14), .mv (.t 0), none, [], []⟩, ⟨(some 15), .mv (.t 5), none, [], []⟩, ⟨(some 16), .mv (.t 6), none, [], []⟩, ⟨(some 17), .call 51 [(.t 14), (.t 15), (.t 16)], none, [], []⟩] [0, 5, 7, 8, 9, 17]) ( .cond (.t 17) ( .seq ( .region false [ ⟨(some 18), .mv (.t 0), none, [], []⟩, ⟨(some 19), .nilck (.t 18), none, [], []⟩, ⟨(some 20), .faddr 0 (.t 19), none, [], []⟩, ⟨(some 21), .faddr 14 (.t 20), none, [], []⟩, ⟨(some 22), .load none (.t 21), none, [], []⟩, ⟨(some 23), .mv (.t 5), none, [], []⟩, ⟨(some 24), .idxs 2 (.t 22) (.t 23), none, [], []⟩, ⟨(some 25), .faddr 0 (.t 24), none, [], []⟩, ⟨(some 26), .load none (.t 25), none, [], []⟩, ⟨(some 4), .mv (.t 26), none, [], []⟩] [4]) ( .ret)) ( .skip))))) ( .region false [ ⟨(some 27), .bin .add (.t 9) (.c (i64 1)), none, [], []⟩, ⟨(some 9), .mv (.t 27), none, [], []⟩] [0, 7, 8, 9]))))) c (fun k (j : Nat) => j = k)
    (fun k _ => [(0, .ptr d l 0), (7, .sl .no 1 (es cInt c)), (8, i64 c.length), (9, i64 k)]) (fun _ _ => [] :: S)
    (fun j x => if liftS n j x = true then .inr (.ret, [(4, i64 (dayLo n j))], [] :: S) else .inl (j + 1))
    (fun _ => (.exit 0, [(0, .ptr d l 0), (7, .sl .no 1 (es cInt c)), (8, i64 c.length), (9, i64 c.length), (10, .bool false)], [] :: S))
    ?_ (fun k j j' hk hj h => by split at h <;> simp_all) (fun k j q hk hj h => by split at h <;> simp_all; rw [← h]; simp) ?_ (by simp) 0 rfl
    [(0, .ptr d l 0), (7, .sl .no 1 (es cInt c)), (8, i64 c.length), (9, i64 0)] ([] :: S) (by simp [hd']) (by simp)
  · have e : ∀ (l' : List Int) (j : Nat), foldS (fun j (x : Int) => if liftS n j x = true then (.inr (.ret, [(4, i64 (dayLo n j))], [] :: S) : Nat ⊕ (Ex × Env × Stk)) else .inl (j + 1))
        (fun _ => (.exit 0, [(0, .ptr d l 0), (7, .sl .no 1 (es cInt c)), (8, i64 c.length), (9, i64 c.length), (10, .bool false)], [] :: S)) l' j =
        match firstLift n j l' with
        | some k => (.ret, [(4, i64 (dayLo n k))], [] :: S)
        | none => (.exit 0, [(0, .ptr d l 0), (7, .sl .no 1 (es cInt c)), (8, i64 c.length), (9, i64 c.length), (10, .bool false)], [] :: S) := by
      intro l'
      induction l' with
      | nil => intro j; rfl
      | cons x l' ih =>
        intro j
        simp only [foldS, firstLift]
        by_cases h : liftS n j x = true
        · simp only [h, if_true]
        · simp only [h, if_false, ih]; rfl
    rw [e] at key
    change Run T b62l0 _ _ = _ at key
    rw [den_fn t62 _ _ _ rfl]
    simp only [b62]
    cases h2 : firstLift n 0 c with
    | some k =>
      simp only [h2] at key
      have e1 : bringsS n c = dayLo n k := by simp only [bringsS, h2]
      rw [e1]
      simp (disch := first | omega | assumption | decide +kernel | (simp; done) | (simp; omega) | fail) [hd', key]
    | none =>
      simp only [h2] at key
      have e1 : bringsS n c = 0 := by simp only [bringsS, h2]
      rw [e1]
      simp (disch := first | omega | assumption | decide +kernel | (simp; done) | (simp; omega) | fail) [hd', key]
  · intro k j hk hj
    subst hj
    obtain ⟨h0, h1⟩ := hc c[j] (List.getElem_mem hk)
    have hj : j < n.days.length := by omega
    have hlo : dayLo n j = n.days[j].lo := by simp [dayLo, hj]
    have hm := fun lab => e_lift13 n hok hlen j hj c[j] h0 h1 d l ([] :: S) (by simp; omega) (by rw [sget_cons, if_neg hd', h]) lab
    cases c0 : liftS n j c[j]
    · simp (disch := first | omega | assumption | decide +kernel | (simp; done) | (simp; omega) | fail) [hk, hd', h, hm, c0, wk j (by omega)]
    · simp (disch := first | omega | assumption | decide +kernel | (simp; done) | (simp; omega) | fail) [hk, hd', h, hm, c0, hlo, hj, seasonCell]
  · intro j hj
    simp [hd']

def regretL (n : Season) (b : Int) : Nat → Int → List Int → Int
  | _, a, [] => a
  | k, a, x :: c => regretL n b (k + 1) (if mayS n k x.toNat = true then max a (dayLo n k - b) else a) c
def regretY (n : Season) (a : Int) (c : List Int) : Int := regretL n (bringsS n c) 0 a c

def regEnv (d : Nat) : Env := [(1, .ptr d 16 0), (4, .ptr d 64 0), (6, .ptr d 96 0), (20, .fn 48 [.ptr d 208 0] [])]
def regF (n : Season) (d : Nat) (x : LoopState) (a : Int) : Ab.Loc := [(16, .cell (season0 n)), (208, .cell (seasonCell n)), (64, .cell [.ptr d 208 0]), (96, .cell [i64 a]), (9479, .loop [21] b37l1 b37l2 (regEnv d) x none)]

theorem regret_body (n : Season) (hok : seasonOk n = true) (hlen : ∀ l ∈ n.follows, l.length < 4611686018427387904) (c : List Int) (hc : ∀ x : Int, x ∈ c → 0 ≤ x ∧ x < (n.skies.length : Int)) (hcl : c.length = n.days.length) (d : Nat) (X : Int → Stk) (hd : ∀ a, d < (X a).length)
    (h16 : ∀ a, sget (X a) d 16 = some (.cell (season0 n))) (h64 : ∀ a, sget (X a) d 64 = some (.cell [.ptr d 208 0])) (hsea : ∀ a, sget (X a) d 208 = some (.cell (seasonCell n))) (h96 : ∀ a, sget (X a) d 96 = some (.cell [i64 a]))
    (p96 : ∀ a m, sput (X a) d 96 (.cell [i64 m]) = X m) (a : Int) :
    ∃ e, Run T b37l2 [(1, .ptr d 16 0), (4, .ptr d 64 0), (6, .ptr d 96 0), (7, .sl .no 1 (es cInt c))] ([] :: X a) = some (.normal, e, [] :: X (regretY n a c)) := by
  obtain ⟨_, _, q3, q4, q5, _, q7, _, _⟩ := seasonOk_iff.1 hok
  have hd' : ∀ a, ¬ d = (X a).length := fun a => by have := hd a; omega
  have hb := fun lab => e_brings13 n hok hlen c hc (by omega) d 208 ([] :: X a) (by have := hd a; simp; omega) (by rw [sget_cons, if_neg (hd' a), hsea a]) lab
  obtain ⟨hb0, hb1⟩ := brings_ok hok (c := c) (by omega)
  unfold regretY
  generalize bringsS n c = b at hb hb0 hb1
  have key := loop_fold (T := T) (live := [1, 4, 6, 8, 25, 26, 27]) (keep := [16, 64, 96, 208, 384]) (b := ( .seq ( .region false [ ⟨(some 28), .bin .lss (.t 27) (.t 26), none, [], []⟩] [1, 4, 6, 8, 25, 26, 27, 28]) ( .seq ( .cond (.t 28) ( .skip) ( .exit 2)) ( .seq ( .block 3 ( .seq ( .region false [ ⟨(some 29), .mv (.t 27), none, [], []⟩, ⟨(some 30), .idxs 1 (.t 25) (.t 27), none, [], []⟩, ⟨(some 31), .load none (.t 30), none, [], []⟩, ⟨(some 9), .mv (.t 29), none, [], []⟩, ⟨(some 10), .mv (.t 31), none, [], []⟩] [1, 4, 6, 8, 9, 10, 25, 26, 27]) ( .seq ( .region false [ ⟨(some 32), .load none (.t 4), none, [], []⟩, ⟨(some 33), .mv (.t 9), none, [], []⟩, ⟨(some 34), .mv (.t 10), none, [], []⟩, ⟨(some 35), .call 49 [(.t 32), (.t 33), (.t 34)], none, [], []⟩] [1, 4, 6, 8, 9, 25, 26, 27, 35]) ( .cond (.t 35) ( .region true (spl [ ⟨(some 36), .load none (.t 6), none, [], []⟩, ⟨(some 37), .faddr 14 (.t 1), none, [], []⟩, ⟨(some 38), .load none (.t 37), none, [1], []⟩, ⟨(some 39), .mv (.t 9), none, [], []⟩, ⟨(some 40), .idxs 2 (.t 38) (.t 39), none, [2, 3, 1], []⟩, ⟨(some 41), .faddr 0 (.t 40), none, [4, 2, 3, 1], []⟩, ⟨(some 42), .load none (.t 41), none, [5, 4, 2, 3, 1], []⟩, ⟨(some 43), .mv (.t 8), none, [], []⟩, ⟨(some 44), .bin .sub (.t 42) (.t 43), none, [6, 7, 5, 4, 2, 3, 1], []⟩] [ ⟨(some 45), .mm true (.t 36) (.t 44), none, [0, 8, 6, 7, 5, 4, 2, 3, 1], []⟩, ⟨none, .store 1 (.t 6) (.t 45), none, [9, 0, 8, 6, 7, 5, 4, 2, 3, 1], []⟩]) [1, 4, 6, 8, 25, 26, 27]) ( .skip))))) ( .region false [ ⟨(some 46), .bin .add (.t 27) (.c (i64 1)), none, [], []⟩, ⟨(some 27), .mv (.t 46), none, [], []⟩] [1, 4, 6, 8, 25, 26, 27]))))) c (fun k (a : Nat × Int) => a.1 = k) (fun a x => (a.1 + 1, if mayS n a.1 x.toNat = true then max a.2 (dayLo n a.1 - b) else a.2))
    (fun k _ => [(1, .ptr d 16 0), (4, .ptr d 64 0), (6, .ptr d 96 0), (8, i64 b), (25, .sl .no 1 (es cInt c)), (26, i64 c.length), (27, i64 k)]) (fun _ a => [] :: X a.2)
    (fun a => (.exit 2, [(1, .ptr d 16 0), (4, .ptr d 64 0), (6, .ptr d 96 0), (8, i64 b), (25, .sl .no 1 (es cInt c)), (26, i64 c.length), (27, i64 c.length), (28, .bool false)], [] :: X a.2))
    (by simp) ?_ (fun k a hk hi => by simp only at hi ⊢; rw [hi]) ?_ (0, a) rfl [(1, .ptr d 16 0), (4, .ptr d 64 0), (6, .ptr d 96 0), (8, i64 b), (25, .sl .no 1 (es cInt c)), (26, i64 c.length), (27, i64 0)] ([] :: X a) (by simp [hd' a]) (by simp)
  · have e : ∀ (l : List Int) (j : Nat) (a : Int), (l.foldl (fun (a : Nat × Int) (x : Int) => (a.1 + 1, if mayS n a.1 x.toNat = true then max a.2 (dayLo n a.1 - b) else a.2)) (j, a)).2 = regretL n b j a l := by
      intro l
      induction l with
      | nil => intro j a; rfl
      | cons x l ih => intro j a; simp only [List.foldl_cons, regretL, ih]
    simp only [e] at key
    change Run T b37l0 _ _ = _ at key
    simp only [b37l2]
    refine ⟨[(1, .ptr d 16 0), (4, .ptr d 64 0), (6, .ptr d 96 0), (8, i64 b), (25, .sl .no 1 (es cInt c)), (26, i64 c.length), (27, i64 c.length), (28, .bool false)], ?_⟩
    simp (disch := first | omega | assumption | decide +kernel | (simp; done) | (simp; omega) | fail) [hd', h64, hb, key]
  · intro k a hk hi
    obtain ⟨j, a⟩ := a
    simp only at hi
    subst hi
    obtain ⟨h0, h1⟩ := hc c[j] (List.getElem_mem hk)
    have hj : j < n.days.length := by omega
    have hlo : dayLo n j = n.days[j].lo := by simp [dayLo, hj]
    have hdo := days_ok hok hj
    have hsk : ((c[j].toNat : Nat) : Int) = c[j] := by omega
    have hm := fun lab => e_may n j c[j].toNat (by omega) (by omega) d 208 ([] :: X a) (by have := hd a; simp; omega) (by rw [sget_cons, if_neg (hd' a), hsea a]) lab
    rw [hsk] at hm
    cases c0 : mayS n j c[j].toNat
    · simp (disch := first | omega | assumption | decide +kernel | (simp; done) | (simp; omega) | fail) [hk, hd', h64, hm, c0, wk j (by omega)]
    · simp (maxSteps := 1000000) (disch := first | omega | assumption | decide +kernel | (simp; done) | (simp; omega) | fail) [run_drawnK, hk, hd', h64, h96, h16, season0, p96, hm, c0, hlo, hj, wi, wk j (by omega)]
  · intro a hi
    simp [hd' a.2]

def regSt (n : Season) (S0 : Stk) (a : Int) : Stk := regF n S0.length .ready a :: S0
theorem regret_yield (n : Season) (hok : seasonOk n = true) (hlen : ∀ l ∈ n.follows, l.length < 4611686018427387904) (S0 : Stk) :
    Yield13 n Int (fun _ => True) S0.length 9479 S0.length 208 (S0.length + 1) (regSt n S0) (fun a c => (regretY n a c, true)) where
  len := fun a => by simp [regSt]
  lt := by omega
  ltd := by omega
  sea := fun a => by rw [regSt, sget_top]; rfl
  keep := fun a c ha hb => trivial
  yield := fun fr a c lab ha hc hcl => by
    have top : ∀ (x : LoopState) a l', sget (fr ++ regF n S0.length x a :: S0) S0.length l' = (regF n S0.length x a).get l' := fun x a l' => by
      rw [sget_append _ _ _ _ (by simp), sget_top]
    have put : ∀ (x : LoopState) a l' en, sput (fr ++ regF n S0.length x a :: S0) S0.length l' en = fr ++ (regF n S0.length x a).put l' en :: S0 := fun x a l' en => by
      rw [sput_append _ _ _ _ _ (by simp), sput_top]
    have hl : ∀ (x : LoopState) a, S0.length < (fr ++ regF n S0.length x a :: S0).length := fun x a => by simp; omega
    obtain ⟨e, hB⟩ := regret_body n hok hlen c hc hcl S0.length (fun a => fr ++ regF n S0.length .busy a :: S0) (fun a => hl _ _) (fun a => by rw [top]; rfl) (fun a => by rw [top]; rfl) (fun a => by rw [top]; rfl) (fun a => by rw [top]; rfl)
      (fun a m => by rw [put]; rfl) a
    change denV T _ _ lab (fr ++ regF n S0.length .ready a :: S0) = _
    refine (yld_run (ps := [21]) (A := b37l1) (B := b37l2) (env := regEnv S0.length) (ex := .normal) (st := .busy) (p := none) (s3 := fr ++ regF n S0.length .busy (regretY n a c) :: S0) (by rw [top]; rfl) rfl
      (e1 := [(1, .ptr S0.length 16 0), (4, .ptr S0.length 64 0), (6, .ptr S0.length 96 0), (7, .sl .no 1 (es cInt c))]) (fr1 := []) ?_ (hl _ _) (e2 := e) (fr2 := []) ?_ (by rw [top]; rfl)).trans ?_
    · simp [b37l1, regEnv, bindEnv]
    · rw [put]; exact hB
    · rw [put]; rfl

def regretS (n : Season) : Int := (coursesFrom n n.days.length [] n.first).foldl (regretY n) 0
/-- what Regret answers -/
def regretR (n : Season) : Int × Int := if seasonOk n = true then (regretS n, 0) else (0, 130)
set_option maxHeartbeats 1000000 in
theorem e_Regret (n0 : Int) (n1 : Int) (n2 : Int) (n3 : Int) (n4 : List Sp) (n5 : List Anc) (n6 : List Wal) (n7 : Int) (n8 : Int) (n9 : List Sp) (n10 : List Boat) (n11 : List Sky) (n12 : List (List Int)) (n13 : List Int) (n14 : List Sp) (hs : Short (⟨⟨⟨n0, n1⟩, ⟨n2, n3⟩, n4, n5, n6⟩, ⟨⟨n7, n8⟩, n9, n10⟩, n11, n12, n13, n14⟩ : Season)) (lab s) : den T 37 [.agg [i64 n0, i64 n1, i64 n2, i64 n3, .sl .no 2 (es cSp n4), .sl .no 2 (es cAnc n5), .sl .no 5 (es cWal n6), i64 n7, i64 n8, .sl .no 2 (es cSp n9), .sl .no 2 (es cBoat n10), .sl .no 4 (es cSky n11), .sl .no 1 (es cInts n12), .sl .no 1 (es cInt n13), .sl .no 2 (es cSp n14)]] lab s = some (.tup [i64 (regretR (⟨⟨⟨n0, n1⟩, ⟨n2, n3⟩, n4, n5, n6⟩, ⟨⟨n7, n8⟩, n9, n10⟩, n11, n12, n13, n14⟩ : Season)).1, i64 (regretR (⟨⟨⟨n0, n1⟩, ⟨n2, n3⟩, n4, n5, n6⟩, ⟨⟨n7, n8⟩, n9, n10⟩, n11, n12, n13, n14⟩ : Season)).2], s) := by
  rw [den_fn t37 _ _ _ rfl]
  simp only [b37]
  cases c0 : seasonOk (⟨⟨⟨n0, n1⟩, ⟨n2, n3⟩, n4, n5, n6⟩, ⟨⟨n7, n8⟩, n9, n10⟩, n11, n12, n13, n14⟩ : Season)
  · have ho := fun b lab loc s => e_open13_bad n0 n1 n2 n3 n4 n5 n6 n7 n8 n9 n10 n11 n12 n13 n14 hs c0 b lab loc s
    simp (disch := first | omega | assumption | decide +kernel | (simp; done) | (simp; omega) | fail) [c0, ho, regretR]
  · have hp := fun lab loc s k0 => e_open13 n0 n1 n2 n3 n4 n5 n6 n7 n8 n9 n10 n11 n12 n13 n14 hs c0 lab loc s k0
    have h := fun lab => e_courses13 (⟨⟨⟨n0, n1⟩, ⟨n2, n3⟩, n4, n5, n6⟩, ⟨⟨n7, n8⟩, n9, n10⟩, n11, n12, n13, n14⟩ : Season) c0 hs.each hs.first (regret_yield (⟨⟨⟨n0, n1⟩, ⟨n2, n3⟩, n4, n5, n6⟩, ⟨⟨n7, n8⟩, n9, n10⟩, n11, n12, n13, n14⟩ : Season) c0 hs.each s) 0 trivial lab
    have hr : regretR (⟨⟨⟨n0, n1⟩, ⟨n2, n3⟩, n4, n5, n6⟩, ⟨⟨n7, n8⟩, n9, n10⟩, n11, n12, n13, n14⟩ : Season) = (regretS (⟨⟨⟨n0, n1⟩, ⟨n2, n3⟩, n4, n5, n6⟩, ⟨⟨n7, n8⟩, n9, n10⟩, n11, n12, n13, n14⟩ : Season), 0) := by rw [regretR, if_pos c0]
    rw [hr]
    rw [foldB_true] at h
    change ∀ lab, den T _ _ lab _ = some (_, regSt _ s (regretS (⟨⟨⟨n0, n1⟩, ⟨n2, n3⟩, n4, n5, n6⟩, ⟨⟨n7, n8⟩, n9, n10⟩, n11, n12, n13, n14⟩ : Season))) at h
    generalize regretS (⟨⟨⟨n0, n1⟩, ⟨n2, n3⟩, n4, n5, n6⟩, ⟨⟨n7, n8⟩, n9, n10⟩, n11, n12, n13, n14⟩ : Season) = q at h
    simp only [regSt, regF, regEnv, season0] at h
    simp (maxSteps := 1000000) (disch := first | omega | assumption | decide +kernel | (simp; done) | (simp; omega) | fail) [run_drawnK, hp, h]
end Go.Proofs.Ytekgicoibcgecaa

/-
  law13: span, worth, best, isKnown, may, Example, works.
-/
namespace Go.Proofs.Ytekgicoibcgecaa
open Go.Ab

@[simp] theorem e_span13 (a b : Int) (lab s) : den T 38 [i64 a, i64 b] lab s = some (.agg [i64 a, i64 b], s) := by
  rw [den_fn t38 _ _ _ rfl]
  simp only [b38]
  simp (disch := first | omega | assumption | decide +kernel | (simp; done) | (simp; omega) | fail) []
@[simp] theorem e_isKnown13 (a : Int) (lab s) : den T 28 [i64 a] lab s = some (.bool (decide (a = 0) || decide (a = 3)), s) := by
  rw [den_fn t28 _ _ _ rfl]
  simp only [b28]
  by_cases c0 : a = 0
  · simp (disch := first | omega | assumption | decide +kernel | (simp; done) | (simp; omega) | fail) [c0]
  · by_cases c1 : a = 3
    · simp (disch := first | omega | assumption | decide +kernel | (simp; done) | (simp; omega) | fail) [c0, c1]
    · simp (disch := first | omega | assumption | decide +kernel | (simp; done) | (simp; omega) | fail) [c0, c1]
/-- worth of the law -/
def lawWorth (n : Season) (day sky : Int) : Int := if (worthR n day sky).2 = 0 ∧ 0 ≤ (worthR n day sky).1 ∧ (worthR n day sky).1 ≤ 2000 then (worthR n day sky).1 else -1
theorem e_worth13law (n0 : Int) (n1 : Int) (n2 : Int) (n3 : Int) (n4 : List Sp) (n5 : List Anc) (n6 : List Wal) (n7 : Int) (n8 : Int) (n9 : List Sp) (n10 : List Boat) (n11 : List Sky) (n12 : List (List Int)) (n13 : List Int) (n14 : List Sp) (hs : Short (⟨⟨⟨n0, n1⟩, ⟨n2, n3⟩, n4, n5, n6⟩, ⟨⟨n7, n8⟩, n9, n10⟩, n11, n12, n13, n14⟩ : Season)) (day sky : Int) (lab s) : den T 23 [.agg [i64 n0, i64 n1, i64 n2, i64 n3, .sl .no 2 (es cSp n4), .sl .no 2 (es cAnc n5), .sl .no 5 (es cWal n6), i64 n7, i64 n8, .sl .no 2 (es cSp n9), .sl .no 2 (es cBoat n10), .sl .no 4 (es cSky n11), .sl .no 1 (es cInts n12), .sl .no 1 (es cInt n13), .sl .no 2 (es cSp n14)], i64 day, i64 sky] lab s = some (i64 (lawWorth (⟨⟨⟨n0, n1⟩, ⟨n2, n3⟩, n4, n5, n6⟩, ⟨⟨n7, n8⟩, n9, n10⟩, n11, n12, n13, n14⟩ : Season) day sky), s) := by
  have h := fun lab s => e_Worth n0 n1 n2 n3 n4 n5 n6 n7 n8 n9 n10 n11 n12 n13 n14 hs day sky lab s
  unfold lawWorth
  generalize worthR (⟨⟨⟨n0, n1⟩, ⟨n2, n3⟩, n4, n5, n6⟩, ⟨⟨n7, n8⟩, n9, n10⟩, n11, n12, n13, n14⟩ : Season) day sky = q at h
  obtain ⟨v, e⟩ := q
  rw [den_fn t23 _ _ _ rfl]
  simp only [b23]
  by_cases c0 : e = 0
  · by_cases c1 : v < 0
    · have c1' : ¬ 0 ≤ v := by omega
      simp (disch := first | omega | assumption | decide +kernel | (simp; done) | (simp; omega) | fail) [h, c0, c1, c1']
    · have c1' : 0 ≤ v := by omega
      by_cases c2 : 2000 < v
      · have c2' : ¬ v ≤ 2000 := by omega
        simp (disch := first | omega | assumption | decide +kernel | (simp; done) | (simp; omega) | fail) [h, c0, c1, c1', c2, c2']
      · have c2' : v ≤ 2000 := by omega
        simp (disch := first | omega | assumption | decide +kernel | (simp; done) | (simp; omega) | fail) [h, c0, c1, c1', c2, c2']
  · simp (disch := first | omega | assumption | decide +kernel | (simp; done) | (simp; omega) | fail) [h, c0]
def lawBest (n : Season) : Int := if (bestR n).2 = 0 ∧ 0 ≤ (bestR n).1 ∧ (bestR n).1 ≤ 2000 then (bestR n).1 else -1
theorem e_best13law (n0 : Int) (n1 : Int) (n2 : Int) (n3 : Int) (n4 : List Sp) (n5 : List Anc) (n6 : List Wal) (n7 : Int) (n8 : Int) (n9 : List Sp) (n10 : List Boat) (n11 : List Sky) (n12 : List (List Int)) (n13 : List Int) (n14 : List Sp) (hs : Short (⟨⟨⟨n0, n1⟩, ⟨n2, n3⟩, n4, n5, n6⟩, ⟨⟨n7, n8⟩, n9, n10⟩, n11, n12, n13, n14⟩ : Season)) (lab s) : den T 42 [.agg [i64 n0, i64 n1, i64 n2, i64 n3, .sl .no 2 (es cSp n4), .sl .no 2 (es cAnc n5), .sl .no 5 (es cWal n6), i64 n7, i64 n8, .sl .no 2 (es cSp n9), .sl .no 2 (es cBoat n10), .sl .no 4 (es cSky n11), .sl .no 1 (es cInts n12), .sl .no 1 (es cInt n13), .sl .no 2 (es cSp n14)]] lab s = some (i64 (lawBest (⟨⟨⟨n0, n1⟩, ⟨n2, n3⟩, n4, n5, n6⟩, ⟨⟨n7, n8⟩, n9, n10⟩, n11, n12, n13, n14⟩ : Season)), s) := by
  have h := fun lab s => e_Best n0 n1 n2 n3 n4 n5 n6 n7 n8 n9 n10 n11 n12 n13 n14 hs lab s
  unfold lawBest
  generalize bestR (⟨⟨⟨n0, n1⟩, ⟨n2, n3⟩, n4, n5, n6⟩, ⟨⟨n7, n8⟩, n9, n10⟩, n11, n12, n13, n14⟩ : Season) = q at h
  obtain ⟨v, e⟩ := q
  rw [den_fn t42 _ _ _ rfl]
  simp only [b42]
  by_cases c0 : e = 0
  · by_cases c1 : v < 0
    · have c1' : ¬ 0 ≤ v := by omega
      simp (disch := first | omega | assumption | decide +kernel | (simp; done) | (simp; omega) | fail) [h, c0, c1, c1']
    · have c1' : 0 ≤ v := by omega
      by_cases c2 : 2000 < v
      · have c2' : ¬ v ≤ 2000 := by omega
        simp (disch := first | omega | assumption | decide +kernel | (simp; done) | (simp; omega) | fail) [h, c0, c1, c1', c2, c2']
      · have c2' : v ≤ 2000 := by omega
        simp (disch := first | omega | assumption | decide +kernel | (simp; done) | (simp; omega) | fail) [h, c0, c1, c1', c2, c2']
  · simp (disch := first | omega | assumption | decide +kernel | (simp; done) | (simp; omega) | fail) [h, c0]
theorem e_may13law (n0 : Int) (n1 : Int) (n2 : Int) (n3 : Int) (n4 : List Sp) (n5 : List Anc) (n6 : List Wal) (n7 : Int) (n8 : Int) (n9 : List Sp) (n10 : List Boat) (n11 : List Sky) (n12 : List (List Int)) (n13 : List Int) (n14 : List Sp) (hs : Short (⟨⟨⟨n0, n1⟩, ⟨n2, n3⟩, n4, n5, n6⟩, ⟨⟨n7, n8⟩, n9, n10⟩, n11, n12, n13, n14⟩ : Season)) (day sky : Int) (lab s) : den T 29 [.agg [i64 n0, i64 n1, i64 n2, i64 n3, .sl .no 2 (es cSp n4), .sl .no 2 (es cAnc n5), .sl .no 5 (es cWal n6), i64 n7, i64 n8, .sl .no 2 (es cSp n9), .sl .no 2 (es cBoat n10), .sl .no 4 (es cSky n11), .sl .no 1 (es cInts n12), .sl .no 1 (es cInt n13), .sl .no 2 (es cSp n14)], i64 day, i64 sky] lab s = some (.tup [.bool (mayR (⟨⟨⟨n0, n1⟩, ⟨n2, n3⟩, n4, n5, n6⟩, ⟨⟨n7, n8⟩, n9, n10⟩, n11, n12, n13, n14⟩ : Season) day sky).1, .bool (decide ((mayR (⟨⟨⟨n0, n1⟩, ⟨n2, n3⟩, n4, n5, n6⟩, ⟨⟨n7, n8⟩, n9, n10⟩, n11, n12, n13, n14⟩ : Season) day sky).2 = 0))], s) := by
  have h := fun lab s => e_May n0 n1 n2 n3 n4 n5 n6 n7 n8 n9 n10 n11 n12 n13 n14 hs day sky lab s
  rw [den_fn t29 _ _ _ rfl]
  simp only [b29]
  by_cases c0 : (mayR (⟨⟨⟨n0, n1⟩, ⟨n2, n3⟩, n4, n5, n6⟩, ⟨⟨n7, n8⟩, n9, n10⟩, n11, n12, n13, n14⟩ : Season) day sky).2 = 0
  · simp (disch := first | omega | assumption | decide +kernel | (simp; done) | (simp; omega) | fail) [h, c0]
  · simp (disch := first | omega | assumption | decide +kernel | (simp; done) | (simp; omega) | fail) [h, c0]

def exSea : Sea := ⟨⟨100, 120⟩, [⟨2, 6⟩, ⟨3, 5⟩, ⟨4, 6⟩], [⟨50, 4⟩, ⟨60, 7⟩, ⟨45, 2⟩, ⟨70, 9⟩]⟩
theorem e_Example05 (lab s) : den T 59 [] lab s = some (.tup [.agg [i64 100, i64 120, .sl .no 2 (es cSp exSea.places), .sl .no 2 (es cBoat exSea.boats)], .agg [i64 100, i64 120, .sl .no 2 (es cSp exSea.places), .sl .no 2 (es cBoat [⟨50, 4⟩, ⟨45, 2⟩])]], s) := by
  have h := fun lab loc s k0 k1 => e_Copy05 100 120 exSea.places exSea.boats (by decide) (by decide) lab loc s k0 k1
  simp only [exSea, es, List.map, cSp, cBoat] at h
  rw [den_fn t59 _ _ _ rfl]
  simp only [b59]
  simp (maxSteps := 1000000) (disch := first | omega | assumption | decide +kernel | (simp; done) | (simp; omega) | fail) [run_drawnK, h, exSea, es, cSp, cBoat, elemsOk]
end Go.Proofs.Ytekgicoibcgecaa

/-
  law13: Example, works.
-/
namespace Go.Proofs.Ytekgicoibcgecaa
open Go.Ab

def exSeason : Season := ⟨⟨⟨2, 4⟩, ⟨1, 3⟩, [⟨2, 3⟩, ⟨1, 4⟩], [⟨6, 0⟩, ⟨5, 1⟩, ⟨4, 0⟩], [⟨2, 1, 3, 8, 9⟩, ⟨1, 2, 2, 6, 6⟩]⟩, exSea, [⟨⟨0, 1⟩, ⟨0, 0⟩⟩, ⟨⟨2, 4⟩, ⟨1, 3⟩⟩], [[0, 1], [0]], [0, 1], [⟨60, 80⟩, ⟨90, 120⟩, ⟨100, 121⟩]⟩
theorem e_Example13 (lab s) : den T 34 [] lab s = some (.agg (season0 exSeason), s) := by
  have h := fun lab s => e_Example05 lab s
  simp only [exSea, es, List.map, cSp, cBoat] at h
  rw [den_fn t34 _ _ _ rfl]
  simp only [b34]
  simp (maxSteps := 1000000) (disch := first | omega | assumption | decide +kernel | (simp; done) | (simp; omega) | fail) [run_drawnK, h, exSeason, season0, exSea, es, cSp, cBoat, cAnc, cWal, cSky, cInts, cInt, elemsOk]
theorem exShort : Short exSeason := ⟨by decide, by decide, by decide, by decide, by decide, by decide, by decide, by decide⟩
theorem x_Calm (lab s) : den T 17 [.agg (season0 exSeason), i64 1] lab s = some (.tup [i64 3, i64 0], s) := by
  have h := e_Calm exSeason.net.wind.lo exSeason.net.wind.hi exSeason.net.cur.lo exSeason.net.cur.hi exSeason.net.grips exSeason.net.anch exSeason.net.walls exSeason.sea.weight.lo exSeason.sea.weight.hi exSeason.sea.places exSeason.sea.boats exSeason.skies exSeason.follows exSeason.first exSeason.days exShort 1 lab s
  have hv : calmR exSeason 1 = (3, 0) := by decide +kernel
  change _ = some (V.tup [i64 (calmR exSeason 1).1, i64 (calmR exSeason 1).2], s) at h
  rw [hv] at h
  exact h
theorem x_Holds (lab s) : den T 22 [.agg (season0 exSeason), i64 1] lab s = some (.tup [.bool true, i64 0], s) := by
  have h := e_Holds exSeason.net.wind.lo exSeason.net.wind.hi exSeason.net.cur.lo exSeason.net.cur.hi exSeason.net.grips exSeason.net.anch exSeason.net.walls exSeason.sea.weight.lo exSeason.sea.weight.hi exSeason.sea.places exSeason.sea.boats exSeason.skies exSeason.follows exSeason.first exSeason.days exShort 1 lab s
  have hv : holdsR exSeason 1 = (true, 0) := by decide +kernel
  change _ = some (V.tup [.bool (holdsR exSeason 1).1, i64 (holdsR exSeason 1).2], s) at h
  rw [hv] at h
  exact h
theorem x_Worth (lab s) : den T 35 [.agg (season0 exSeason), i64 0, i64 1] lab s = some (.tup [i64 90, i64 0], s) := by
  have h := e_Worth exSeason.net.wind.lo exSeason.net.wind.hi exSeason.net.cur.lo exSeason.net.cur.hi exSeason.net.grips exSeason.net.anch exSeason.net.walls exSeason.sea.weight.lo exSeason.sea.weight.hi exSeason.sea.places exSeason.sea.boats exSeason.skies exSeason.follows exSeason.first exSeason.days exShort 0 1 lab s
  have hv : worthR exSeason 0 1 = (90, 0) := by decide +kernel
  change _ = some (V.tup [i64 (worthR exSeason 0 1).1, i64 (worthR exSeason 0 1).2], s) at h
  rw [hv] at h
  exact h
theorem x_Best (lab s) : den T 36 [.agg (season0 exSeason)] lab s = some (.tup [i64 60, i64 0], s) := by
  have h := e_Best exSeason.net.wind.lo exSeason.net.wind.hi exSeason.net.cur.lo exSeason.net.cur.hi exSeason.net.grips exSeason.net.anch exSeason.net.walls exSeason.sea.weight.lo exSeason.sea.weight.hi exSeason.sea.places exSeason.sea.boats exSeason.skies exSeason.follows exSeason.first exSeason.days exShort  lab s
  have hv : bestR exSeason  = (60, 0) := by decide +kernel
  change _ = some (V.tup [i64 (bestR exSeason ).1, i64 (bestR exSeason ).2], s) at h
  rw [hv] at h
  exact h
theorem x_Off (lab s) : den T 27 [.agg (season0 exSeason)] lab s = some (.tup [.agg [i64 0, i64 1], i64 0], s) := by
  have h := e_Off exSeason.net.wind.lo exSeason.net.wind.hi exSeason.net.cur.lo exSeason.net.cur.hi exSeason.net.grips exSeason.net.anch exSeason.net.walls exSeason.sea.weight.lo exSeason.sea.weight.hi exSeason.sea.places exSeason.sea.boats exSeason.skies exSeason.follows exSeason.first exSeason.days exShort  lab s
  have hv : offR (⟨⟨⟨exSeason.net.wind.lo, exSeason.net.wind.hi⟩, ⟨exSeason.net.cur.lo, exSeason.net.cur.hi⟩, exSeason.net.grips, exSeason.net.anch, exSeason.net.walls⟩, ⟨⟨exSeason.sea.weight.lo, exSeason.sea.weight.hi⟩, exSeason.sea.places, exSeason.sea.boats⟩, exSeason.skies, exSeason.follows, exSeason.first, exSeason.days⟩ : Season) = ((0, 1), 0) := by decide +kernel
  rw [hv] at h
  exact h
theorem x_Regret (lab s) : den T 37 [.agg (season0 exSeason)] lab s = some (.tup [i64 30, i64 0], s) := by
  have h := e_Regret exSeason.net.wind.lo exSeason.net.wind.hi exSeason.net.cur.lo exSeason.net.cur.hi exSeason.net.grips exSeason.net.anch exSeason.net.walls exSeason.sea.weight.lo exSeason.sea.weight.hi exSeason.sea.places exSeason.sea.boats exSeason.skies exSeason.follows exSeason.first exSeason.days exShort  lab s
  have hv : regretR exSeason  = (30, 0) := by decide +kernel
  change _ = some (V.tup [i64 (regretR exSeason ).1, i64 (regretR exSeason ).2], s) at h
  rw [hv] at h
  exact h
theorem e_works (lab s) : den T 12 [] lab s = some (.bool true, s) := by
  have h1 := x_Calm
  have h2 := x_Holds
  have h3 := x_Worth
  have h4 := x_Best
  have h5 := x_Off
  have h6 := x_Regret
  have h0 := e_Example13
  simp only [season0] at h0 h1 h2 h3 h4 h5 h6
  rw [den_fn t12 _ _ _ rfl]
  simp only [b12]
  simp (maxSteps := 1000000) (disch := first | omega | assumption | decide +kernel | (simp; done) | (simp; omega) | fail) [run_drawnK, h0, h1, h2, h3, h4, h5, h6]
end Go.Proofs.Ytekgicoibcgecaa

/-
  SkiesStep.
-/
namespace Go.Proofs.Ytekgicoibcgecaa
open Go.Ab

theorem leastL_ge (f : Int → Int) : ∀ (l : List Int) (a : Int), (∀ x ∈ l, 0 ≤ f x) → 0 ≤ a → 0 ≤ l.foldl (fun a x => min a (f x)) a
  | [], a, _, h => h
  | x :: l, a, hl, h => by
    simp only [List.foldl_cons]
    exact leastL_ge f l _ (fun y hy => hl y (by simp [hy])) (by have := hl x (by simp); omega)
theorem leastL_le0 (f : Int → Int) : ∀ (l : List Int) (a : Int), l.foldl (fun a x => min a (f x)) a ≤ a
  | [], a => by simp
  | x :: l, a => by
    simp only [List.foldl_cons]
    have := leastL_le0 f l (min a (f x))
    omega
theorem worthS_range {n : Season} (hok : seasonOk n = true) : ∀ (r : Nat) (sky : Int), r ≤ n.days.length → 0 ≤ sky → sky < (n.skies.length : Int) → 0 ≤ worthS n r sky ∧ worthS n r sky ≤ 2000
  | 0, _, _, _, _ => by simp [worthS]
  | r + 1, sky, hr, h0, h1 => by
    obtain ⟨hk2, _, hf⟩ := follows_ok hok (k := sky.toNat) (by omega)
    have hfo : n.follows.getD sky.toNat [] = n.follows[sky.toNat] := by simp [List.getD, hk2]
    have a1 := leastL_ge (worthS n r) n.follows[sky.toNat] 2000 (fun x hx => (worthS_range hok r x (by omega) (hf x hx).1 (hf x hx).2).1) (by omega)
    have a2 := leastL_le0 (worthS n r) n.follows[sky.toNat] 2000
    have hd := days_ok hok (k := n.days.length - (r + 1)) (by omega)
    have hlo : dayLo n (n.days.length - (r + 1)) = n.days[n.days.length - (r + 1)].lo := by simp [dayLo, show n.days.length - (r + 1) < n.days.length by omega]
    simp only [worthS, hfo, hlo, leastL]
    split <;> omega
theorem worthS_succ (n : Season) (day : Nat) (sky : Int) (hd : day < n.days.length) : worthS n (n.days.length - day) sky = if mayS n day sky.toNat = true then max (leastL (worthS n (n.days.length - (day + 1))) (n.follows.getD sky.toNat [])) (dayLo n day) else leastL (worthS n (n.days.length - (day + 1))) (n.follows.getD sky.toNat []) := by
  obtain ⟨r, hr⟩ : ∃ r, n.days.length - day = r + 1 := ⟨n.days.length - day - 1, by omega⟩
  rw [hr, worthS, show n.days.length - (day + 1) = r by omega, show n.days.length - (r + 1) = day by omega]
theorem least_first (f : Int → Int) (l : List Int) (hne : l ≠ []) (hl : ∀ x ∈ l, f x ≤ 2000) : (l.foldl (fun (a : Nat × Int) (x : Int) => (a.1 + 1, min (if a.1 = 0 then f x else a.2) (f x))) (0, 0)).2 = leastL f l := by
  have e : ∀ (l : List Int) (j : Nat) (a : Int), (l.foldl (fun (a : Nat × Int) (x : Int) => (a.1 + 1, min (if a.1 = 0 then f x else a.2) (f x))) (j + 1, a)).2 = l.foldl (fun a x => min a (f x)) a := by
    intro l
    induction l with
    | nil => intro j a; rfl
    | cons x l ih => intro j a; simp only [List.foldl_cons, Nat.add_one_ne_zero, if_false, ih]
  cases l with
  | nil => exact absurd rfl hne
  | cons x l =>
    simp only [List.foldl_cons, if_true, leastL]
    have := hl x (by simp)
    rw [show min (2000 : Int) (f x) = f x by omega, show min (f x) (f x) = f x by omega]
    exact e l 0 _
theorem least_zero (l : List Int) (hne : l ≠ []) : leastL (fun _ => 0) l = 0 := by
  have : ∀ (l : List Int), l.foldl (fun (a : Int) (_ : Int) => min a 0) 0 = 0 := by
    intro l; induction l with
    | nil => rfl
    | cons x l ih => simpa using ih
  cases l with
  | nil => exact absurd rfl hne
  | cons x l => exact this l

theorem worthR_ok {n : Season} (hok : seasonOk n = true) {day : Nat} {sky : Int} (hd : day < n.days.length) (h0 : 0 ≤ sky) (h1 : sky < (n.skies.length : Int)) : worthR n day sky = (worthS n (n.days.length - day) sky, 0) := by
  have a : isDayS n day = true := within_iff.2 ⟨by omega, by omega⟩
  have b : isSkyS n sky = true := within_iff.2 ⟨by omega, by omega⟩
  simp [worthR, hok, a, b]
theorem lawWorth_ok {n : Season} (hok : seasonOk n = true) {day : Nat} {sky : Int} (hd : day < n.days.length) (h0 : 0 ≤ sky) (h1 : sky < (n.skies.length : Int)) : lawWorth n day sky = worthS n (n.days.length - day) sky := by
  have r := worthS_range hok (n.days.length - day) sky (by omega) h0 h1
  simp only [lawWorth, worthR_ok hok hd h0 h1]
  rw [if_pos ⟨trivial, r.1, r.2⟩]

set_option maxHeartbeats 4000000 in
theorem e_SkiesStep (n0 : Int) (n1 : Int) (n2 : Int) (n3 : Int) (n4 : List Sp) (n5 : List Anc) (n6 : List Wal) (n7 : Int) (n8 : Int) (n9 : List Sp) (n10 : List Boat) (n11 : List Sky) (n12 : List (List Int)) (n13 : List Int) (n14 : List Sp) (hs : Short (⟨⟨⟨n0, n1⟩, ⟨n2, n3⟩, n4, n5, n6⟩, ⟨⟨n7, n8⟩, n9, n10⟩, n11, n12, n13, n14⟩ : Season)) (day sky : Int) (lab s) : den T 9 [.agg [i64 n0, i64 n1, i64 n2, i64 n3, .sl .no 2 (es cSp n4), .sl .no 2 (es cAnc n5), .sl .no 5 (es cWal n6), i64 n7, i64 n8, .sl .no 2 (es cSp n9), .sl .no 2 (es cBoat n10), .sl .no 4 (es cSky n11), .sl .no 1 (es cInts n12), .sl .no 1 (es cInt n13), .sl .no 2 (es cSp n14)], i64 day, i64 sky] lab s = some (.bool true, s) := by
  have hw := fun (day sky : Int) lab s => e_worth13law n0 n1 n2 n3 n4 n5 n6 n7 n8 n9 n10 n11 n12 n13 n14 hs day sky lab s
  have hm := fun lab s => e_may13law n0 n1 n2 n3 n4 n5 n6 n7 n8 n9 n10 n11 n12 n13 n14 hs day sky lab s
  have hl := fun lab s => e_Lift n0 n1 n2 n3 n4 n5 n6 n7 n8 n9 n10 n11 n12 n13 n14 hs day sky lab s
  have hd := fun lab s => e_IsDay13 n0 n1 n2 n3 n4 n5 n6 n7 n8 n9 n10 n11 n12 n13 n14 day hs.days lab s
  have hk := fun lab s => e_IsSky13 n0 n1 n2 n3 n4 n5 n6 n7 n8 n9 n10 n11 n12 n13 n14 sky hs.skies lab s
  have hd0 : within day 0 (n14.length - 1) = isDayS (⟨⟨⟨n0, n1⟩, ⟨n2, n3⟩, n4, n5, n6⟩, ⟨⟨n7, n8⟩, n9, n10⟩, n11, n12, n13, n14⟩ : Season) day := rfl
  have hk0 : within sky 0 (n11.length - 1) = isSkyS (⟨⟨⟨n0, n1⟩, ⟨n2, n3⟩, n4, n5, n6⟩, ⟨⟨n7, n8⟩, n9, n10⟩, n11, n12, n13, n14⟩ : Season) sky := rfl
  have hr := fun lab s => e_ready n0 n1 n2 n3 n4 n5 n6 n7 n8 n9 n10 n11 n12 n13 n14 hs.skies hs.follows hs.first hs.days hs.each lab s
  have hx := e_works
  rw [den_fn t9 _ _ _ rfl]
  simp only [b9]
  cases c0 : ready (⟨⟨⟨n0, n1⟩, ⟨n2, n3⟩, n4, n5, n6⟩, ⟨⟨n7, n8⟩, n9, n10⟩, n11, n12, n13, n14⟩ : Season)
  · simp (disch := first | omega | assumption | decide +kernel | (simp; done) | (simp; omega) | fail) [hr, c0, hx]
  cases c1 : isDayS (⟨⟨⟨n0, n1⟩, ⟨n2, n3⟩, n4, n5, n6⟩, ⟨⟨n7, n8⟩, n9, n10⟩, n11, n12, n13, n14⟩ : Season) day
  · simp (disch := first | omega | assumption | decide +kernel | (simp; done) | (simp; omega) | fail) [hr, c0, hx, hd, hd0, c1]
  cases c2 : isSkyS (⟨⟨⟨n0, n1⟩, ⟨n2, n3⟩, n4, n5, n6⟩, ⟨⟨n7, n8⟩, n9, n10⟩, n11, n12, n13, n14⟩ : Season) sky
  · simp (disch := first | omega | assumption | decide +kernel | (simp; done) | (simp; omega) | fail) [hr, c0, hx, hd, hd0, c1, hk, hk0, c2]
  have hok : seasonOk (⟨⟨⟨n0, n1⟩, ⟨n2, n3⟩, n4, n5, n6⟩, ⟨⟨n7, n8⟩, n9, n10⟩, n11, n12, n13, n14⟩ : Season) = true := by simp only [ready, Bool.and_eq_true] at c0; exact c0.2
  obtain ⟨day, rfl, hday⟩ := isDay_nat c1
  obtain ⟨sky, rfl, hsky⟩ := isSky_nat c2
  simp only at hday hsky
  obtain ⟨hk2, hne, hf⟩ := follows_ok hok (k := sky) hsky
  simp only at hk2 hne hf
  have hw0 : lawWorth (⟨⟨⟨n0, n1⟩, ⟨n2, n3⟩, n4, n5, n6⟩, ⟨⟨n7, n8⟩, n9, n10⟩, n11, n12, n13, n14⟩ : Season) day sky = worthS (⟨⟨⟨n0, n1⟩, ⟨n2, n3⟩, n4, n5, n6⟩, ⟨⟨n7, n8⟩, n9, n10⟩, n11, n12, n13, n14⟩ : Season) (n14.length - day) sky := lawWorth_ok hok hday (by omega) (by simp only; omega)
  have q7 := (seasonOk_iff.1 hok).2.2.2.2.2.2.1
  simp only at q7
  have w1 : IntKind.i64.wrap 1 = 1 := by decide
  have wd : IntKind.i64.wrap ((day : Int) + 1) = (day : Int) + 1 := wk day (by omega)
  have hlen := hs.each _ (List.getElem_mem hk2)
  have hmr : mayR (⟨⟨⟨n0, n1⟩, ⟨n2, n3⟩, n4, n5, n6⟩, ⟨⟨n7, n8⟩, n9, n10⟩, n11, n12, n13, n14⟩ : Season) day sky = (mayS (⟨⟨⟨n0, n1⟩, ⟨n2, n3⟩, n4, n5, n6⟩, ⟨⟨n7, n8⟩, n9, n10⟩, n11, n12, n13, n14⟩ : Season) day sky, 0) := by simp [mayR, hok, c1, c2]
  have hlr : liftR (⟨⟨⟨n0, n1⟩, ⟨n2, n3⟩, n4, n5, n6⟩, ⟨⟨n7, n8⟩, n9, n10⟩, n11, n12, n13, n14⟩ : Season) day sky = (liftS (⟨⟨⟨n0, n1⟩, ⟨n2, n3⟩, n4, n5, n6⟩, ⟨⟨n7, n8⟩, n9, n10⟩, n11, n12, n13, n14⟩ : Season) day sky, 0) := by simp [liftR, hok, c1, c2]
  have hsuc := worthS_succ (⟨⟨⟨n0, n1⟩, ⟨n2, n3⟩, n4, n5, n6⟩, ⟨⟨n7, n8⟩, n9, n10⟩, n11, n12, n13, n14⟩ : Season) day sky hday
  have hfo : n12.getD sky [] = n12[sky] := by simp [List.getD, hk2]
  have hlo : dayLo (⟨⟨⟨n0, n1⟩, ⟨n2, n3⟩, n4, n5, n6⟩, ⟨⟨n7, n8⟩, n9, n10⟩, n11, n12, n13, n14⟩ : Season) day = n14[day].lo := by simp [dayLo, hday]
  simp only [Int.toNat_natCast, hfo, hlo] at hsuc
  have hli : liftS (⟨⟨⟨n0, n1⟩, ⟨n2, n3⟩, n4, n5, n6⟩, ⟨⟨n7, n8⟩, n9, n10⟩, n11, n12, n13, n14⟩ : Season) day sky = (mayS (⟨⟨⟨n0, n1⟩, ⟨n2, n3⟩, n4, n5, n6⟩, ⟨⟨n7, n8⟩, n9, n10⟩, n11, n12, n13, n14⟩ : Season) day sky && decide (worthS (⟨⟨⟨n0, n1⟩, ⟨n2, n3⟩, n4, n5, n6⟩, ⟨⟨n7, n8⟩, n9, n10⟩, n11, n12, n13, n14⟩ : Season) (n14.length - day) sky ≤ n14[day].lo)) := by simp only [liftS, hlo, Int.toNat_natCast]
  -- the loop
  have key : Run T b9l0 [(1, i64 day), (3, .ptr s.length 48 0), (7, i64 (worthS (⟨⟨⟨n0, n1⟩, ⟨n2, n3⟩, n4, n5, n6⟩, ⟨⟨n7, n8⟩, n9, n10⟩, n11, n12, n13, n14⟩ : Season) (n14.length - day) sky)), (8, .bool (mayS (⟨⟨⟨n0, n1⟩, ⟨n2, n3⟩, n4, n5, n6⟩, ⟨⟨n7, n8⟩, n9, n10⟩, n11, n12, n13, n14⟩ : Season) day sky)), (9, .bool true), (10, .bool (liftS (⟨⟨⟨n0, n1⟩, ⟨n2, n3⟩, n4, n5, n6⟩, ⟨⟨n7, n8⟩, n9, n10⟩, n11, n12, n13, n14⟩ : Season) day sky)), (11, i64 0), (12, i64 0), (13, .sl .no 1 (es cInt n12[sky])), (14, i64 0)] ([(48, .cell [i64 n0, i64 n1, i64 n2, i64 n3, .sl .no 2 (es cSp n4), .sl .no 2 (es cAnc n5), .sl .no 5 (es cWal n6), i64 n7, i64 n8, .sl .no 2 (es cSp n9), .sl .no 2 (es cBoat n10), .sl .no 4 (es cSky n11), .sl .no 1 (es cInts n12), .sl .no 1 (es cInt n13), .sl .no 2 (es cSp n14)])] :: s) =
      some (.exit 0, [(1, i64 day), (3, .ptr s.length 48 0), (7, i64 (worthS (⟨⟨⟨n0, n1⟩, ⟨n2, n3⟩, n4, n5, n6⟩, ⟨⟨n7, n8⟩, n9, n10⟩, n11, n12, n13, n14⟩ : Season) (n14.length - day) sky)), (8, .bool (mayS (⟨⟨⟨n0, n1⟩, ⟨n2, n3⟩, n4, n5, n6⟩, ⟨⟨n7, n8⟩, n9, n10⟩, n11, n12, n13, n14⟩ : Season) day sky)), (9, .bool true), (10, .bool (liftS (⟨⟨⟨n0, n1⟩, ⟨n2, n3⟩, n4, n5, n6⟩, ⟨⟨n7, n8⟩, n9, n10⟩, n11, n12, n13, n14⟩ : Season) day sky)), (11, i64 0), (12, i64 (leastL (worthS (⟨⟨⟨n0, n1⟩, ⟨n2, n3⟩, n4, n5, n6⟩, ⟨⟨n7, n8⟩, n9, n10⟩, n11, n12, n13, n14⟩ : Season) (n14.length - (day + 1))) n12[sky])), (13, .sl .no 1 (es cInt n12[sky])), (14, i64 (if day + 1 < n14.length then n12[sky].length else 0)), (67, .bool false)], [(48, .cell [i64 n0, i64 n1, i64 n2, i64 n3, .sl .no 2 (es cSp n4), .sl .no 2 (es cAnc n5), .sl .no 5 (es cWal n6), i64 n7, i64 n8, .sl .no 2 (es cSp n9), .sl .no 2 (es cBoat n10), .sl .no 4 (es cSky n11), .sl .no 1 (es cInts n12), .sl .no 1 (es cInt n13), .sl .no 2 (es cSp n14)])] :: s) := by
    generalize worthS (⟨⟨⟨n0, n1⟩, ⟨n2, n3⟩, n4, n5, n6⟩, ⟨⟨n7, n8⟩, n9, n10⟩, n11, n12, n13, n14⟩ : Season) (n14.length - day) sky = W
    generalize liftS (⟨⟨⟨n0, n1⟩, ⟨n2, n3⟩, n4, n5, n6⟩, ⟨⟨n7, n8⟩, n9, n10⟩, n11, n12, n13, n14⟩ : Season) day sky = L
    generalize mayS (⟨⟨⟨n0, n1⟩, ⟨n2, n3⟩, n4, n5, n6⟩, ⟨⟨n7, n8⟩, n9, n10⟩, n11, n12, n13, n14⟩ : Season) day sky = M
    by_cases hlast : day + 1 < n14.length
    · have hli : (day : Int) + 1 < n14.length := by omega
      rw [if_pos hlast, ← least_first _ _ hne (fun x hx => (worthS_range hok _ x (by simp only; omega) (hf x hx).1 (hf x hx).2).2)]
      refine loop_fold n12[sky] (fun k (a : Nat × Int) => a.1 = k) (fun (a : Nat × Int) (x : Int) => (a.1 + 1, min (if a.1 = 0 then worthS (⟨⟨⟨n0, n1⟩, ⟨n2, n3⟩, n4, n5, n6⟩, ⟨⟨n7, n8⟩, n9, n10⟩, n11, n12, n13, n14⟩ : Season) (n14.length - (day + 1)) x else a.2) (worthS (⟨⟨⟨n0, n1⟩, ⟨n2, n3⟩, n4, n5, n6⟩, ⟨⟨n7, n8⟩, n9, n10⟩, n11, n12, n13, n14⟩ : Season) (n14.length - (day + 1)) x)))
        (fun k a => [(1, i64 day), (3, .ptr s.length 48 0), (7, i64 W), (8, .bool M), (9, .bool true), (10, .bool L), (11, i64 0), (12, i64 a.2), (13, .sl .no 1 (es cInt n12[sky])), (14, i64 k)]) (fun _ _ => [(48, .cell [i64 n0, i64 n1, i64 n2, i64 n3, .sl .no 2 (es cSp n4), .sl .no 2 (es cAnc n5), .sl .no 5 (es cWal n6), i64 n7, i64 n8, .sl .no 2 (es cSp n9), .sl .no 2 (es cBoat n10), .sl .no 4 (es cSky n11), .sl .no 1 (es cInts n12), .sl .no 1 (es cInt n13), .sl .no 2 (es cSp n14)])] :: s)
        (fun a => (.exit 0, [(1, i64 day), (3, .ptr s.length 48 0), (7, i64 W), (8, .bool M), (9, .bool true), (10, .bool L), (11, i64 0), (12, i64 a.2), (13, .sl .no 1 (es cInt n12[sky])), (14, i64 n12[sky].length), (67, .bool false)], [(48, .cell [i64 n0, i64 n1, i64 n2, i64 n3, .sl .no 2 (es cSp n4), .sl .no 2 (es cAnc n5), .sl .no 5 (es cWal n6), i64 n7, i64 n8, .sl .no 2 (es cSp n9), .sl .no 2 (es cBoat n10), .sl .no 4 (es cSky n11), .sl .no 1 (es cInts n12), .sl .no 1 (es cInt n13), .sl .no 2 (es cSp n14)])] :: s)) (by simp) ?_ (fun k a hk hi => by simp only at hi ⊢; rw [hi]) ?_ (0, 0) rfl _ _ (by simp) (by simp)
      · intro k a hk hi
        obtain ⟨j, a⟩ := a
        simp only at hi
        subst hi
        obtain ⟨x0, x1⟩ := hf _ (List.getElem_mem hk)
        have hwx : lawWorth (⟨⟨⟨n0, n1⟩, ⟨n2, n3⟩, n4, n5, n6⟩, ⟨⟨n7, n8⟩, n9, n10⟩, n11, n12, n13, n14⟩ : Season) ((day : Int) + 1) n12[sky][j] = worthS (⟨⟨⟨n0, n1⟩, ⟨n2, n3⟩, n4, n5, n6⟩, ⟨⟨n7, n8⟩, n9, n10⟩, n11, n12, n13, n14⟩ : Season) (n14.length - (day + 1)) n12[sky][j] := lawWorth_ok (day := day + 1) hok hlast x0 x1
        have hrg := worthS_range hok (n14.length - (day + 1)) n12[sky][j] (by simp only; omega) x0 x1
        generalize worthS (⟨⟨⟨n0, n1⟩, ⟨n2, n3⟩, n4, n5, n6⟩, ⟨⟨n7, n8⟩, n9, n10⟩, n11, n12, n13, n14⟩ : Season) (n14.length - (day + 1)) n12[sky][j] = v at hwx hrg
        have hv : ¬ v < 0 := by omega
        by_cases hj : j = 0
        · subst hj
          simp (maxSteps := 1000000) (disch := first | omega | assumption | decide +kernel | (simp; done) | (simp; omega) | fail) [run_drawnK, hk, hday, hlast, hli, hw, hwx, hv, wd, w1]
        · simp (maxSteps := 1000000) (disch := first | omega | assumption | decide +kernel | (simp; done) | (simp; omega) | fail) [run_drawnK, hk, hj, hday, hlast, hli, hw, hwx, hv, wd, wk j (by omega)]
      · intro a hi
        simp (maxSteps := 1000000) (disch := first | omega | assumption | decide +kernel | (simp; done) | (simp; omega) | fail) []
    · have hli : ¬ (day : Int) + 1 < n14.length := by omega
      have hz : leastL (worthS (⟨⟨⟨n0, n1⟩, ⟨n2, n3⟩, n4, n5, n6⟩, ⟨⟨n7, n8⟩, n9, n10⟩, n11, n12, n13, n14⟩ : Season) (n14.length - (day + 1))) n12[sky] = 0 := by
        rw [show n14.length - (day + 1) = 0 by omega]
        exact least_zero _ hne
      have hpos : 0 < n12[sky].length := by cases hq : n12[sky] with
        | nil => exact absurd hq hne
        | cons _ _ => simp
      rw [if_neg hlast, hz]
      refine loop_fold ([] : List Int) (fun k (a : Unit) => True) (fun a _ => a)
        (fun k a => [(1, i64 day), (3, .ptr s.length 48 0), (7, i64 W), (8, .bool M), (9, .bool true), (10, .bool L), (11, i64 0), (12, i64 0), (13, .sl .no 1 (es cInt n12[sky])), (14, i64 0)]) (fun _ _ => [(48, .cell [i64 n0, i64 n1, i64 n2, i64 n3, .sl .no 2 (es cSp n4), .sl .no 2 (es cAnc n5), .sl .no 5 (es cWal n6), i64 n7, i64 n8, .sl .no 2 (es cSp n9), .sl .no 2 (es cBoat n10), .sl .no 4 (es cSky n11), .sl .no 1 (es cInts n12), .sl .no 1 (es cInt n13), .sl .no 2 (es cSp n14)])] :: s)
        (fun a => (.exit 0, [(1, i64 day), (3, .ptr s.length 48 0), (7, i64 W), (8, .bool M), (9, .bool true), (10, .bool L), (11, i64 0), (12, i64 0), (13, .sl .no 1 (es cInt n12[sky])), (14, i64 0), (67, .bool false)], [(48, .cell [i64 n0, i64 n1, i64 n2, i64 n3, .sl .no 2 (es cSp n4), .sl .no 2 (es cAnc n5), .sl .no 5 (es cWal n6), i64 n7, i64 n8, .sl .no 2 (es cSp n9), .sl .no 2 (es cBoat n10), .sl .no 4 (es cSky n11), .sl .no 1 (es cInts n12), .sl .no 1 (es cInt n13), .sl .no 2 (es cSp n14)])] :: s)) (by simp) (fun k a hk => by simp at hk) (fun _ _ _ _ => trivial) ?_ () trivial _ _ (by simp) (by simp)
      intro a hi
      simp (maxSteps := 1000000) (disch := first | omega | assumption | decide +kernel | (simp; done) | (simp; omega) | fail) [hne, hpos, hlast, hli, wd]
  generalize leastL (worthS (⟨⟨⟨n0, n1⟩, ⟨n2, n3⟩, n4, n5, n6⟩, ⟨⟨n7, n8⟩, n9, n10⟩, n11, n12, n13, n14⟩ : Season) (n14.length - (day + 1))) n12[sky] = m at key hsuc
  generalize worthS (⟨⟨⟨n0, n1⟩, ⟨n2, n3⟩, n4, n5, n6⟩, ⟨⟨n7, n8⟩, n9, n10⟩, n11, n12, n13, n14⟩ : Season) (n14.length - day) sky = W at *
  rw [hmr] at hm
  rw [hlr] at hl
  generalize liftS (⟨⟨⟨n0, n1⟩, ⟨n2, n3⟩, n4, n5, n6⟩, ⟨⟨n7, n8⟩, n9, n10⟩, n11, n12, n13, n14⟩ : Season) day sky = L at *
  cases c3 : mayS (⟨⟨⟨n0, n1⟩, ⟨n2, n3⟩, n4, n5, n6⟩, ⟨⟨n7, n8⟩, n9, n10⟩, n11, n12, n13, n14⟩ : Season) day sky
  · rw [c3] at hsuc hli key hm
    simp only [Bool.false_eq_true, if_false, Bool.false_and] at hsuc hli
    subst hsuc hli
    simp (maxSteps := 1000000) (disch := first | omega | assumption | decide +kernel | (simp; done) | (simp; omega) | fail) [run_drawnK, hr, c0, hx, hd, hd0, c1, hk, hk0, c2, hw, hw0, hm, hl, hk2, key]
  · rw [c3] at hsuc hli key hm
    simp only [if_true, Bool.true_and] at hsuc hli
    by_cases c4 : m ≤ n14[day].lo
    · have e : W = n14[day].lo := by omega
      have e2 : max m n14[day].lo = n14[day].lo := by omega
      have e3 : L = true := by rw [hli, e]; simp
      rw [e3] at hl key
      rw [e] at key hw0
      simp (maxSteps := 1000000) (disch := first | omega | assumption | decide +kernel | (simp; done) | (simp; omega) | fail) [run_drawnK, hr, c0, hx, hd, hd0, c1, hk, hk0, c2, hw, hw0, hm, hl, hk2, key, hday, e2]
    · have e : W = m := by omega
      have e2 : max m n14[day].lo = m := by omega
      have e3 : L = false := by rw [hli, e]; simp; omega
      have e4 : ¬ n14[day].lo = m := by omega
      rw [e3] at hl key
      rw [e] at key hw0
      simp (maxSteps := 1000000) (disch := first | omega | assumption | decide +kernel | (simp; done) | (simp; omega) | fail) [run_drawnK, hr, c0, hx, hd, hd0, c1, hk, hk0, c2, hw, hw0, hm, hl, hk2, key, hday, e2, e4]
end Go.Proofs.Ytekgicoibcgecaa

/-
  What the arguments read as.
-/
namespace Go.Proofs.Ytekgicoibcgecaa
open Go.Ab
set_option maxRecDepth 100000

theorem cells23 : Try.prog.cellsOf 23 = 2 := by kernel_rfl
theorem cells97 : Try.prog.cellsOf 97 = 2 := by kernel_rfl
theorem cells99 : Try.prog.cellsOf 99 = 5 := by kernel_rfl
theorem cells87 : Try.prog.cellsOf 87 = 2 := by kernel_rfl
theorem cells45 : Try.prog.cellsOf 45 = 4 := by kernel_rfl
theorem cells34 : Try.prog.cellsOf 34 = 1 := by kernel_rfl
theorem cells3 : Try.prog.cellsOf 3 = 1 := by kernel_rfl
variable {B : TypeId → Nat → Prop} {n : Nat} {vs : List V}
theorem fit_int (h : Fit Try.prog B (n + 1) 3 vs) : ∃ x, vs = [i64 x] := by
  simp only [Fit, Try.underlying3] at h
  exact h
theorem fit_sp (h : Fit Try.prog B (n + 2) 23 vs) : ∃ x : Sp, vs = cSp x := by
  simp only [Fit, FitF, Try.underlying23, Try.underlying3] at h
  obtain ⟨_, _, rfl, ⟨x, rfl⟩, _, _, rfl, ⟨y, rfl⟩, rfl⟩ := h
  exact ⟨⟨x, y⟩, rfl⟩
theorem fit_anc (h : Fit Try.prog B (n + 2) 97 vs) : ∃ x : Anc, vs = cAnc x := by
  simp only [Fit, FitF, Try.underlying97, Try.underlying3] at h
  obtain ⟨_, _, rfl, ⟨x, rfl⟩, _, _, rfl, ⟨y, rfl⟩, rfl⟩ := h
  exact ⟨⟨x, y⟩, rfl⟩
theorem fit_boat (h : Fit Try.prog B (n + 2) 87 vs) : ∃ x : Boat, vs = cBoat x := by
  simp only [Fit, FitF, Try.underlying87, Try.underlying3] at h
  obtain ⟨_, _, rfl, ⟨x, rfl⟩, _, _, rfl, ⟨y, rfl⟩, rfl⟩ := h
  exact ⟨⟨x, y⟩, rfl⟩
theorem fit_wal (h : Fit Try.prog B (n + 2) 99 vs) : ∃ x : Wal, vs = cWal x := by
  simp only [Fit, FitF, Try.underlying99, Try.underlying3] at h
  obtain ⟨_, _, rfl, ⟨x, rfl⟩, _, _, rfl, ⟨y, rfl⟩, _, _, rfl, ⟨z, rfl⟩, _, _, rfl, ⟨u, rfl⟩, _, _, rfl, ⟨v, rfl⟩, rfl⟩ := h
  exact ⟨⟨x, y, z, u, v⟩, rfl⟩
theorem fit_sky (h : Fit Try.prog B (n + 3) 45 vs) : ∃ x : Sky, vs = cSky x := by
  rw [Fit, Try.underlying45] at h
  simp only [FitF] at h
  obtain ⟨_, _, rfl, h1, _, _, rfl, h2, rfl⟩ := h
  obtain ⟨x, rfl⟩ := fit_sp h1
  obtain ⟨y, rfl⟩ := fit_sp h2
  exact ⟨⟨x, y⟩, rfl⟩
theorem es_all {α : Type} {f : α → List V} (l : List (List V)) (h : ∀ x ∈ l, ∃ y, x = f y) : ∃ l' : List α, l = es f l' := by
  obtain ⟨l', h1, _⟩ := es_of (Q := fun _ => True) l fun x hx => by obtain ⟨y, hy⟩ := h x hx; exact ⟨y, hy, trivial⟩
  exact ⟨l', h1⟩
theorem fit_ints (h : Fit Try.prog B (n + 2) 34 vs) : ∃ l : List Int, vs = [.sl .no 1 (es cInt l)] ∧ B 3 l.length := by
  rw [Fit, Try.underlying34] at h
  simp only at h
  obtain ⟨l, rfl, hb, h⟩ := h
  obtain ⟨l', rfl⟩ := es_all (f := cInt) l fun x hx => by obtain ⟨y, hy⟩ := fit_int (h x hx); exact ⟨y, hy⟩
  rw [cells3]
  exact ⟨l', rfl, by simpa using hb⟩
theorem fit_sps (h : Fit Try.prog B (n + 3) 24 vs) : ∃ l : List Sp, vs = [.sl .no 2 (es cSp l)] ∧ B 23 l.length := by
  rw [Fit, Try.underlying24] at h
  simp only at h
  obtain ⟨l, rfl, hb, h⟩ := h
  obtain ⟨l', rfl⟩ := es_all (f := cSp) l fun x hx => fit_sp (h x hx)
  rw [cells23]
  exact ⟨l', rfl, by simpa using hb⟩
theorem fit_ancs (h : Fit Try.prog B (n + 3) 25 vs) : ∃ l : List Anc, vs = [.sl .no 2 (es cAnc l)] ∧ B 97 l.length := by
  rw [Fit, Try.underlying25] at h
  simp only at h
  obtain ⟨l, rfl, hb, h⟩ := h
  obtain ⟨l', rfl⟩ := es_all (f := cAnc) l fun x hx => fit_anc (h x hx)
  rw [cells97]
  exact ⟨l', rfl, by simpa using hb⟩
theorem fit_wals (h : Fit Try.prog B (n + 3) 26 vs) : ∃ l : List Wal, vs = [.sl .no 5 (es cWal l)] ∧ B 99 l.length := by
  rw [Fit, Try.underlying26] at h
  simp only at h
  obtain ⟨l, rfl, hb, h⟩ := h
  obtain ⟨l', rfl⟩ := es_all (f := cWal) l fun x hx => fit_wal (h x hx)
  rw [cells99]
  exact ⟨l', rfl, by simpa using hb⟩
theorem fit_boats (h : Fit Try.prog B (n + 3) 29 vs) : ∃ l : List Boat, vs = [.sl .no 2 (es cBoat l)] ∧ B 87 l.length := by
  rw [Fit, Try.underlying29] at h
  simp only at h
  obtain ⟨l, rfl, hb, h⟩ := h
  obtain ⟨l', rfl⟩ := es_all (f := cBoat) l fun x hx => fit_boat (h x hx)
  rw [cells87]
  exact ⟨l', rfl, by simpa using hb⟩
theorem fit_skys (h : Fit Try.prog B (n + 4) 32 vs) : ∃ l : List Sky, vs = [.sl .no 4 (es cSky l)] ∧ B 45 l.length := by
  rw [Fit, Try.underlying32] at h
  simp only at h
  obtain ⟨l, rfl, hb, h⟩ := h
  obtain ⟨l', rfl⟩ := es_all (f := cSky) l fun x hx => fit_sky (h x hx)
  rw [cells45]
  exact ⟨l', rfl, by simpa using hb⟩
theorem fit_intss (h : Fit Try.prog B (n + 3) 33 vs) : ∃ l : List (List Int), vs = [.sl .no 1 (es cInts l)] ∧ B 34 l.length ∧ ∀ x ∈ l, B 3 x.length := by
  rw [Fit, Try.underlying33] at h
  simp only at h
  obtain ⟨l, rfl, hb, h⟩ := h
  obtain ⟨l', rfl, hl⟩ := es_of (f := cInts) (Q := fun x => B 3 x.length) l fun x hx => fit_ints (h x hx)
  rw [cells34]
  exact ⟨l', rfl, by simpa using hb, hl⟩

/-- what is known of a season's lists -/
structure Held (B : TypeId → Nat → Prop) (n : Season) : Prop where
  grips : B 23 n.net.grips.length
  anch : B 97 n.net.anch.length
  walls : B 99 n.net.walls.length
  places : B 23 n.sea.places.length
  boats : B 87 n.sea.boats.length
  skies : B 45 n.skies.length
  follows : B 34 n.follows.length
  first : B 3 n.first.length
  days : B 23 n.days.length
  each : ∀ l ∈ n.follows, B 3 l.length
theorem fit_season (h : Fit Try.prog B (n + 6) 36 vs) : ∃ m : Season, vs = season0 m ∧ Held B m := by
  rw [Fit, Try.underlying36] at h
  simp only [FitF] at h
  obtain ⟨_, _, rfl, hnet, _, _, rfl, hsea, _, _, rfl, h1, _, _, rfl, h2, _, _, rfl, h3, _, _, rfl, h4, rfl⟩ := h
  rw [Fit, Try.underlying28] at hnet
  simp only [FitF] at hnet
  obtain ⟨_, _, rfl, k1, _, _, rfl, k2, _, _, rfl, k3, _, _, rfl, k4, _, _, rfl, k5, rfl⟩ := hnet
  rw [Fit, Try.underlying31] at hsea
  simp only [FitF] at hsea
  obtain ⟨_, _, rfl, j1, _, _, rfl, j2, _, _, rfl, j3, rfl⟩ := hsea
  obtain ⟨x1, rfl⟩ := fit_sp k1
  obtain ⟨x2, rfl⟩ := fit_sp k2
  obtain ⟨x3, rfl, b3⟩ := fit_sps k3
  obtain ⟨x4, rfl, b4⟩ := fit_ancs k4
  obtain ⟨x5, rfl, b5⟩ := fit_wals k5
  obtain ⟨y1, rfl⟩ := fit_sp j1
  obtain ⟨y2, rfl, c2⟩ := fit_sps j2
  obtain ⟨y3, rfl, c3⟩ := fit_boats j3
  obtain ⟨z1, rfl, d1⟩ := fit_skys h1
  obtain ⟨z2, rfl, d2, d2'⟩ := fit_intss h2
  obtain ⟨z3, rfl, d3⟩ := fit_ints h3
  obtain ⟨z4, rfl, d4⟩ := fit_sps h4
  exact ⟨⟨⟨x1, x2, x3, x4, x5⟩, ⟨y1, y2, y3⟩, z1, z2, z3, z4⟩, rfl, ⟨b3, b4, b5, c2, c3, d1, d2, d3, d4, d2'⟩⟩

/-- of what the form's reach says -/
def Reach (e : TypeId) (k : Nat) : Prop := k ≤ maxLen ∧ k * Try.prog.bytesOf e ≤ reachBytes
theorem bytes23 : Try.prog.bytesOf 23 = 16 := by kernel_rfl
theorem bytes97 : Try.prog.bytesOf 97 = 16 := by kernel_rfl
theorem bytes99 : Try.prog.bytesOf 99 = 40 := by kernel_rfl
theorem bytes87 : Try.prog.bytesOf 87 = 16 := by kernel_rfl
theorem bytes45 : Try.prog.bytesOf 45 = 32 := by kernel_rfl
theorem bytes34 : Try.prog.bytesOf 34 = 24 := by kernel_rfl
theorem bytes3 : Try.prog.bytesOf 3 = 8 := by kernel_rfl
theorem held_short {m : Season} (h : Held Reach m) : Short m := by
  obtain ⟨h1, h2, h3, h4, h5, h6, h7, h8, h9, h10⟩ := h
  simp only [Reach, bytes23, bytes97, bytes99, bytes87, bytes45, bytes34, bytes3, reachBytes] at h1 h2 h3 h4 h5 h6 h7 h8 h9 h10
  exact ⟨by omega, by omega, by omega, by omega, by omega, by omega, by omega, fun l hl => by have := h10 l hl; omega⟩
end Go.Proofs.Ytekgicoibcgecaa
