/-
  Cuts: Weight, Price, Rank and Cut of the example.
-/
import Derived.Test.YtlcnoldkekcifaaEq2
import Derived.Test.YtlcnoldkekcifaaEq1
set_option linter.unusedSimpArgs false
set_option linter.unusedVariables false
namespace Go.Proofs.Ytlcnoldkekcifaa
open Go.Ab
structure TR (w : Nat → Nat) : Prop where
 b0 : 20 ≤ w 0 ∧ w 0 ≤ 24
 b1 : 8 ≤ w 1 ∧ w 1 ≤ 12
 b2 : 9 ≤ w 2 ∧ w 2 ≤ 10
 b3 : 6 ≤ w 3 ∧ w 3 ≤ 7
 b4 : w 4 ≤ 30
 p0 : w 1 + w 2 + 1 ≤ w 0 ∧ w 0 ≤ w 1 + w 2 + 3
 p1 : w 3 + w 4 ≤ w 1 ∧ w 1 ≤ w 3 + w 4 + 2
theorem truthC_eq {t c i w} (h : truthC t c i w < far) : within w (t.getD i default).weight.lo (t.getD i default).weight.hi = true ∧ truthC t c i w = c i w := by
 unfold truthC at *
 split at h
 ·rename_i h1; exact ⟨h1, if_pos h1⟩
 ·exact absurd h (by simp)
theorem tr_of {c w} (h : ∀ i, i < 5 → VAt exT (truthC exT c) w i) : TR w ∧ costW exT (truthC exT c) w 5 = c 4 (w 4) + c 3 (w 3) + c 2 (w 2) + c 1 (w 1) + c 0 (w 0) := by
 obtain ⟨h1, h2, h3⟩ := exT_parts h
 obtain ⟨k0, e0⟩ := truthC_eq (h 0 (by omega)).ok
 obtain ⟨k1, e1⟩ := truthC_eq (h 1 (by omega)).ok
 obtain ⟨k2, e2⟩ := truthC_eq (h 2 (by omega)).ok
 obtain ⟨k3, e3⟩ := truthC_eq (h 3 (by omega)).ok
 obtain ⟨k4, e4⟩ := truthC_eq (h 4 (by omega)).ok
 simp [exT, within] at k0 k1 k2 k3 k4
 refine ⟨⟨by omega, by omega, by omega, by omega, by omega, h2, h3⟩, ?_⟩
 rw [exT_cost, e0, e1, e2, e3, e4]; omega
theorem val {e : Nat → Int} {n : Int} (he : ∀ i, i < 5 → -100 ≤ e i ∧ e i ≤ 100) (w : Nat → Nat) (hw : TR w) (hn : e 4 * w 4 + e 3 * w 3 + e 2 * w 2 + e 1 * w 1 + e 0 * w 0 = n)
 (hl : ∀ w' : Nat → Nat, TR w' → n ≤ e 4 * w' 4 + e 3 * w' 3 + e 2 * w' 2 + e 1 * w' 1 + e 0 * w' 0) : leastP exT (truthC exT fun i w => e i * w) = n := by
 have hs := fun i (w : Nat) (hi : i < 5) (hw : w < 31) => (bet_small he i w hi hw).1
 have hf : M0 < far := by decide
 obtain ⟨b0, b1, b2, b3, b4, p0, p1⟩ := hw
 have t0 : truthC exT (fun i w => e i * w) 0 (w 0) = e 0 * w 0 := if_pos (by simp [exT, within]; omega)
 have t1 : truthC exT (fun i w => e i * w) 1 (w 1) = e 1 * w 1 := if_pos (by simp [exT, within]; omega)
 have t2 : truthC exT (fun i w => e i * w) 2 (w 2) = e 2 * w 2 := if_pos (by simp [exT, within]; omega)
 have t3 : truthC exT (fun i w => e i * w) 3 (w 3) = e 3 * w 3 := if_pos (by simp [exT, within]; omega)
 have t4 : truthC exT (fun i w => e i * w) 4 (w 4) = e 4 * w 4 := if_pos (by simp [exT, within]; omega)
 refine leastP_is (by decide) (tblOk_of exT_ok) (fun i w hi hw => truthC_small (hs i w hi hw)) w (exT_of (by omega) p0 p1 ?_) ?_ fun w' h' => ?_
 ·have := hs 0 (w 0) (by omega) (by omega)
  have := hs 1 (w 1) (by omega) (by omega)
  have := hs 2 (w 2) (by omega) (by omega)
  have := hs 3 (w 3) (by omega) (by omega)
  have := hs 4 (w 4) (by omega) (by omega)
  rw [t0, t1, t2, t3, t4]
  omega
 ·change costW exT _ w 5 = n
  rw [exT_cost, t0, t1, t2, t3, t4]; omega
 ·obtain ⟨h1, h2⟩ := tr_of h'
  change n ≤ costW exT _ w' 5
  rw [h2]
  exact hl w' h1
def wit (a b c d e : Nat) (i : Nat) : Nat := [a, b, c, d, e].getD i 0
theorem exT_w : lowP exT (weightE 4) = 0 ∧ highP exT (weightE 4) = -6 := by
 constructor
 ·refine val (fun i _ => by unfold weightE; split <;> omega) (wit 20 8 9 6 0) ⟨by decide, by decide, by decide, by decide, by decide, by decide, by decide⟩ (by decide) fun w' h => ?_
  obtain ⟨b0, b1, b2, b3, b4, p0, p1⟩ := h
  simp [weightE]
 ·refine val (e := fun i => -weightE 4 i) (fun i _ => by unfold weightE; split <;> omega) (wit 22 12 9 6 6) ⟨by decide, by decide, by decide, by decide, by decide, by decide, by decide⟩ (by decide) fun w' h => ?_
  obtain ⟨b0, b1, b2, b3, b4, p0, p1⟩ := h
  simp [weightE]; omega
theorem ex_weight : spanR exT (isPart exT 4) (weightE 4) = (⟨0, 6⟩, 0) := by
 have h1 : isPart exT 4 = true := by decide
 simp [spanR, askE, exT_ok, h1, exT_w.1, exT_w.2, far]
end Go.Proofs.Ytlcnoldkekcifaa

/-
  Cuts: Price, Rank and Cut of the example.
-/
namespace Go.Proofs.Ytlcnoldkekcifaa
open Go.Ab
theorem pays_bound (cut : List Int) (i : Nat) (hi : i < 5) : 0 ≤ paysE exT cut i ∧ paysE exT cut i ≤ 99 := paysE_small exT_ok cut i hi
theorem pays_a : paysE exT [] 0 = 2 ∧ paysE exT [] 1 = 0 ∧ paysE exT [] 2 = 0 ∧ paysE exT [] 3 = 0 ∧ paysE exT [] 4 = 0 := by decide +kernel
theorem low_a : lowP exT (paysE exT []) = 40 := by
 obtain ⟨e0, e1, e2, e3, e4⟩ := pays_a
 refine val (fun i hi => by have := pays_bound [] i hi; omega) (wit 20 8 9 6 0) ⟨by decide, by decide, by decide, by decide, by decide, by decide, by decide⟩ (by rw [e0, e1, e2, e3, e4]; decide) fun w' h => ?_
 obtain ⟨b0, b1, b2, b3, b4, p0, p1⟩ := h
 rw [e0, e1, e2, e3, e4]
 omega
theorem pays_b : paysE exT [0] 0 = 0 ∧ paysE exT [0] 1 = 3 ∧ paysE exT [0] 2 = 4 ∧ paysE exT [0] 3 = 0 ∧ paysE exT [0] 4 = 0 := by decide +kernel
theorem low_b : lowP exT (paysE exT [0]) = 60 := by
 obtain ⟨e0, e1, e2, e3, e4⟩ := pays_b
 refine val (fun i hi => by have := pays_bound [0] i hi; omega) (wit 20 8 9 6 0) ⟨by decide, by decide, by decide, by decide, by decide, by decide, by decide⟩ (by rw [e0, e1, e2, e3, e4]; decide) fun w' h => ?_
 obtain ⟨b0, b1, b2, b3, b4, p0, p1⟩ := h
 rw [e0, e1, e2, e3, e4]
 omega
theorem pays_c : paysE exT [0, 1] 0 = 0 ∧ paysE exT [0, 1] 1 = 0 ∧ paysE exT [0, 1] 2 = 4 ∧ paysE exT [0, 1] 3 = 6 ∧ paysE exT [0, 1] 4 = 1 := by decide +kernel
theorem low_c : lowP exT (paysE exT [0, 1]) = 72 := by
 obtain ⟨e0, e1, e2, e3, e4⟩ := pays_c
 refine val (fun i hi => by have := pays_bound [0, 1] i hi; omega) (wit 20 8 9 6 0) ⟨by decide, by decide, by decide, by decide, by decide, by decide, by decide⟩ (by rw [e0, e1, e2, e3, e4]; decide) fun w' h => ?_
 obtain ⟨b0, b1, b2, b3, b4, p0, p1⟩ := h
 rw [e0, e1, e2, e3, e4]
 omega
theorem high_c : highP exT (paysE exT [0, 1]) = -87 := by
 obtain ⟨e0, e1, e2, e3, e4⟩ := pays_c
 refine val (e := fun i => -paysE exT [0, 1] i) (fun i hi => by have := pays_bound [0, 1] i hi; omega) (wit 23 12 10 7 5) ⟨by decide, by decide, by decide, by decide, by decide, by decide, by decide⟩ (by rw [e0, e1, e2, e3, e4]; decide) fun w' h => ?_
 obtain ⟨b0, b1, b2, b3, b4, p0, p1⟩ := h
 rw [e0, e1, e2, e3, e4]
 omega
theorem ex_price : priceR exT [0, 1] = (⟨72, 87⟩, 0) := by
 have h1 : isCutP exT [0, 1] = true := by decide +kernel
 simp [priceR, spanR, askE, exT_ok, h1, low_c, high_c, far]
theorem rank_e : rankE exT [] [0] 0 = 2 ∧ rankE exT [] [0] 1 = -3 ∧ rankE exT [] [0] 2 = -4 ∧ rankE exT [] [0] 3 = 0 ∧ rankE exT [] [0] 4 = 0 := by decide +kernel
theorem rank_bound (i : Nat) (hi : i < 5) : -100 ≤ rankE exT [] [0] i ∧ rankE exT [] [0] i ≤ 100 := by
 have := pays_bound [] i hi; have := pays_bound [0] i hi; unfold rankE; omega
theorem low_r : lowP exT (rankE exT [] [0]) = -30 := by
 obtain ⟨e0, e1, e2, e3, e4⟩ := rank_e
 refine val (fun i hi => rank_bound i hi) (wit 23 12 10 6 6) ⟨by decide, by decide, by decide, by decide, by decide, by decide, by decide⟩ (by rw [e0, e1, e2, e3, e4]; decide) fun w' h => ?_
 obtain ⟨b0, b1, b2, b3, b4, p0, p1⟩ := h
 rw [e0, e1, e2, e3, e4]
 omega
theorem high_r : highP exT (rankE exT [] [0]) = 20 := by
 obtain ⟨e0, e1, e2, e3, e4⟩ := rank_e
 refine val (e := fun i => -rankE exT [] [0] i) (fun i hi => by have := rank_bound i hi; omega) (wit 20 8 9 6 2) ⟨by decide, by decide, by decide, by decide, by decide, by decide, by decide⟩ (by rw [e0, e1, e2, e3, e4]; decide) fun w' h => ?_
 obtain ⟨b0, b1, b2, b3, b4, p0, p1⟩ := h
 rw [e0, e1, e2, e3, e4]
 omega
theorem ex_rank : rankR exT [] [0] = (2, 0) := by
 have h1 : isCutP exT [] = true := by decide +kernel
 have h2 : isCutP exT [0] = true := by decide +kernel
 simp [rankR, rankS, spanR, askE, exT_ok, h1, h2, low_r, high_r, far]
theorem ex_cuts : cutsOf exT = [[], [0], [0, 1]] := by decide +kernel
theorem ex_cut : cutR exT = ([0, 1], 0) := by
 have h : bestS exT = (⟨some [0, 1], 72, true, false⟩, true) := by
  unfold bestS
  rw [ex_cuts]
  simp [foldB, stepB, priceLow, low_a, low_b, low_c, far]
 simp [cutR, exT_ok, h]
end Go.Proofs.Ytlcnoldkekcifaa

/-
  Cuts: works.
-/
namespace Go.Proofs.Ytlcnoldkekcifaa
open Go.Ab
theorem frzE_tok (l e loc r n) : frzE l e loc r (some (.tok n)) = (e, loc :: r) := rfl
set_option maxHeartbeats 2000000 in
@[simp] theorem e_works (lab s) : den T 17 [] lab s = some (.bool true, s) := by
 have l1 : exT.length = 5 := rfl
 have l2 : exU.length = 5 := rfl
 have e2 : ([[i64 0], [i64 1]] : List (List V)) = es cInt [0, 1] := rfl
 have e1 : ([[i64 0]] : List (List V)) = es cInt [0] := rfl
 have e5 : ([[i64 19], [i64 6], [i64 10], [i64 6], [i64 0]] : List (List V)) = es cInt [19, 6, 10, 6, 0] := rfl
 have e0 : ([] : List (List V)) = es cInt [] := rfl
 have hP := fun (F : Ab.Loc) lab => e_Price exT [0, 1] (by decide) (by decide) lab (F :: s)
 have hR := fun (F : Ab.Loc) lab => e_Rank exT [] [0] (by decide) (by decide) (by decide) lab (F :: s)
 have hS : ∀ (F : Ab.Loc) lab, den T 31 [.sl .no 1 (es cInt [0, 1]), .sl .no 1 [[i64 0], [i64 1]]] lab (F :: s) = some (.bool true, F :: s) := fun F lab => (e_Same2 [0, 1] [0, 1] (by decide) (by decide) lab (F :: s)).trans rfl
 have hS2 : ∀ (F : Ab.Loc) lab, den T 31 [.sl .no 1 (es cInt [19, 6, 10, 6, 0]), .sl .no 1 [[i64 19], [i64 6], [i64 10], [i64 6], [i64 0]]] lab (F :: s) = some (.bool true, F :: s) := fun F lab => (e_Same2 [19, 6, 10, 6, 0] [19, 6, 10, 6, 0] (by decide) (by decide) lab (F :: s)).trans rfl
 simp only [ex_price] at hP
 simp only [ex_rank, ← e0, ← e1] at hR
 simp only [← e2] at hP
 rw [den_fn t17 _ _ _ rfl]
 simp only [b17]
 simp (maxSteps := 1000000) (disch := first | omega | assumption | decide +kernel | (simp; done) | (simp; omega) | fail) [run_drawnK, frzE_tok, e_Example, ex_weight, hP, hR, hS, hS2, ex_cut, ex_change, ex_fix, l1, l2]
end Go.Proofs.Ytlcnoldkekcifaa

/-
  Cuts: the law's own functions: ready, change, cleared.
-/
namespace Go.Proofs.Ytlcnoldkekcifaa
open Go.Ab
def readyB (t : List Part) : Bool := decide (t.length ≤ 40) && tblOk t
@[simp] theorem e_ready (t : List Part) (lab s) : den T 15 [.sl .no 6 (es cPart t)] lab s = some (.bool (readyB t), s) := by
 unfold readyB
 rw [den_fn t15 _ _ _ rfl]
 simp only [b15]
 by_cases h : t.length ≤ 40
 ·have h' : (t.length : Int) ≤ 40 := by omega
  cases h2 : tblOk t <;> simp (maxSteps := 1000000) (disch := first | omega | assumption | decide +kernel | (simp; done) | (simp; omega) | fail) [h, h', h2]
 ·have h' : ¬ (t.length : Int) ≤ 40 := by omega
  simp (maxSteps := 1000000) (disch := first | omega | assumption | decide +kernel | (simp; done) | (simp; omega) | fail) [h, h']
def changeL (t : List Part) : Int × Bool := if (changeR t true).2 = 3 then (-1, true) else ((changeR t true).1, decide ((changeR t true).2 = 0) && (decide (0 ≤ (changeR t true).1) && decide ((changeR t true).1 ≤ 240)))
@[simp] theorem e_changeL (t : List Part) (lab s) : den T 24 [.sl .no 6 (es cPart t)] lab s = some (.tup [i64 (changeL t).1, .bool (changeL t).2], s) := by
 unfold changeL
 rw [den_fn t24 _ _ _ rfl]
 simp only [b24]
 by_cases h : (changeR t true).2 = 3
 ·simp (maxSteps := 1000000) (disch := first | omega | assumption | decide +kernel | (simp; done) | (simp; omega) | fail) [h]
 ·by_cases h0 : (changeR t true).2 = 0
  ·by_cases h1 : 0 ≤ (changeR t true).1
   ·by_cases h2 : (changeR t true).1 ≤ 240 <;> simp (maxSteps := 1000000) (disch := first | omega | assumption | decide +kernel | (simp; done) | (simp; omega) | fail) [h, h0, h1, h2]
   ·simp (maxSteps := 1000000) (disch := first | omega | assumption | decide +kernel | (simp; done) | (simp; omega) | fail) [h, h0, h1]
  ·simp (maxSteps := 1000000) (disch := first | omega | assumption | decide +kernel | (simp; done) | (simp; omega) | fail) [h, h0]
end Go.Proofs.Ytlcnoldkekcifaa

/-
  Cuts: cleared.
-/
namespace Go.Proofs.Ytlcnoldkekcifaa
open Go.Ab
def clearedT (t : List Part) (n : Nat) (waste : Int) (sp : Sp) : List Part := t.set n (if waste = 1 then { t.getD n default with waste := sp } else { t.getD n default with weight := sp })
def clearedO (t : List Part) (n : Nat) (waste : Int) : Sp := if waste = 1 then (t.getD n default).waste else (t.getD n default).weight
theorem e_cleared (t : List Part) (n : Int) (waste lo hi : Int) (hn : isPart t n = true) (ht : t.length ≤ 40) (F : Ab.Loc) (s : Stk) (lab : Nat) :
 den T 25 [.sl .no 6 (es cPart t), .agg [i64 n, i64 waste, i64 lo, i64 hi]] lab (F :: s) = some (.tup [.sl .no 6 (es cPart (clearedT t n.toNat waste ⟨lo, hi⟩)), .agg [i64 (clearedO t n.toNat waste).lo, i64 (clearedO t n.toNat waste).hi]], F :: s) := by
 have hb : 0 ≤ n ∧ n < t.length := by simp only [isPart, within, Bool.and_eq_true, decide_eq_true_eq] at hn; omega
 have hn2 : n.toNat < t.length := by omega
 have hne : ¬ t = [] := by intro e; subst e; simp at hn2
 have hC := fun (G : Ab.Loc) lab h => e_Copy07 t ht G (F :: s) lab h
 unfold clearedT clearedO
 rw [part_at hn2]
 rw [den_fn t25 _ _ _ rfl]
 simp only [b25]
 by_cases hw : waste = 1
 ·have hset : (es cPart t).set n.toNat [i64 t[n.toNat].of, i64 t[n.toNat].weight.lo, i64 t[n.toNat].weight.hi, i64 lo, i64 hi, i64 t[n.toNat].pence] = es cPart (t.set n.toNat { t[n.toNat] with waste := ⟨lo, hi⟩ }) := by
   simp only [es, List.map_set, cPart]
  have htake : (t.set n.toNat { t[n.toNat] with waste := ⟨lo, hi⟩ }).take t.length = t.set n.toNat { t[n.toNat] with waste := ⟨lo, hi⟩ } := List.take_of_length_le (by simp)
  simp (maxSteps := 1000000) (disch := first | omega | assumption | decide +kernel | (simp; done) | (simp; omega) | fail) [run_drawnK, hC, hb, hn2, hne, hw, hset, htake]
 ·have hset : (es cPart t).set n.toNat [i64 t[n.toNat].of, i64 lo, i64 hi, i64 t[n.toNat].waste.lo, i64 t[n.toNat].waste.hi, i64 t[n.toNat].pence] = es cPart (t.set n.toNat { t[n.toNat] with weight := ⟨lo, hi⟩ }) := by
   simp only [es, List.map_set, cPart]
  have htake : (t.set n.toNat { t[n.toNat] with weight := ⟨lo, hi⟩ }).take t.length = t.set n.toNat { t[n.toNat] with weight := ⟨lo, hi⟩ } := List.take_of_length_le (by simp)
  simp (maxSteps := 1000000) (disch := first | omega | assumption | decide +kernel | (simp; done) | (simp; omega) | fail) [run_drawnK, hC, hb, hn2, hne, hw, hset, htake]
end Go.Proofs.Ytlcnoldkekcifaa

/-
  Cuts: tables that part alike.
-/
namespace Go.Proofs.Ytlcnoldkekcifaa
open Go.Ab
structure Alike (t o : List Part) : Prop where
 len : o.length = t.length
 of : ∀ i (h : i < t.length), (o.getD i default).of = (t.getD i default).of
 waste : ∀ i (h : i < t.length), (o.getD i default).waste = (t.getD i default).waste
theorem Alike.pieces {t o} (h : Alike t o) (w j) : ∀ {m}, m ≤ t.length → piecesW o w j m = piecesW t w j m
 | 0, _ => rfl
 | m + 1, hm => by simp only [piecesW]; rw [h.pieces w j (by omega), h.len, h.of _ (by omega)]
theorem Alike.canCut {t o} (h : Alike t o) (j : Int) : canCut o j = canCut t j := by
 rw [Bool.eq_iff_iff]
 simp only [Proofs.Ytlcnoldkekcifaa.canCut, anyB, List.any_eq_true, decide_eq_true_eq]
 constructor
 ·rintro ⟨p, hp, e⟩
  obtain ⟨i, hi, rfl⟩ := List.getElem_of_mem hp
  have hi2 : i < t.length := by have := h.len; omega
  refine ⟨t[i], List.getElem_mem hi2, ?_⟩
  have := h.of i hi2
  rw [part_at hi, part_at hi2] at this
  rw [← this]; exact e
 ·rintro ⟨p, hp, e⟩
  obtain ⟨i, hi, rfl⟩ := List.getElem_of_mem hp
  have hi2 : i < o.length := by have := h.len; omega
  refine ⟨o[i], List.getElem_mem hi2, ?_⟩
  have := h.of i hi
  rw [part_at hi2, part_at hi] at this
  rw [this]; exact e
theorem Alike.vat {t o c c' w i} (h : Alike t o) (hi : i < t.length) (hv : VAt t c w i) (hc : c' i (w i) < far) : VAt o c' w i where
 lt := hv.lt
 ok := hc
 lost hcc := by
  rw [h.canCut] at hcc
  obtain ⟨l, h1, h2⟩ := hv.lost hcc
  exact ⟨l, by rw [h.len, h.pieces w i (Nat.le_refl _)]; exact h1, by rw [h.waste i hi]; exact h2⟩
theorem Alike.symm {t o} (h : Alike t o) : Alike o t := ⟨h.len.symm, fun i hi => (h.of i (by rw [← h.len]; exact hi)).symm, fun i hi => (h.waste i (by rw [← h.len]; exact hi)).symm⟩
theorem cost_le {t o : List Part} (hl : o.length = t.length) {c c' : Nat → Nat → Int} {w : Nat → Nat} {n : Nat} {d : Int} (hd : 0 ≤ d) (h : ∀ i, i < t.length → c' i (w i) ≤ c i (w i) + if i = n then d else 0) : ∀ {m}, m ≤ t.length → costW o c' w m ≤ costW t c w m + (if t.length - m ≤ n then d else 0)
 | 0, _ => by simp only [costW]; split <;> omega
 | m + 1, hm => by
   simp only [costW, hl]
   have h1 := cost_le hl hd h (m := m) (by omega)
   have h2 := h (t.length - 1 - m) (by omega)
   split at h1 <;> split at h2 <;> split <;> omega
theorem least_mono {t o : List Part} (ht : t.length ≤ 8) (ho : OfOk t) (hoo : OfOk o) (h : Alike t o) {c c' : Nat → Nat → Int} (hc : ∀ i w, i < t.length → w < 31 → c i w < far → -M0 ≤ c i w ∧ c i w ≤ M0)
 (hc' : ∀ i w, i < o.length → w < 31 → c' i w < far → -M0 ≤ c' i w ∧ c' i w ≤ M0) {n : Nat} {d : Int} (hd : 0 ≤ d)
 (hcc : ∀ i w, i < t.length → w < 31 → c i w < far → c' i w < far ∧ c' i w ≤ c i w + if i = n then d else 0) (hf : leastP t c < far) : leastP o c' < far ∧ leastP o c' ≤ leastP t c + d := by
 obtain ⟨w, h1, h2⟩ := leastP_ex ht ho hc hf
 have hv : ∀ i, i < o.length → VAt o c' w i := fun i hi => by
  have hi2 : i < t.length := by have := h.len; omega
  exact h.vat hi2 (h1 i hi2) (hcc i (w i) hi2 (h1 i hi2).lt (h1 i hi2).ok).1
 obtain ⟨k1, k2⟩ := leastP_le (by rw [h.len]; exact ht) hoo hc' w hv
 have h3 := cost_le (n := n) (d := d) h.len hd (fun i hi => (hcc i (w i) hi (h1 i hi).lt (h1 i hi).ok).2) (m := t.length) (Nat.le_refl _)
 rw [h2] at h3
 rw [h.len] at k1
 refine ⟨k2, ?_⟩
 split at h3 <;> omega
end Go.Proofs.Ytlcnoldkekcifaa

/-
  Cuts: one pound more room: plain law.
-/
namespace Go.Proofs.Ytlcnoldkekcifaa
open Go.Ab
theorem costW_range {t : List Part} {c : Nat → Nat → Int} {w : Nat → Nat} (h : ∀ i, i < t.length → 0 ≤ c i (w i) ∧ c i (w i) ≤ 30) : ∀ {m : Nat}, m ≤ t.length → 0 ≤ costW t c w m ∧ costW t c w m ≤ 30 * m
 | 0, _ => by simp [costW]
 | m + 1, hm => by
   have h1 := costW_range h (m := m) (by omega)
   have h2 := h (t.length - 1 - m) (by omega)
   simp only [costW]; omega
theorem awayC_ok {t : List Part} (h : tblOk t = true) (i w : Nat) (hi : i < t.length) (hw : w < 31) (_ : awayC t i w < far) : -M0 ≤ awayC t i w ∧ awayC t i w ≤ M0 := by
 have := awayC_small h i hi w hw; simp only [M0]; omega
theorem change_range {t : List Part} (h : tblOk t = true) (hf : leastP t (awayC t) < far) : 0 ≤ leastP t (awayC t) ∧ leastP t (awayC t) ≤ 240 := by
 obtain ⟨w, h1, h2⟩ := leastP_ex (tblOk_len h) (tblOk_of h) (awayC_ok h) hf
 have h3 := costW_range (t := t) (c := awayC t) (w := w) (fun i hi => awayC_small h i hi _ (h1 i hi).lt) (m := t.length) (Nat.le_refl _)
 have := tblOk_len h
 omega
theorem changeL_ok {t : List Part} (h : tblOk t = true) : changeL t = if far ≤ leastP t (awayC t) then (-1, true) else (leastP t (awayC t), true) := by
 unfold changeL changeR askE
 simp only [h, if_true]
 by_cases hf : far ≤ leastP t (awayC t)
 ·simp [hf]
 ·have := change_range h (by omega)
  simp [hf, this]
theorem wide_alike {t : List Part} {n : Nat} {sp : Sp} : Alike t (clearedT t n 0 sp) := by
 have e : ∀ i, i < t.length → (clearedT t n 0 sp).getD i default = if n = i then { t.getD n default with weight := sp } else t.getD i default := fun i hi => by
  simp only [clearedT, List.getD, List.getElem?_set]
  split
  ·rename_i e; subst e; simp [hi]
  ·rfl
 refine ⟨by simp [clearedT], fun i hi => ?_, fun i hi => ?_⟩ <;> rw [e i hi] <;> split
 ·rename_i e; subst e; rfl
 ·rfl
 ·rename_i e; subst e; rfl
 ·rfl
theorem wide_away {t : List Part} {n : Nat} {sp : Sp} (i w : Nat) (hi : i < t.length) (h1 : sp.lo ≤ (t.getD n default).weight.lo ∧ (t.getD n default).weight.hi ≤ sp.hi) (h2 : (t.getD n default).weight.lo - sp.lo + (sp.hi - (t.getD n default).weight.hi) = 1) :
 awayC (clearedT t n 0 sp) i w ≤ awayC t i w ∧ awayC t i w ≤ awayC (clearedT t n 0 sp) i w + if i = n then 1 else 0 := by
 unfold awayC
 simp only [clearedT, List.getD, List.getElem?_set] at *
 by_cases e : n = i
 ·subst e
  simp only [hi, if_true, List.getElem?_eq_getElem hi, Option.getD_some, awayS] at *
  simp only [show ¬ (0 : Int) = 1 by decide, if_false] at *
  omega
 ·rw [if_neg e, if_neg (fun h => e h.symm)]; omega
theorem pound_law {t : List Part} {n : Nat} {sp : Sp} (ht : tblOk t = true) (ho : tblOk (clearedT t n 0 sp) = true) (h1 : sp.lo ≤ (t.getD n default).weight.lo ∧ (t.getD n default).weight.hi ≤ sp.hi) (h2 : (t.getD n default).weight.lo - sp.lo + (sp.hi - (t.getD n default).weight.hi) = 1) :
 (changeL t).2 = true ∧ (changeL (clearedT t n 0 sp)).2 = true ∧ ((changeL (clearedT t n 0 sp)).1 = (changeL t).1 ∨ (changeL (clearedT t n 0 sp)).1 = (changeL t).1 - 1) ∧ ((changeL (clearedT t n 0 sp)).1 < 0 ↔ (changeL t).1 < 0) := by
 have ha := wide_alike (t := t) (n := n) (sp := sp)
 have hlt := fun i w hi => wide_away (t := t) (n := n) (sp := sp) i w hi h1 h2
 generalize clearedT t n 0 sp = o at *
 have hn := tblOk_len ht
 have down := fun hf => least_mono (n := n) (d := 0) hn (tblOk_of ht) (tblOk_of ho) ha (awayC_ok ht) (awayC_ok ho) (by omega) (fun i w hi _ hc => by have := (hlt i w hi).1; refine ⟨by omega, ?_⟩; split <;> omega) hf
 have up := fun hf => least_mono (n := n) (d := 1) (tblOk_len ho) (tblOk_of ho) (tblOk_of ht) ha.symm (awayC_ok ho) (awayC_ok ht) (by omega) (fun i w hi hw hc => by
  have hi2 : i < t.length := by rw [← ha.len]; exact hi
  have := (hlt i w hi2).2
  have := awayC_small ht i hi2 w hw
  have hf : far = 1099511627776 := rfl
  exact ⟨by omega, this.2 |> fun _ => by omega⟩) hf
 rw [changeL_ok ht, changeL_ok ho]
 by_cases hf : far ≤ leastP t (awayC t)
 ·by_cases hg : far ≤ leastP o (awayC o)
  ·simp [hf, hg]
  ·have := (up (by omega)).1; omega
 ·have d1 := down (by omega)
  have u1 := up d1.1
  have r1 := change_range ht (by omega)
  have r2 := change_range ho d1.1
  rw [if_neg hf, if_neg (by omega)]
  refine ⟨rfl, rfl, ?_, ?_⟩ <;> dsimp only <;> omega
end Go.Proofs.Ytlcnoldkekcifaa

/-
  Cuts: CutsPound.
-/
namespace Go.Proofs.Ytlcnoldkekcifaa
open Go.Ab
theorem readyB_ok {t : List Part} (h : readyB t = true) : tblOk t = true := by simp only [readyB, Bool.and_eq_true] at h; exact h.2
set_option maxHeartbeats 4000000 in
theorem e_CutsPound (t : List Part) (hl : t.length < 4611686018427387904) (n : Int) (lab s) : den T 4 [.sl .no 6 (es cPart t), i64 n] lab s = some (.bool true, s) := by
 rw [den_fn t4 _ _ _ rfl]
 simp only [b4]
 cases h1 : readyB t
 ·simp (maxSteps := 1000000) (disch := first | omega | assumption | decide +kernel | (simp; done) | (simp; omega) | fail) [h1]
 cases h2 : isPart t n
 ·simp (maxSteps := 1000000) (disch := first | omega | assumption | decide +kernel | (simp; done) | (simp; omega) | fail) [h1, h2]
 have ht := readyB_ok h1
 have hlen := tblOk_len ht
 have hb : 0 ≤ n ∧ n < t.length := by simp only [isPart, within, Bool.and_eq_true, decide_eq_true_eq] at h2; omega
 have hn2 : n.toNat < t.length := by omega
 have hw := tblOk_w ht n.toNat hn2
 have w1 : IntKind.i64.wrap (t[n.toNat].weight.hi + 1) = t[n.toNat].weight.hi + 1 := wi _ (by omega) (by omega)
 have w2 : IntKind.i64.wrap (t[n.toNat].weight.lo - 1) = t[n.toNat].weight.lo - 1 := wi _ (by omega) (by omega)
 have hC := fun lo hi F lab => e_cleared t n 0 lo hi h2 (by omega) F s lab
 have hA := fun (h : tblOk (clearedT t n.toNat 0 ⟨t[n.toNat].weight.lo, t[n.toNat].weight.hi + 1⟩) = true) => pound_law (sp := ⟨t[n.toNat].weight.lo, t[n.toNat].weight.hi + 1⟩) ht h (n := n.toNat) (by rw [part_at hn2]; dsimp only; omega) (by rw [part_at hn2]; dsimp only; omega)
 have hB := fun (h : tblOk (clearedT t n.toNat 0 ⟨t[n.toNat].weight.lo - 1, t[n.toNat].weight.hi⟩) = true) => pound_law (sp := ⟨t[n.toNat].weight.lo - 1, t[n.toNat].weight.hi⟩) ht h (n := n.toNat) (by rw [part_at hn2]; dsimp only; omega) (by rw [part_at hn2]; dsimp only; omega)
 have hCa := hC t[n.toNat].weight.lo (t[n.toNat].weight.hi + 1)
 have hCb := hC (t[n.toNat].weight.lo - 1) t[n.toNat].weight.hi
 clear hC
 generalize clearedT t n.toNat 0 ⟨t[n.toNat].weight.lo, t[n.toNat].weight.hi + 1⟩ = a at hA hCa
 generalize clearedT t n.toNat 0 ⟨t[n.toNat].weight.lo - 1, t[n.toNat].weight.hi⟩ = b at hB hCb
 obtain ⟨k, hT, hk1⟩ : ∃ k, changeL t = (k, true) ∧ -1 ≤ k ∧ k ≤ 240 := by
  rw [changeL_ok ht]; split
  ·exact ⟨_, rfl, by omega, by omega⟩
  ·rename_i h; have := change_range ht (by omega); exact ⟨_, rfl, by omega, by omega⟩
 have w3 : IntKind.i64.wrap (k - 1) = k - 1 := wi _ (by omega) (by omega)
 have e5 : ¬ k - 1 = k := by omega
 have key : ∀ o, (tblOk o = true → (changeL t).2 = true ∧ (changeL o).2 = true ∧ ((changeL o).1 = (changeL t).1 ∨ (changeL o).1 = (changeL t).1 - 1) ∧ ((changeL o).1 < 0 ↔ (changeL t).1 < 0)) →
  readyB o = false ∨ readyB o = true ∧ changeL o = (k, true) ∨ readyB o = true ∧ changeL o = (k - 1, true) ∧ (k - 1 < 0 ↔ k < 0) := fun o h => by
  cases hr : readyB o
  ·exact .inl rfl
  ·obtain ⟨_, h2, h3, h4⟩ := h (readyB_ok hr)
   rw [hT] at h3 h4
   generalize changeL o = m at h2 h3 h4 ⊢
   obtain ⟨m, mb⟩ := m
   dsimp only at h2 h3 h4
   subst h2
   rcases h3 with rfl | rfl
   ·exact .inr (.inl ⟨rfl, rfl⟩)
   ·exact .inr (.inr ⟨rfl, rfl, h4⟩)
 have kA := key a hA
 have kB := key b hB
 clear key hA hB
 by_cases k0 : k < 0
 ·have k1 : k - 1 < 0 := by omega
  rcases kA with ra | ⟨ra, ea⟩ | ⟨ra, ea, _⟩ <;> rcases kB with rb | ⟨rb, eb⟩ | ⟨rb, eb, _⟩
  ·simp (maxSteps := 1000000) (disch := first | omega | assumption | decide +kernel | (simp; done) | (simp; omega) | fail) [run_drawnK, h1, h2, ra, rb, hT, hCa, hCb, w1, w2, hn2, hb, k0]
  ·simp (maxSteps := 1000000) (disch := first | omega | assumption | decide +kernel | (simp; done) | (simp; omega) | fail) [run_drawnK, h1, h2, ra, rb, hT, hCa, hCb, w1, w2, hn2, hb, k0, eb]
  ·simp (maxSteps := 1000000) (disch := first | omega | assumption | decide +kernel | (simp; done) | (simp; omega) | fail) [run_drawnK, h1, h2, ra, rb, hT, hCa, hCb, w1, w2, hn2, hb, k0, eb, w3, e5, k1]
  ·simp (maxSteps := 1000000) (disch := first | omega | assumption | decide +kernel | (simp; done) | (simp; omega) | fail) [run_drawnK, h1, h2, ra, rb, hT, hCa, hCb, w1, w2, hn2, hb, k0, ea]
  ·simp (maxSteps := 1000000) (disch := first | omega | assumption | decide +kernel | (simp; done) | (simp; omega) | fail) [run_drawnK, h1, h2, ra, rb, hT, hCa, hCb, w1, w2, hn2, hb, k0, ea, eb]
  ·simp (maxSteps := 1000000) (disch := first | omega | assumption | decide +kernel | (simp; done) | (simp; omega) | fail) [run_drawnK, h1, h2, ra, rb, hT, hCa, hCb, w1, w2, hn2, hb, k0, ea, eb, w3, e5, k1]
  ·simp (maxSteps := 1000000) (disch := first | omega | assumption | decide +kernel | (simp; done) | (simp; omega) | fail) [run_drawnK, h1, h2, ra, rb, hT, hCa, hCb, w1, w2, hn2, hb, k0, ea, w3, e5, k1]
  ·simp (maxSteps := 1000000) (disch := first | omega | assumption | decide +kernel | (simp; done) | (simp; omega) | fail) [run_drawnK, h1, h2, ra, rb, hT, hCa, hCb, w1, w2, hn2, hb, k0, ea, eb, w3, e5, k1]
  ·simp (maxSteps := 1000000) (disch := first | omega | assumption | decide +kernel | (simp; done) | (simp; omega) | fail) [run_drawnK, h1, h2, ra, rb, hT, hCa, hCb, w1, w2, hn2, hb, k0, ea, eb, w3, e5, k1]
 ·rcases kA with ra | ⟨ra, ea⟩ | ⟨ra, ea, ka⟩ <;> rcases kB with rb | ⟨rb, eb⟩ | ⟨rb, eb, kb⟩
  ·simp (maxSteps := 1000000) (disch := first | omega | assumption | decide +kernel | (simp; done) | (simp; omega) | fail) [run_drawnK, h1, h2, ra, rb, hT, hCa, hCb, w1, w2, hn2, hb, k0]
  ·simp (maxSteps := 1000000) (disch := first | omega | assumption | decide +kernel | (simp; done) | (simp; omega) | fail) [run_drawnK, h1, h2, ra, rb, hT, hCa, hCb, w1, w2, hn2, hb, k0, eb]
  ·have k1 : ¬ k - 1 < 0 := fun h => k0 (kb.1 h)
   simp (maxSteps := 1000000) (disch := first | omega | assumption | decide +kernel | (simp; done) | (simp; omega) | fail) [run_drawnK, h1, h2, ra, rb, hT, hCa, hCb, w1, w2, hn2, hb, k0, eb, w3, e5, k1]
  ·simp (maxSteps := 1000000) (disch := first | omega | assumption | decide +kernel | (simp; done) | (simp; omega) | fail) [run_drawnK, h1, h2, ra, rb, hT, hCa, hCb, w1, w2, hn2, hb, k0, ea]
  ·simp (maxSteps := 1000000) (disch := first | omega | assumption | decide +kernel | (simp; done) | (simp; omega) | fail) [run_drawnK, h1, h2, ra, rb, hT, hCa, hCb, w1, w2, hn2, hb, k0, ea, eb]
  ·have k1 : ¬ k - 1 < 0 := fun h => k0 (kb.1 h)
   simp (maxSteps := 1000000) (disch := first | omega | assumption | decide +kernel | (simp; done) | (simp; omega) | fail) [run_drawnK, h1, h2, ra, rb, hT, hCa, hCb, w1, w2, hn2, hb, k0, ea, eb, w3, e5, k1]
  ·have k1 : ¬ k - 1 < 0 := fun h => k0 (ka.1 h)
   simp (maxSteps := 1000000) (disch := first | omega | assumption | decide +kernel | (simp; done) | (simp; omega) | fail) [run_drawnK, h1, h2, ra, rb, hT, hCa, hCb, w1, w2, hn2, hb, k0, ea, w3, e5, k1]
  ·have k1 : ¬ k - 1 < 0 := fun h => k0 (ka.1 h)
   simp (maxSteps := 1000000) (disch := first | omega | assumption | decide +kernel | (simp; done) | (simp; omega) | fail) [run_drawnK, h1, h2, ra, rb, hT, hCa, hCb, w1, w2, hn2, hb, k0, ea, eb, w3, e5, k1]
  ·have k1 : ¬ k - 1 < 0 := fun h => k0 (ka.1 h)
   simp (maxSteps := 1000000) (disch := first | omega | assumption | decide +kernel | (simp; done) | (simp; omega) | fail) [run_drawnK, h1, h2, ra, rb, hT, hCa, hCb, w1, w2, hn2, hb, k0, ea, eb, w3, e5, k1]
end Go.Proofs.Ytlcnoldkekcifaa

/-
  What the arguments of the laws of cuts read as.
-/
namespace Go.Proofs.Ytlcnoldkekcifaa
open Go.Ab
set_option maxRecDepth 100000
theorem cells34 : Try.prog.cellsOf 34 = 6 := by kernel_rfl
variable {B : TypeId → Nat → Prop} {n : Nat} {vs : List V}
theorem fit_int (h : Fit Try.prog B (n + 1) 3 vs) : ∃ x, vs = [i64 x] := by
 simp only [Fit, Try.underlying3] at h
 exact h
theorem fit_sp (h : Fit Try.prog B (n + 2) 27 vs) : ∃ x : Sp, vs = cSp x := by
 simp only [Fit, FitF, Try.underlying27, Try.underlying3] at h
 obtain ⟨_, _, rfl, ⟨x, rfl⟩, _, _, rfl, ⟨y, rfl⟩, rfl⟩ := h
 exact ⟨⟨x, y⟩, rfl⟩
theorem fit_part (h : Fit Try.prog B (n + 3) 34 vs) : ∃ x : Part, vs = cPart x := by
 rw [Fit, Try.underlying34] at h
 simp only [FitF] at h
 obtain ⟨_, _, rfl, h0, _, _, rfl, h1, _, _, rfl, h2, _, _, rfl, h3, rfl⟩ := h
 obtain ⟨a, rfl⟩ := fit_int h0
 obtain ⟨x, rfl⟩ := fit_sp h1
 obtain ⟨y, rfl⟩ := fit_sp h2
 obtain ⟨z, rfl⟩ := fit_int h3
 exact ⟨⟨a, x, y, z⟩, rfl⟩
theorem es_all {α : Type} {f : α → List V} (l : List (List V)) (h : ∀ x ∈ l, ∃ y, x = f y) : ∃ l' : List α, l = es f l' := by
 obtain ⟨l', h1, _⟩ := es_of (Q := fun _ => True) l fun x hx => by obtain ⟨y, hy⟩ := h x hx; exact ⟨y, hy, trivial⟩
 exact ⟨l', h1⟩
theorem fit_parts (h : Fit Try.prog B (n + 4) 22 vs) : ∃ l : List Part, vs = [.sl .no 6 (es cPart l)] ∧ B 34 l.length := by
 rw [Fit, Try.underlying22] at h
 simp only at h
 obtain ⟨l, rfl, hb, h⟩ := h
 obtain ⟨l', rfl⟩ := es_all (f := cPart) l fun x hx => fit_part (h x hx)
 rw [cells34]
 exact ⟨l', rfl, by simpa using hb⟩
def Reach (e : TypeId) (k : Nat) : Prop := k ≤ maxLen ∧ k * Try.prog.bytesOf e ≤ reachBytes
theorem bytes34 : Try.prog.bytesOf 34 = 48 := by kernel_rfl
theorem reach_parts {k : Nat} (h : Reach 34 k) : k < 4611686018427387904 := by
 simp only [Reach, bytes34, reachBytes] at h; omega
end Go.Proofs.Ytlcnoldkekcifaa
