/-
  Cuts: Price, Rank and Cut of the example.
-/
import Derived.Test.YtlcnoldkekcifaaEq2
import Derived.Test.YtlcnoldkekcifaaEq1
set_option linter.unusedSimpArgs false
set_option linter.unusedVariables false
namespace Go.Proofs.Ytlcnoldkekcifaa
open Go.Ab
theorem pays_bound (cut : List Int) (i : Nat) (hi : i < 5) : 0 ≤ paysE exT cut i ∧ paysE exT cut i ≤ 99 := paysE_small exT_ok cut i hi
theorem pays_a : paysE exT [] 0 = 2 ∧ paysE exT [] 1 = 0 ∧ paysE exT [] 2 = 0 ∧ paysE exT [] 3 = 0 ∧ paysE exT [] 4 = 0 := by decide +kernel
theorem low_a : lowP exT (paysE exT []) = 40 := by
 obtain ⟨e0, e1, e2, e3, e4⟩ := pays_a
 refine val (fun i hi => by have := pays_bound [] i hi; omega) (wit 20 8 9 6 0) ⟨by decide, by decide, by decide, by decide, by decide, by decide, by decide⟩ (by rw [e0, e1, e2, e3, e4]; decide) fun w' h => ?_
 obtain ⟨b0, b1, b2, b3, b4, p0, p1⟩ := h
 rw [e0, e1, e2, e3, e4]
 omega
theorem pays_b : paysE exT [0] 0 = 0 ∧ paysE exT [0] 1 = 3 ∧ paysE exT [0] 2 = 4 ∧ paysE exT [0] 3 = 0 ∧ paysE exT [0] 4 = 0 := by decide +kernel
theorem low_b : lowP exT (paysE exT [0]) = 60 := by
 obtain ⟨e0, e1, e2, e3, e4⟩ := pays_b
 refine val (fun i hi => by have := pays_bound [0] i hi; omega) (wit 20 8 9 6 0) ⟨by decide, by decide, by decide, by decide, by decide, by decide, by decide⟩ (by rw [e0, e1, e2, e3, e4]; decide) fun w' h => ?_
 obtain ⟨b0, b1, b2, b3, b4, p0, p1⟩ := h
 rw [e0, e1, e2, e3, e4]
 omega
theorem pays_c : paysE exT [0, 1] 0 = 0 ∧ paysE exT [0, 1] 1 = 0 ∧ paysE exT [0, 1] 2 = 4 ∧ paysE exT [0, 1] 3 = 6 ∧ paysE exT [0, 1] 4 = 1 := by decide +kernel
theorem low_c : lowP exT (paysE exT [0, 1]) = 72 := by
 obtain ⟨e0, e1, e2, e3, e4⟩ := pays_c
 refine val (fun i hi => by have := pays_bound [0, 1] i hi; omega) (wit 20 8 9 6 0) ⟨by decide, by decide, by decide, by decide, by decide, by decide, by decide⟩ (by rw [e0, e1, e2, e3, e4]; decide) fun w' h => ?_
 obtain ⟨b0, b1, b2, b3, b4, p0, p1⟩ := h
 rw [e0, e1, e2, e3, e4]
 omega
theorem high_c : highP exT (paysE exT [0, 1]) = -87 := by
 obtain ⟨e0, e1, e2, e3, e4⟩ := pays_c
 refine val (e := fun i => -paysE exT [0, 1] i) (fun i hi => by have := pays_bound [0, 1] i hi; omega) (wit 23 12 10 7 5) ⟨by decide, by decide, by decide, by decide, by decide, by decide, by decide⟩ (by rw [e0, e1, e2, e3, e4]; decide) fun w' h => ?_
 obtain ⟨b0, b1, b2, b3, b4, p0, p1⟩ := h
 rw [e0, e1, e2, e3, e4]
 omega
theorem ex_price : priceR exT [0, 1] = (⟨72, 87⟩, 0) := by
 have h1 : isCutP exT [0, 1] = true := by decide +kernel
 simp [priceR, spanR, askE, exT_ok, h1, low_c, high_c, far]
theorem rank_e : rankE exT [] [0] 0 = 2 ∧ rankE exT [] [0] 1 = -3 ∧ rankE exT [] [0] 2 = -4 ∧ rankE exT [] [0] 3 = 0 ∧ rankE exT [] [0] 4 = 0 := by decide +kernel
theorem rank_bound (i : Nat) (hi : i < 5) : -100 ≤ rankE exT [] [0] i ∧ rankE exT [] [0] i ≤ 100 := by
 have := pays_bound [] i hi; have := pays_bound [0] i hi; unfold rankE; omega
theorem low_r : lowP exT (rankE exT [] [0]) = -30 := by
 obtain ⟨e0, e1, e2, e3, e4⟩ := rank_e
 refine val (fun i hi => rank_bound i hi) (wit 23 12 10 6 6) ⟨by decide, by decide, by decide, by decide, by decide, by decide, by decide⟩ (by rw [e0, e1, e2, e3, e4]; decide) fun w' h => ?_
 obtain ⟨b0, b1, b2, b3, b4, p0, p1⟩ := h
 rw [e0, e1, e2, e3, e4]
 omega
theorem high_r : highP exT (rankE exT [] [0]) = 20 := by
 obtain ⟨e0, e1, e2, e3, e4⟩ := rank_e
 refine val (e := fun i => -rankE exT [] [0] i) (fun i hi => by have := rank_bound i hi; omega) (wit 20 8 9 6 2) ⟨by decide, by decide, by decide, by decide, by decide, by decide, by decide⟩ (by rw [e0, e1, e2, e3, e4]; decide) fun w' h => ?_
 obtain ⟨b0, b1, b2, b3, b4, p0, p1⟩ := h
 rw [e0, e1, e2, e3, e4]
 omega
theorem ex_rank : rankR exT [] [0] = (2, 0) := by
 have h1 : isCutP exT [] = true := by decide +kernel
 have h2 : isCutP exT [0] = true := by decide +kernel
 simp [rankR, rankS, spanR, askE, exT_ok, h1, h2, low_r, high_r, far]
theorem ex_cuts : cutsOf exT = [[], [0], [0, 1]] := by decide +kernel
theorem ex_cut : cutR exT = ([0, 1], 0) := by
 have h : bestS exT = (⟨some [0, 1], 72, true, false⟩, true) := by
  unfold bestS
  rw [ex_cuts]
  simp [foldB, stepB, priceLow, low_a, low_b, low_c, far]
 simp [cutR, exT_ok, h]
end Go.Proofs.Ytlcnoldkekcifaa

/-
  Cuts: works.
-/
namespace Go.Proofs.Ytlcnoldkekcifaa
open Go.Ab
theorem frzE_tok (l e loc r n) : frzE l e loc r (some (.tok n)) = (e, loc :: r) := rfl
set_option maxHeartbeats 2000000 in
@[simp] theorem e_works (lab s) : den T 17 [] lab s = some (.bool true, s) := by
 have l1 : exT.length = 5 := rfl
 have l2 : exU.length = 5 := rfl
 have e2 : ([[i64 0], [i64 1]] : List (List V)) = es cInt [0, 1] := rfl
 have e1 : ([[i64 0]] : List (List V)) = es cInt [0] := rfl
 have e5 : ([[i64 19], [i64 6], [i64 10], [i64 6], [i64 0]] : List (List V)) = es cInt [19, 6, 10, 6, 0] := rfl
 have e0 : ([] : List (List V)) = es cInt [] := rfl
 have hP := fun (F : Ab.Loc) lab => e_Price exT [0, 1] (by decide) (by decide) lab (F :: s)
 have hR := fun (F : Ab.Loc) lab => e_Rank exT [] [0] (by decide) (by decide) (by decide) lab (F :: s)
 have hS : ∀ (F : Ab.Loc) lab, den T 31 [.sl .no 1 (es cInt [0, 1]), .sl .no 1 [[i64 0], [i64 1]]] lab (F :: s) = some (.bool true, F :: s) := fun F lab => (e_Same2 [0, 1] [0, 1] (by decide) (by decide) lab (F :: s)).trans rfl
 have hS2 : ∀ (F : Ab.Loc) lab, den T 31 [.sl .no 1 (es cInt [19, 6, 10, 6, 0]), .sl .no 1 [[i64 19], [i64 6], [i64 10], [i64 6], [i64 0]]] lab (F :: s) = some (.bool true, F :: s) := fun F lab => (e_Same2 [19, 6, 10, 6, 0] [19, 6, 10, 6, 0] (by decide) (by decide) lab (F :: s)).trans rfl
 simp only [ex_price] at hP
 simp only [ex_rank, ← e0, ← e1] at hR
 simp only [← e2] at hP
 rw [den_fn t17 _ _ _ rfl]
 simp only [b17]
 simp (maxSteps := 1000000) (disch := first | omega | assumption | decide +kernel | (simp; done) | (simp; omega) | fail) [run_drawnK, frzE_tok, e_Example, ex_weight, hP, hR, hS, hS2, ex_cut, ex_change, ex_fix, l1, l2]
end Go.Proofs.Ytlcnoldkekcifaa

/-
  Cuts: the law's own functions: ready, change, cleared.
-/
namespace Go.Proofs.Ytlcnoldkekcifaa
open Go.Ab
def readyB (t : List Part) : Bool := decide (t.length ≤ 40) && tblOk t
@[simp] theorem e_ready (t : List Part) (lab s) : den T 15 [.sl .no 6 (es cPart t)] lab s = some (.bool (readyB t), s) := by
 unfold readyB
 rw [den_fn t15 _ _ _ rfl]
 simp only [b15]
 by_cases h : t.length ≤ 40
 ·have h' : (t.length : Int) ≤ 40 := by omega
  cases h2 : tblOk t <;> simp (maxSteps := 1000000) (disch := first | omega | assumption | decide +kernel | (simp; done) | (simp; omega) | fail) [h, h', h2]
 ·have h' : ¬ (t.length : Int) ≤ 40 := by omega
  simp (maxSteps := 1000000) (disch := first | omega | assumption | decide +kernel | (simp; done) | (simp; omega) | fail) [h, h']
def changeL (t : List Part) : Int × Bool := if (changeR t true).2 = 3 then (-1, true) else ((changeR t true).1, decide ((changeR t true).2 = 0) && (decide (0 ≤ (changeR t true).1) && decide ((changeR t true).1 ≤ 240)))
@[simp] theorem e_changeL (t : List Part) (lab s) : den T 24 [.sl .no 6 (es cPart t)] lab s = some (.tup [i64 (changeL t).1, .bool (changeL t).2], s) := by
 unfold changeL
 rw [den_fn t24 _ _ _ rfl]
 simp only [b24]
 by_cases h : (changeR t true).2 = 3
 ·simp (maxSteps := 1000000) (disch := first | omega | assumption | decide +kernel | (simp; done) | (simp; omega) | fail) [h]
 ·by_cases h0 : (changeR t true).2 = 0
  ·by_cases h1 : 0 ≤ (changeR t true).1
   ·by_cases h2 : (changeR t true).1 ≤ 240 <;> simp (maxSteps := 1000000) (disch := first | omega | assumption | decide +kernel | (simp; done) | (simp; omega) | fail) [h, h0, h1, h2]
   ·simp (maxSteps := 1000000) (disch := first | omega | assumption | decide +kernel | (simp; done) | (simp; omega) | fail) [h, h0, h1]
  ·simp (maxSteps := 1000000) (disch := first | omega | assumption | decide +kernel | (simp; done) | (simp; omega) | fail) [h, h0]
end Go.Proofs.Ytlcnoldkekcifaa

/-
  Cuts: cleared.
-/
namespace Go.Proofs.Ytlcnoldkekcifaa
open Go.Ab
end Go.Proofs.Ytlcnoldkekcifaa

/-
  Cuts: tables that part alike.
-/
namespace Go.Proofs.Ytlcnoldkekcifaa
open Go.Ab
structure Alike (t o : List Part) : Prop where
 len : o.length = t.length
 of : ∀ i (h : i < t.length), (o.getD i default).of = (t.getD i default).of
 waste : ∀ i (h : i < t.length), (o.getD i default).waste = (t.getD i default).waste
theorem Alike.pieces {t o} (h : Alike t o) (w j) : ∀ {m}, m ≤ t.length → piecesW o w j m = piecesW t w j m
 | 0, _ => rfl
 | m + 1, hm => by simp only [piecesW]; rw [h.pieces w j (by omega), h.len, h.of _ (by omega)]
theorem Alike.canCut {t o} (h : Alike t o) (j : Int) : canCut o j = canCut t j := by
 rw [Bool.eq_iff_iff]
 simp only [Proofs.Ytlcnoldkekcifaa.canCut, anyB, List.any_eq_true, decide_eq_true_eq]
 constructor
 ·rintro ⟨p, hp, e⟩
  obtain ⟨i, hi, rfl⟩ := List.getElem_of_mem hp
  have hi2 : i < t.length := by have := h.len; omega
  refine ⟨t[i], List.getElem_mem hi2, ?_⟩
  have := h.of i hi2
  rw [part_at hi, part_at hi2] at this
  rw [← this]; exact e
 ·rintro ⟨p, hp, e⟩
  obtain ⟨i, hi, rfl⟩ := List.getElem_of_mem hp
  have hi2 : i < o.length := by have := h.len; omega
  refine ⟨o[i], List.getElem_mem hi2, ?_⟩
  have := h.of i hi
  rw [part_at hi2, part_at hi] at this
  rw [this]; exact e
theorem Alike.symm {t o} (h : Alike t o) : Alike o t := ⟨h.len.symm, fun i hi => (h.of i (by rw [← h.len]; exact hi)).symm, fun i hi => (h.waste i (by rw [← h.len]; exact hi)).symm⟩
end Go.Proofs.Ytlcnoldkekcifaa

/-
  Cuts: one pound more room: plain law.
-/
namespace Go.Proofs.Ytlcnoldkekcifaa
open Go.Ab
theorem costW_range {t : List Part} {c : Nat → Nat → Int} {w : Nat → Nat} (h : ∀ i, i < t.length → 0 ≤ c i (w i) ∧ c i (w i) ≤ 30) : ∀ {m : Nat}, m ≤ t.length → 0 ≤ costW t c w m ∧ costW t c w m ≤ 30 * m
 | 0, _ => by simp [costW]
 | m + 1, hm => by
   have h1 := costW_range h (m := m) (by omega)
   have h2 := h (t.length - 1 - m) (by omega)
   simp only [costW]; omega
theorem awayC_ok {t : List Part} (h : tblOk t = true) (i w : Nat) (hi : i < t.length) (hw : w < 31) (_ : awayC t i w < far) : -M0 ≤ awayC t i w ∧ awayC t i w ≤ M0 := by
 have := awayC_small h i hi w hw; simp only [M0]; omega
theorem change_range {t : List Part} (h : tblOk t = true) (hf : leastP t (awayC t) < far) : 0 ≤ leastP t (awayC t) ∧ leastP t (awayC t) ≤ 240 := by
 obtain ⟨w, h1, h2⟩ := leastP_ex (tblOk_len h) (tblOk_of h) (awayC_ok h) hf
 have h3 := costW_range (t := t) (c := awayC t) (w := w) (fun i hi => awayC_small h i hi _ (h1 i hi).lt) (m := t.length) (Nat.le_refl _)
 have := tblOk_len h
 omega
theorem changeL_ok {t : List Part} (h : tblOk t = true) : changeL t = if far ≤ leastP t (awayC t) then (-1, true) else (leastP t (awayC t), true) := by
 unfold changeL changeR askE
 simp only [h, if_true]
 by_cases hf : far ≤ leastP t (awayC t)
 ·simp [hf]
 ·have := change_range h (by omega)
  simp [hf, this]
end Go.Proofs.Ytlcnoldkekcifaa

/-
  Cuts: CutsPound.
-/
namespace Go.Proofs.Ytlcnoldkekcifaa
open Go.Ab
theorem readyB_ok {t : List Part} (h : readyB t = true) : tblOk t = true := by simp only [readyB, Bool.and_eq_true] at h; exact h.2
end Go.Proofs.Ytlcnoldkekcifaa

/-
  Cuts: the reference's least: rows together.
-/
namespace Go.Proofs.Ytlcnoldkekcifaa
open Go.Ab
def tog1 (a b : List Int) (n : Nat) (o : List Int) (m : Nat) : List Int := o.set (n + m) (min (o.getD (n + m) 0) (a.getD n 0 + b.getD m 0))
def togRow (a b : List Int) (o : List Int) (n : Nat) : List Int := (List.range (31 - n)).foldl (tog1 a b n) o
def togR (a b : List Int) : List Int := (List.range 31).foldl (togRow a b) farR
theorem tog1_length (a b n o m) : (tog1 a b n o m).length = o.length := by simp [tog1]
theorem togRow_length (a b o n) : (togRow a b o n).length = o.length := by
 have : ∀ (L : List Nat) (o : List Int), (L.foldl (tog1 a b n) o).length = o.length := by
  intro L; induction L with
  | nil => intro o; rfl
  | cons x L ih => intro o; rw [List.foldl_cons, ih, tog1_length]
 exact this _ _
@[simp] theorem togR_length (a b) : (togR a b).length = 31 := by
 have : ∀ (L : List Nat) (o : List Int), (L.foldl (togRow a b) o).length = o.length := by
  intro L; induction L with
  | nil => intro o; rfl
  | cons x L ih => intro o; rw [List.foldl_cons, ih, togRow_length]
 exact this _ _
structure RefB (X : Int) (c : List Int) : Prop where
 len : c.length = 31
 is : ∀ k, k < 31 → -X ≤ c.getD k 0 ∧ c.getD k 0 ≤ X ∨ far - X ≤ c.getD k 0 ∧ c.getD k 0 ≤ far + X
theorem RefB.mono {X Y c} (h : RefB X c) (hX : X ≤ Y) : RefB Y c := ⟨h.len, fun k hk => by have := h.is k hk; omega⟩
theorem RefB.nothing : RefB 0 nothingR := ⟨rowB_nothing.len, fun w hw => by
 rw [nothingR_get hw]; split
 ·left; omega
 ·right; omega⟩
def sumI (f : Nat → Int) (b : Nat) : Nat → Int
 | 0 => 0
 | m + 1 => sumI f b m + f (b + m)
def sumW (f : Nat → Nat) (b : Nat) : Nat → Nat
 | 0 => 0
 | m + 1 => sumW f b m + f (b + m)
theorem sumI_head (f b) : ∀ m, sumI f b (m + 1) = f b + sumI f (b + 1) m
 | 0 => by simp [sumI]
 | m + 1 => by rw [sumI, sumI_head f b m, sumI]; rw [show b + (m + 1) = b + 1 + m by omega]; omega
theorem sumW_head (f b) : ∀ m, sumW f b (m + 1) = f b + sumW f (b + 1) m
 | 0 => by simp [sumW]
 | m + 1 => by rw [sumW, sumW_head f b m, sumW]; rw [show b + (m + 1) = b + 1 + m by omega]; omega
theorem costW_sum (t c w) : ∀ m, m ≤ t.length → costW t c w m = sumI (fun i => c i (w i)) (t.length - m) m
 | 0, _ => rfl
 | m + 1, h => by
   rw [sumI_head, costW, costW_sum t c w m (by omega)]
   rw [show t.length - (m + 1) = t.length - 1 - m by omega, show t.length - 1 - m + 1 = t.length - m by omega]; omega
theorem piecesW_sum (t w j) : ∀ m, m ≤ t.length → piecesW t w j m = sumW (fun i => if (t.getD i default).of = (j : Int) then w i else 0) (t.length - m) m
 | 0, _ => rfl
 | m + 1, h => by
   rw [sumW_head, piecesW, piecesW_sum t w j m (by omega)]
   rw [show t.length - (m + 1) = t.length - 1 - m by omega, show t.length - 1 - m + 1 = t.length - m by omega]; omega
section
variable {t : List Part} {B : List (List Int)} {i b : Nat} {Y : Int} (hY : 0 ≤ Y)
end
end Go.Proofs.Ytlcnoldkekcifaa

/-
  Cuts: the reference's small functions.
-/
namespace Go.Proofs.Ytlcnoldkekcifaa
open Go.Ab
def hasB (s : Sp) (n : Int) : Bool := decide (s.lo ≤ n) && decide (n ≤ s.hi)
@[simp] theorem e_has (a0 : Int) (a1 : Int) (n : Int) (lab s) : den T 22 [.agg [i64 a0, i64 a1], i64 n] lab s = some (.bool (hasB (⟨a0, a1⟩ : Sp) n), s) := by
 rw [den_fn t22 _ _ _ rfl]
 simp only [b22]
 by_cases h1 : a0 ≤ n
 ·by_cases h2 : n ≤ a1 <;> simp (maxSteps := 1000000) (disch := first | omega | assumption | decide +kernel | (simp; done) | (simp; omega) | fail) [h1, h2, hasB]
 ·simp (maxSteps := 1000000) (disch := first | omega | assumption | decide +kernel | (simp; done) | (simp; omega) | fail) [h1, hasB]
structure Wts (t : List Part) (l : List Int) : Prop where
 len : l.length = t.length
 is : ∀ k, k < t.length → 0 ≤ l.getD k 0 ∧ l.getD k 0 ≤ 30
def lostOf (t : List Part) (l : List Int) (i : Nat) : Int := (List.range t.length).foldl (fun n k => if (t.getD k default).of = (i : Int) then n - l.getD k 0 else n) (l.getD i 0)
theorem e_LostOf_l (t : List Part) (l : List Int) (i : Nat) (ht : t.length ≤ 40) (hw : Wts t l) (hi0 : i < t.length) (s : Stk)  :
 Run T b56l0 [(0, .sl .no 6 (es cPart t)), (1, .sl .no 1 (es cInt l)), (2, i64 i), (7, i64 (l.getD i 0)), (8, i64 0)] ([] :: s) = some (.exit 0, [(0, .sl .no 6 (es cPart t)), (1, .sl .no 1 (es cInt l)), (2, i64 i), (7, i64 ((List.range t.length).foldl (fun n k => if (t.getD k default).of = (i : Int) then n - l.getD k 0 else n) (l.getD i 0))), (8, i64 ((List.range t.length).length : Nat)), (16, .bool false)], [] :: s) := by
 have key := loop_fold (T := T) (live := [0, 1, 2, 7, 8]) (keep := []) (b := d56l0) (List.range t.length) (fun k n => -(30 * (k : Int)) ≤ n ∧ n ≤ 30) (fun n k => if (t.getD k default).of = (i : Int) then n - l.getD k 0 else n) (fun k (a : Int) => [(0, .sl .no 6 (es cPart t)), (1, .sl .no 1 (es cInt l)), (2, i64 i), (7, i64 a), (8, i64 (k : Nat))]) (fun k (a : Int) => [] :: s) (fun (a : Int) => (.exit 0, [(0, .sl .no 6 (es cPart t)), (1, .sl .no 1 (es cInt l)), (2, i64 i), (7, i64 a), (8, i64 ((List.range t.length).length : Nat)), (16, .bool false)], [] :: s)) (by simp) ?_ ?_ ?_ (l.getD i 0) (by have := hw.is i hi0; omega) [(0, .sl .no 6 (es cPart t)), (1, .sl .no 1 (es cInt l)), (2, i64 i), (7, i64 (l.getD i 0)), (8, i64 0)] ([] :: s) (by simp) (by simp)
 ·exact key
 ·intro k a hk hi
  try simp only [List.length_range] at hk
  try simp only [List.getElem_range]
  have hk2 : (k : Int) < t.length := by omega
  have hkl : k < l.length := by rw [hw.len]; exact hk
  have e0 : l.getD k 0 = l[k] := by simp [List.getD, hkl]
  have hb := hw.is k hk
  rw [e0] at hb ⊢
  rw [part_at hk]
  have w1 : IntKind.i64.wrap (a - l[k]) = a - l[k] := wi _ (by omega) (by omega)
  by_cases h : t[k].of = (i : Int)
  ·simp (maxSteps := 1000000) (disch := first | omega | assumption | decide +kernel | (simp; done) | (simp; omega) | fail) [hk, hk2, hkl, h, w1, wk k (by omega)]
  ·simp (maxSteps := 1000000) (disch := first | omega | assumption | decide +kernel | (simp; done) | (simp; omega) | fail) [hk, hk2, hkl, h, wk k (by omega)]
 ·intro k a hk hi
  try simp only [List.length_range] at hk
  try simp only [List.getElem_range]
  have hb := hw.is k hk
  split <;> omega
 ·intro a hi
  simp
@[simp] theorem e_LostOf (t : List Part) (l : List Int) (i : Nat) (ht : t.length ≤ 40) (hw : Wts t l) (hi0 : i < t.length) (lab s) : den T 56 [.sl .no 6 (es cPart t), .sl .no 1 (es cInt l), i64 i] lab s = some (i64 (lostOf t l i), s) := by
 have h := e_LostOf_l t l i ht hw hi0 s
 have hil : i < l.length := by rw [hw.len]; exact hi0
 have e0 : l.getD i 0 = l[i] := by simp [List.getD, hil]
 rw [show (List.range t.length).foldl (fun n k => if (t.getD k default).of = (i : Int) then n - l.getD k 0 else n) (l.getD i 0) = lostOf t l i from rfl] at h
 rw [e0] at h
 rw [den_fn t56 _ _ _ rfl]
 simp only [b56]
 simp (maxSteps := 1000000) (disch := first | omega | assumption | decide +kernel | (simp; done) | (simp; omega) | fail) [h, hil]
def lostOk (t : List Part) (l : List Int) (i : Nat) : Bool := !canCut t i || within (lostOf t l i) (t.getD i default).waste.lo (t.getD i default).waste.hi
def wtsB (l : List Int) : Bool := allB (fun x => within x 0 30) l
def partingB (t : List Part) (l : List Int) : Bool := decide (l.length = t.length) && (wtsB l && allB (lostOk t l) (List.range t.length))
theorem wts_of {t : List Part} {l : List Int} (h1 : l.length = t.length) (h2 : wtsB l = true) : Wts t l := ⟨h1, fun k hk => by
 simp only [wtsB, allB, List.all_eq_true] at h2
 have hkl : k < l.length := by omega
 have := h2 l[k] (List.getElem_mem hkl)
 have e0 : l.getD k 0 = l[k] := by simp [List.getD, hkl]
 simp only [within, Bool.and_eq_true, decide_eq_true_eq] at this
 rw [e0]; exact this⟩
theorem parting_wts {t l} (h : partingB t l = true) : Wts t l := by
 simp only [partingB, Bool.and_eq_true, decide_eq_true_eq] at h
 exact wts_of h.1 h.2.1
theorem e_IsParting_l0 (t : List Part) (l : List Int) (hl : l.length < 4611686018427387904) (s : Stk) :
 Run T b40l0 [(0, .sl .no 6 (es cPart t)), (1, .sl .no 1 (es cInt l)), (5, i64 0)] ([] :: s) = if wtsB l = true then some (.exit 0, [(0, .sl .no 6 (es cPart t)), (1, .sl .no 1 (es cInt l)), (5, i64 l.length), (15, .bool false)], [] :: s) else some (.ret, [(4, .bool false)], [] :: s) := by
 refine loop_all l (fun x => within x 0 30) (fun k => [(0, .sl .no 6 (es cPart t)), (1, .sl .no 1 (es cInt l)), (5, i64 k)]) (fun _ => [] :: s) _ _ (by simp) (by simp) ?_ (by simp) _ _ (by simp) (by simp)
 intro k hk
 cases h : within l[k] 0 30 <;> simp (maxSteps := 1000000) (disch := first | omega | assumption | decide +kernel | (simp; done) | (simp; omega) | fail) [hk, h, wk k (by omega)]
theorem e_IsParting_l1 (t : List Part) (l : List Int) (ht : t.length ≤ 40) (hw : Wts t l) (s : Stk) :
 Run T b40l1 [(0, .sl .no 6 (es cPart t)), (1, .sl .no 1 (es cInt l)), (6, i64 0)] ([] :: s) = if allB (lostOk t l) (List.range t.length) = true then some (.exit 2, [(0, .sl .no 6 (es cPart t)), (1, .sl .no 1 (es cInt l)), (6, i64 t.length), (27, .bool false)], [] :: s) else some (.ret, [(4, .bool false)], [] :: s) := by
 refine (loop_all (List.range t.length) (lostOk t l) (fun k => [(0, .sl .no 6 (es cPart t)), (1, .sl .no 1 (es cInt l)), (6, i64 k)]) (fun _ => [] :: s) (.ret, [(4, .bool false)], [] :: s) (.exit 2, [(0, .sl .no 6 (es cPart t)), (1, .sl .no 1 (es cInt l)), (6, i64 t.length), (27, .bool false)], [] :: s) (by simp) (by simp) ?_ (by simp) _ _ (by simp) (by simp)).trans rfl
 intro k hk
 have hk : k < t.length := by simpa using hk
 rw [List.getElem_range]
 unfold lostOk
 rw [part_at hk]
 cases h : canCut t k
 ·simp (maxSteps := 1000000) (disch := first | omega | assumption | decide +kernel | (simp; done) | (simp; omega) | fail) [run_drawnK, hk, h, wk k (by omega)]
 ·cases h2 : within (lostOf t l k) t[k].waste.lo t[k].waste.hi <;> simp (maxSteps := 1000000) (disch := first | omega | assumption | decide +kernel | (simp; done) | (simp; omega) | fail) [run_drawnK, hk, h, h2, hw, ht, wk k (by omega)]
@[simp] theorem e_IsParting (t : List Part) (l : List Int) (ht : t.length ≤ 40) (hl : l.length < 4611686018427387904) (lab s) : den T 40 [.sl .no 6 (es cPart t), .sl .no 1 (es cInt l)] lab s = some (.bool (partingB t l), s) := by
 have hl0 := e_IsParting_l0 t l hl s
 unfold partingB
 rw [den_fn t40 _ _ _ rfl]
 simp only [b40]
 by_cases h : l.length = t.length
 ·have h' : (l.length : Int) = t.length := by omega
  cases h2 : wtsB l
  ·rw [h2] at hl0
   simp (maxSteps := 1000000) (disch := first | omega | assumption | decide +kernel | (simp; done) | (simp; omega) | fail) [h, h', h2, hl0]
  ·rw [h2] at hl0
   have hl1 := e_IsParting_l1 t l ht (wts_of h h2) s
   cases h3 : allB (lostOk t l) (List.range t.length)
   ·rw [h3] at hl1; simp (maxSteps := 1000000) (disch := first | omega | assumption | decide +kernel | (simp; done) | (simp; omega) | fail) [h, h', h2, hl0, hl1]
   ·rw [h3] at hl1; simp (maxSteps := 1000000) (disch := first | omega | assumption | decide +kernel | (simp; done) | (simp; omega) | fail) [h, h', h2, hl0, hl1]
 ·have h' : ¬ (l.length : Int) = t.length := by omega
  simp (maxSteps := 1000000) (disch := first | omega | assumption | decide +kernel | (simp; done) | (simp; omega) | fail) [h, h']
def changeOf (t : List Part) (l : List Int) : Int := (List.range t.length).foldl (fun n k => n + awayS (t.getD k default).weight (l.getD k 0)) 0
theorem awayS_small {t : List Part} (h : tblOk t = true) (i : Nat) (hi : i < t.length) (w : Int) (hw : 0 ≤ w ∧ w ≤ 30) : 0 ≤ awayS (t.getD i default).weight w ∧ awayS (t.getD i default).weight w ≤ 30 := by
 have hb := tblOk_w h i hi
 rw [part_at hi]
 simp only [awayS]; omega
theorem e_ChangeOf_l (t : List Part) (l : List Int) (ht : tblOk t = true) (hw : Wts t l) (s : Stk)  :
 Run T b41l0 [(0, .sl .no 6 (es cPart t)), (1, .sl .no 1 (es cInt l)), (5, i64 0), (6, i64 0)] ([] :: s) = some (.exit 0, [(0, .sl .no 6 (es cPart t)), (1, .sl .no 1 (es cInt l)), (5, i64 ((List.range t.length).foldl (fun n k => n + awayS (t.getD k default).weight (l.getD k 0)) 0)), (6, i64 ((List.range t.length).length : Nat)), (10, .bool false)], [] :: s) := by
 have key := loop_fold (T := T) (live := [0, 1, 5, 6]) (keep := []) (b := d41l0) (List.range t.length) (fun k n => 0 ≤ n ∧ n ≤ 30 * (k : Int)) (fun n k => n + awayS (t.getD k default).weight (l.getD k 0)) (fun k (a : Int) => [(0, .sl .no 6 (es cPart t)), (1, .sl .no 1 (es cInt l)), (5, i64 a), (6, i64 (k : Nat))]) (fun k (a : Int) => [] :: s) (fun (a : Int) => (.exit 0, [(0, .sl .no 6 (es cPart t)), (1, .sl .no 1 (es cInt l)), (5, i64 a), (6, i64 ((List.range t.length).length : Nat)), (10, .bool false)], [] :: s)) (by simp) ?_ ?_ ?_ 0 (by simp) [(0, .sl .no 6 (es cPart t)), (1, .sl .no 1 (es cInt l)), (5, i64 0), (6, i64 0)] ([] :: s) (by simp) (by simp)
 ·exact key
 ·intro k a hk hi
  try simp only [List.length_range] at hk
  try simp only [List.getElem_range]
  have hlen := tblOk_len ht
  have hk2 : (k : Int) < t.length := by omega
  have hkl : k < l.length := by rw [hw.len]; exact hk
  have e0 : l.getD k 0 = l[k] := by simp [List.getD, hkl]
  have hb := hw.is k hk
  have hs := awayS_small ht k hk _ hb
  have ht2 := tblOk_w ht k hk
  rw [e0] at hb hs ⊢
  rw [part_at hk] at hs ⊢
  have hA := fun lab s => e_away07 t[k].weight.lo t[k].weight.hi l[k] (by omega) (by omega) (by omega) lab s
  generalize awayS _ l[k] = x at hs hA ⊢
  have w1 : IntKind.i64.wrap (a + x) = a + x := wi _ (by omega) (by omega)
  simp (maxSteps := 1000000) (disch := first | omega | assumption | decide +kernel | (simp; done) | (simp; omega) | fail) [run_drawnK, hk, hk2, hkl, hA, w1, wk k (by omega)]
 ·intro k a hk hi
  try simp only [List.length_range] at hk
  try simp only [List.getElem_range]
  have hb := hw.is k hk
  have hs := awayS_small ht k hk _ hb
  omega
 ·intro a hi
  simp
@[simp] theorem e_ChangeOf (t : List Part) (l : List Int) (ht : tblOk t = true) (hw : Wts t l) (lab s) : den T 41 [.sl .no 6 (es cPart t), .sl .no 1 (es cInt l)] lab s = some (i64 (changeOf t l), s) := by
 have h := e_ChangeOf_l t l ht hw s
 rw [show (List.range t.length).foldl (fun n k => n + awayS (t.getD k default).weight (l.getD k 0)) 0 = changeOf t l from rfl] at h
 rw [den_fn t41 _ _ _ rfl]
 simp only [b41]
 simp (maxSteps := 1000000) (disch := first | omega | assumption | decide +kernel | (simp; done) | (simp; omega) | fail) [h]
end Go.Proofs.Ytlcnoldkekcifaa

/-
  Cuts: partings as lists and as functions; who is changed: plain law.
-/
namespace Go.Proofs.Ytlcnoldkekcifaa
open Go.Ab
def wOf (l : List Int) (i : Nat) : Nat := (l.getD i 0).toNat
theorem wOf_cast {t l} (h : Wts t l) {i : Nat} (hi : i < t.length) : ((wOf l i : Nat) : Int) = l.getD i 0 := by have := h.is i hi; unfold wOf; omega
theorem wOf_lt {t l} (h : Wts t l) {i : Nat} (hi : i < t.length) : wOf l i < 31 := by have := h.is i hi; unfold wOf; omega
theorem lostOf_eq {t l} (h : Wts t l) (i : Nat) : lostOf t l i = l.getD i 0 - (piecesW t (wOf l) i t.length : Int) := by
 have key : ∀ m, m ≤ t.length → ∀ x, (List.range m).foldl (fun n k => if (t.getD k default).of = (i : Int) then n - l.getD k 0 else n) x = x - ((sumW (fun k => if (t.getD k default).of = (i : Int) then wOf l k else 0) 0 m : Nat) : Int) := by
  intro m
  induction m with
  | zero => intro _ x; simp [sumW]
  | succ m ih =>
    intro hm x
    rw [List.range_succ, List.foldl_append, ih (by omega)]
    simp only [List.foldl_cons, List.foldl_nil, sumW, Nat.zero_add]
    split
    ·have := wOf_cast h (i := m) (by omega); omega
    ·omega
 unfold lostOf
 rw [key _ (Nat.le_refl _), piecesW_sum t (wOf l) i _ (Nat.le_refl _), Nat.sub_self]
theorem changeOf_eq {t l} (h : Wts t l) : changeOf t l = costW t (awayC t) (wOf l) t.length := by
 have key : ∀ m, m ≤ t.length → (List.range m).foldl (fun n k => n + awayS (t.getD k default).weight (l.getD k 0)) 0 = sumI (fun k => awayC t k (wOf l k)) 0 m := by
  intro m
  induction m with
  | zero => intro _; rfl
  | succ m ih =>
    intro hm
    rw [List.range_succ, List.foldl_append, ih (by omega)]
    simp only [List.foldl_cons, List.foldl_nil, sumI, Nat.zero_add, awayC]
    rw [wOf_cast h (i := m) (by omega)]
 unfold changeOf
 rw [key _ (Nat.le_refl _), costW_sum t _ _ _ (Nat.le_refl _), Nat.sub_self]
theorem parting_lost {t l} (h : partingB t l = true) (i : Nat) (hi : i < t.length) (hc : canCut t i = true) : within (lostOf t l i) (t.getD i default).waste.lo (t.getD i default).waste.hi = true := by
 simp only [partingB, Bool.and_eq_true, allB, List.all_eq_true, List.mem_range] at h
 have := h.2.2 i hi
 simpa [lostOk, hc] using this
theorem vat_of {t l} (ht : tblOk t = true) (h : partingB t l = true) (i : Nat) (hi : i < t.length) : VAt t (awayC t) (wOf l) i where
 lt := wOf_lt (parting_wts h) hi
 ok := by have := awayC_small ht i hi _ (wOf_lt (parting_wts h) hi); have hf : far = 1099511627776 := rfl; omega
 lost hc := by
  have h1 := parting_lost h i hi hc
  rw [lostOf_eq (parting_wts h), ← wOf_cast (parting_wts h) hi] at h1
  have hw := tblOk_w ht i hi
  rw [part_at hi] at h1 ⊢
  simp only [within, Bool.and_eq_true, decide_eq_true_eq] at h1 ⊢
  exact ⟨wOf l i - piecesW t (wOf l) i t.length, by omega, by omega, by omega⟩
def lOf (t : List Part) (w : Nat → Nat) : List Int := (List.range t.length).map fun i => ((w i : Nat) : Int)
@[simp] theorem lOf_length (t w) : (lOf t w).length = t.length := by simp [lOf]
theorem lOf_get {t w} {i : Nat} (h : i < t.length) : (lOf t w).getD i 0 = w i := by simp [lOf, List.getD, h]
theorem hasB_away (s : Sp) (n : Int) : hasB s n = decide (awayS s n = 0) := by
 have h : awayS s n = 0 ↔ s.lo ≤ n ∧ n ≤ s.hi := by unfold awayS; omega
 rw [Bool.eq_iff_iff]; simp only [hasB, Bool.and_eq_true, decide_eq_true_eq]; exact h.symm
theorem mayC_lt {t n b i w} (h : mayC t n b i w < far) : mayC t n b i w = awayC t i w ∧ ((i : Int) = n → decide (0 < awayC t i w) = b) := by
 unfold mayC at *
 split at h
 ·rename_i h1; rw [if_pos h1]; refine ⟨rfl, fun e => h1.resolve_left fun h => h e⟩
 ·exact absurd h (by simp)
theorem mayC_ok {t : List Part} (h : tblOk t = true) (n : Int) (b : Bool) (i w : Nat) (hi : i < t.length) (hw : w < 31) (hf : mayC t n b i w < far) : -M0 ≤ mayC t n b i w ∧ mayC t n b i w ≤ M0 := by
 rw [(mayC_lt hf).1]; have := awayC_small h i hi w hw; simp only [M0]; omega
def Opt (t : List Part) (w : Nat → Nat) : Prop := (∀ i, i < t.length → VAt t (awayC t) w i) ∧ costW t (awayC t) w t.length = leastP t (awayC t)
theorem may_iff {t : List Part} (h : tblOk t = true) (hf : leastP t (awayC t) < far) (i : Nat) (hi : i < t.length) (b : Bool) : leastP t (mayC t i b) = leastP t (awayC t) ↔ ∃ w, Opt t w ∧ decide (0 < awayC t i (w i)) = b := by
 have hn := tblOk_len h
 have ho := tblOk_of h
 constructor
 ·intro e
  obtain ⟨w, h1, h2⟩ := leastP_ex hn ho (mayC_ok h i b) (by rw [e]; exact hf)
  have e1 : ∀ k, k < t.length → awayC t k (w k) = mayC t i b k (w k) := fun k hk => ((mayC_lt (h1 k hk).ok).1).symm
  refine ⟨w, ⟨fun k hk => (h1 k hk).congr (e1 k hk), ?_⟩, (mayC_lt (h1 i hi).ok).2 rfl⟩
  rw [costW_congr e1 _ (Nat.le_refl _), h2, e]
 ·rintro ⟨w, ⟨h1, h2⟩, h3⟩
  have e1 : ∀ k, k < t.length → mayC t i b k (w k) = awayC t k (w k) := fun k hk => by
   unfold mayC
   by_cases e : k = i
   ·subst e; rw [if_pos (.inr h3)]
   ·rw [if_pos (.inl (by omega))]
  have k1 := leastP_le hn ho (mayC_ok h i b) w (fun k hk => (h1 k hk).congr (e1 k hk))
  rw [costW_congr e1 _ (Nat.le_refl _), h2] at k1
  obtain ⟨w', h4, h5⟩ := leastP_ex hn ho (mayC_ok h i b) k1.2
  have e2 : ∀ k, k < t.length → awayC t k (w' k) = mayC t i b k (w' k) := fun k hk => ((mayC_lt (h4 k hk).ok).1).symm
  have k2 := leastP_le hn ho (awayC_ok h) w' (fun k hk => (h4 k hk).congr (e2 k hk))
  rw [costW_congr e2 _ (Nat.le_refl _), h5] at k2
  omega
theorem opt_ex {t : List Part} (h : tblOk t = true) (hf : leastP t (awayC t) < far) : ∃ w, Opt t w := by
 obtain ⟨w, h1, h2⟩ := leastP_ex (tblOk_len h) (tblOk_of h) (awayC_ok h) hf
 exact ⟨w, h1, h2⟩
def chgV (t : List Part) (i : Nat) : Int := if leastP t (mayC t i false) = leastP t (awayC t) then (if leastP t (mayC t i true) = leastP t (awayC t) then 3 else 2) else 1
theorem changedR_ok {t : List Part} (h : tblOk t = true) (hf : leastP t (awayC t) < far) (i : Nat) (hi : i < t.length) : changedR t i = (chgV t i, 0) := by
 have hp : isPart t i = true := by simp only [isPart, within, Bool.and_eq_true, decide_eq_true_eq]; omega
 have hc : changeR t (isPart t i) = (leastP t (awayC t), 0) := by
  unfold changeR askE; rw [hp]; simp [h, show ¬ far ≤ leastP t (awayC t) by omega]
 unfold changedR chgV
 rw [hc]
 simp only [if_true]
 split <;> (try split) <;> rfl
theorem chgV_range (t : List Part) (i : Nat) : 1 ≤ chgV t i ∧ chgV t i ≤ 3 := by unfold chgV; split <;> (try split) <;> omega
theorem chgV_surely {t : List Part} (h : tblOk t = true) (hf : leastP t (awayC t) < far) (i : Nat) (hi : i < t.length) (hs : chgV t i = 1) {w} (hw : Opt t w) : 0 < awayC t i (w i) := by
 have h1 : leastP t (mayC t i false) ≠ leastP t (awayC t) := by
  intro e; unfold chgV at hs; rw [if_pos e] at hs; split at hs <;> omega
 apply Classical.byContradiction
 intro h2
 exact h1 ((may_iff h hf i hi false).2 ⟨w, hw, by simpa using h2⟩)
theorem chgV_never {t : List Part} (h : tblOk t = true) (hf : leastP t (awayC t) < far) (i : Nat) (hi : i < t.length) (hs : chgV t i = 2) {w} (hw : Opt t w) : awayC t i (w i) = 0 := by
 have h1 : leastP t (mayC t i true) ≠ leastP t (awayC t) := by
  intro e; unfold chgV at hs; rw [if_pos e] at hs; split at hs <;> omega
 have := awayC_small h i hi _ (hw.1 i hi).lt
 apply Classical.byContradiction
 intro h2
 exact h1 ((may_iff h hf i hi true).2 ⟨w, hw, by simp; omega⟩)
theorem cost_part {t : List Part} (h : tblOk t = true) {w : Nat → Nat} (hw : ∀ i, i < t.length → w i < 31) (i : Nat) : ∀ {m}, m ≤ t.length → t.length - m ≤ i → i < t.length → awayC t i (w i) ≤ costW t (awayC t) w m
 | 0, _, h1, h2 => by omega
 | m + 1, hm, h1, h2 => by
   have hr := costW_range (t := t) (c := awayC t) (w := w) (fun i hi => awayC_small h i hi _ (hw i hi)) (m := m) (by omega)
   have hs := awayC_small h (t.length - 1 - m) (by omega) _ (hw (t.length - 1 - m) (by omega))
   simp only [costW]
   by_cases e : t.length - 1 - m = i
   ·rw [e] at hs ⊢; omega
   ·have := cost_part h hw i (m := m) (by omega) (by omega) h2; omega
theorem chgV_zero {t : List Part} (h : tblOk t = true) (h0 : leastP t (awayC t) = 0) (i : Nat) (hi : i < t.length) : chgV t i = 2 := by
 have hf : leastP t (awayC t) < far := by rw [h0]; decide
 have hz : ∀ w, Opt t w → awayC t i (w i) = 0 := fun w hw => by
  have h1 := cost_part h (fun k hk => (hw.1 k hk).lt) i (m := t.length) (Nat.le_refl _) (by omega) hi
  have h2 := awayC_small h i hi _ (hw.1 i hi).lt
  have := hw.2; omega
 obtain ⟨w, hw⟩ := opt_ex h hf
 unfold chgV
 rw [if_pos ((may_iff h hf i hi false).2 ⟨w, hw, by rw [hz w hw]; rfl⟩), if_neg]
 intro e
 obtain ⟨w', hw', e'⟩ := (may_iff h hf i hi true).1 e
 rw [hz w' hw'] at e'
 exact absurd e' (by decide)
theorem fixAll_spec {t : List Part} (h : tblOk t = true) (hf : leastP t (awayC t) < far) : ∀ k, k ≤ t.length → ((List.range k).foldl (fun O _ => O ++ [(fixV t (leastP t (awayC t)) O : Int)]) []).length = k ∧
 leastP t (fixC t ((List.range k).foldl (fun O _ => O ++ [(fixV t (leastP t (awayC t)) O : Int)]) [])) = leastP t (awayC t)
 | 0, _ => ⟨rfl, by rw [List.range_zero, List.foldl_nil, fixC_nil]⟩
 | k + 1, hk => by
   obtain ⟨h1, h2⟩ := fixAll_spec h hf k (by omega)
   rw [List.range_succ, List.foldl_append]
   generalize (List.range k).foldl (fun O _ => O ++ [(fixV t (leastP t (awayC t)) O : Int)]) [] = O at h1 h2 ⊢
   obtain ⟨v1, v2, v3⟩ := fixV_spec (fix_next h (O := O) (by omega) h2 hf)
   exact ⟨by simp [h1], v2⟩
theorem fix_opt {t : List Part} (h : tblOk t = true) (hf : leastP t (awayC t) < far) : ∃ w, Opt t w ∧ fixAll t (leastP t (awayC t)) = lOf t w := by
 obtain ⟨h1, h2⟩ := fixAll_spec h hf t.length (Nat.le_refl _)
 change (fixAll t (leastP t (awayC t))).length = t.length at h1
 change leastP t (fixC t (fixAll t (leastP t (awayC t)))) = _ at h2
 generalize fixAll t (leastP t (awayC t)) = O at h1 h2 ⊢
 obtain ⟨w, h3, h4⟩ := leastP_ex (tblOk_len h) (tblOk_of h) (fixC_small h O) (by rw [h2]; exact hf)
 have e : ∀ i, i < t.length → awayC t i (w i) = fixC t O i (w i) := fun i hi => ((fixC_eq (h3 i hi).ok).2).symm
 refine ⟨w, ⟨fun i hi => (h3 i hi).congr (e i hi), by rw [costW_congr e _ (Nat.le_refl _), h4, h2]⟩, ?_⟩
 refine List.ext_getElem (by simp [h1]) fun k k1 k2 => ?_
 have hk : k < t.length := by omega
 have := (fixC_eq (h3 k hk).ok).1 (by omega)
 simp only [lOf, List.getElem_map, List.getElem_range, this]
 simp [List.getD, k1]
theorem fixR_ok {t : List Part} (h : tblOk t = true) (hf : leastP t (awayC t) < far) : fixR t = (fixAll t (leastP t (awayC t)), 0) := by
 have hc : changeR t true = (leastP t (awayC t), 0) := by
  unfold changeR askE; simp [h, show ¬ far ≤ leastP t (awayC t) by omega]
 unfold fixR; rw [hc]; rfl
end Go.Proofs.Ytlcnoldkekcifaa

/-
  Cuts: CutsChanged.
-/
namespace Go.Proofs.Ytlcnoldkekcifaa
open Go.Ab
structure ChgF (t : List Part) (n : Int) (k l : List Int) (so : Bool) (i : Nat) (c : Int) : Prop where
 r : 1 ≤ c ∧ c ≤ 3
 z : n = 0 → c = 2
 k1 : c = 1 → hasB (t.getD i default).weight (k.getD i 0) = false
 k2 : c = 2 → hasB (t.getD i default).weight (k.getD i 0) = true
 l1 : so = true → c = 1 → hasB (t.getD i default).weight (l.getD i 0) = false
 l2 : so = true → c = 2 → hasB (t.getD i default).weight (l.getD i 0) = true
theorem opt_has {t : List Part} (w : Nat → Nat) (l : List Int) (i : Nat) (h : l.getD i 0 = w i) : hasB (t.getD i default).weight (l.getD i 0) = decide (awayC t i (w i) = 0) := by
 rw [hasB_away, h]; rfl
theorem chg_facts {t : List Part} (h : tblOk t = true) (hf : leastP t (awayC t) < far) {l : List Int} {so : Bool} (hso : so = true → partingB t l = true ∧ changeOf t l = leastP t (awayC t)) (i : Nat) (hi : i < t.length) :
 ChgF t (leastP t (awayC t)) (fixAll t (leastP t (awayC t))) l so i (chgV t i) := by
 obtain ⟨w, hw, ek⟩ := fix_opt h hf
 have e1 : (fixAll t (leastP t (awayC t))).getD i 0 = w i := by rw [ek, lOf_get hi]
 have hl : so = true → Opt t (wOf l) ∧ l.getD i 0 = wOf l i := fun e => by
  obtain ⟨h1, h2⟩ := hso e
  have h3 := parting_wts h1
  exact ⟨⟨fun k hk => vat_of h h1 k hk, by rw [← changeOf_eq h3, h2]⟩, (wOf_cast h3 hi).symm⟩
 refine ⟨chgV_range t i, fun h0 => chgV_zero h h0 i hi, fun hc => ?_, fun hc => ?_, fun e hc => ?_, fun e hc => ?_⟩
 ·rw [opt_has w _ i e1]; have := chgV_surely h hf i hi hc hw; simp; omega
 ·rw [opt_has w _ i e1]; have := chgV_never h hf i hi hc hw; simp; omega
 ·obtain ⟨h1, h2⟩ := hl e; rw [opt_has _ _ i h2]; have := chgV_surely h hf i hi hc h1; simp; omega
 ·obtain ⟨h1, h2⟩ := hl e; rw [opt_has _ _ i h2]; have := chgV_never h hf i hi hc h1; simp; omega
set_option maxHeartbeats 4000000 in
theorem e_CutsChanged_l (t : List Part) (n : Int) (k0 l : List Int) (so : Bool) (ht : t.length ≤ 8) (hk0 : k0.length = t.length) (hl0 : so = true → l.length = t.length) (hc : ∀ i, i < t.length → ∃ c, changedR t i = (c, 0) ∧ ChgF t n k0 l so i c) (s : Stk)  :
 Run T b9l0 [(0, .sl .no 6 (es cPart t)), (1, .sl .no 1 (es cInt l)), (5, i64 n), (7, .sl .no 1 (es cInt k0)), (9, .bool so), (10, i64 0)] ([] :: s) = some (.exit 0, [(0, .sl .no 6 (es cPart t)), (1, .sl .no 1 (es cInt l)), (5, i64 n), (7, .sl .no 1 (es cInt k0)), (9, .bool so), (10, i64 ((List.range t.length).length : Nat)), (59, .bool false)], [] :: s) := by
 have key := loop_fold (T := T) (live := [0, 1, 5, 7, 9, 10]) (keep := [224, 336, 384, 496, 576, 768, 832, 2400]) (b := d9l0) (List.range t.length) (fun _ _ => True) (fun _ _ => ()) (fun k (a : Unit) => [(0, .sl .no 6 (es cPart t)), (1, .sl .no 1 (es cInt l)), (5, i64 n), (7, .sl .no 1 (es cInt k0)), (9, .bool so), (10, i64 (k : Nat))]) (fun k (a : Unit) => [] :: s) (fun (a : Unit) => (.exit 0, [(0, .sl .no 6 (es cPart t)), (1, .sl .no 1 (es cInt l)), (5, i64 n), (7, .sl .no 1 (es cInt k0)), (9, .bool so), (10, i64 ((List.range t.length).length : Nat)), (59, .bool false)], [] :: s)) (by simp) ?_ ?_ ?_ () (by simp) [(0, .sl .no 6 (es cPart t)), (1, .sl .no 1 (es cInt l)), (5, i64 n), (7, .sl .no 1 (es cInt k0)), (9, .bool so), (10, i64 0)] ([] :: s) (by simp) (by simp)
 ·exact key
 ·intro k a hk hi
  try simp only [List.length_range] at hk
  try simp only [List.getElem_range]
  have hk2 : (k : Int) < t.length := by omega
  have hkk : k < k0.length := by omega
  have ek : k0.getD k 0 = k0[k] := by simp [List.getD, hkk]
  obtain ⟨c, h1, h2⟩ := hc k hk
  obtain ⟨r, z, f1, f2, g1, g2⟩ := h2
  rw [part_at hk, ek] at f1 f2
  rw [part_at hk] at g1 g2
  have hw3 : within c 1 3 = true := by simp only [within, Bool.and_eq_true, decide_eq_true_eq]; omega
  cases so
  ·by_cases c1 : c = 1
   ·have k1 := f1 c1
    subst c1
    have n0 : ¬ n = 0 := fun e => by have := z e; omega
    simp (maxSteps := 1000000) (disch := first | omega | assumption | decide +kernel | (simp; done) | (simp; omega) | fail) [run_drawnK, hk, hk2, hkk, h1, hw3, k1, n0, wk k (by omega)]
   ·by_cases c2 : c = 2
    ·have k2 := f2 c2
     subst c2
     by_cases n0 : n = 0 <;> simp (maxSteps := 1000000) (disch := first | omega | assumption | decide +kernel | (simp; done) | (simp; omega) | fail) [run_drawnK, hk, hk2, hkk, h1, hw3, k2, n0, wk k (by omega)]
    ·have n0 : ¬ n = 0 := fun e => c2 (z e)
     simp (maxSteps := 1000000) (disch := first | omega | assumption | decide +kernel | (simp; done) | (simp; omega) | fail) [run_drawnK, hk, hk2, hkk, h1, hw3, n0, c1, c2, wk k (by omega)]
  ·have hkl : k < l.length := by have := hl0 rfl; omega
   have el : l.getD k 0 = l[k] := by simp [List.getD, hkl]
   rw [el] at g1 g2
   by_cases c1 : c = 1
   ·have k1 := f1 c1
    have j1 := g1 rfl c1
    subst c1
    have n0 : ¬ n = 0 := fun e => by have := z e; omega
    simp (maxSteps := 1000000) (disch := first | omega | assumption | decide +kernel | (simp; done) | (simp; omega) | fail) [run_drawnK, hk, hk2, hkk, hkl, h1, hw3, k1, j1, n0, wk k (by omega)]
   ·by_cases c2 : c = 2
    ·have k2 := f2 c2
     have j2 := g2 rfl c2
     subst c2
     by_cases n0 : n = 0 <;> simp (maxSteps := 1000000) (disch := first | omega | assumption | decide +kernel | (simp; done) | (simp; omega) | fail) [run_drawnK, hk, hk2, hkk, hkl, h1, hw3, k2, j2, n0, wk k (by omega)]
    ·have n0 : ¬ n = 0 := fun e => c2 (z e)
     simp (maxSteps := 1000000) (disch := first | omega | assumption | decide +kernel | (simp; done) | (simp; omega) | fail) [run_drawnK, hk, hk2, hkk, hkl, h1, hw3, n0, c1, c2, wk k (by omega)]
 ·intro k a hk hi
  try simp only [List.length_range] at hk
  try simp only [List.getElem_range]
  try simp
 ·intro a hi
  simp
set_option maxHeartbeats 4000000 in
theorem e_CutsChanged (t : List Part) (hl : t.length < 4611686018427387904) (l : List Int) (hl2 : l.length < 4611686018427387904) (lab s) : den T 9 [.sl .no 6 (es cPart t), .sl .no 1 (es cInt l)] lab s = some (.bool true, s) := by
 rw [den_fn t9 _ _ _ rfl]
 simp only [b9]
 cases h1 : readyB t
 ·simp (maxSteps := 1000000) (disch := first | omega | assumption | decide +kernel | (simp; done) | (simp; omega) | fail) [h1]
 by_cases h2 : (40 : Int) < l.length
 ·simp (maxSteps := 1000000) (disch := first | omega | assumption | decide +kernel | (simp; done) | (simp; omega) | fail) [h1, h2]
 have ht := readyB_ok h1
 have hn := tblOk_len ht
 by_cases hf : far ≤ leastP t (awayC t)
 ·have hT : changeL t = (-1, true) := by rw [changeL_ok ht, if_pos hf]
  simp (maxSteps := 1000000) (disch := first | omega | assumption | decide +kernel | (simp; done) | (simp; omega) | fail) [run_drawnK, h1, h2, hT]
 ·have hf' : leastP t (awayC t) < far := by omega
  have hr := change_range ht hf'
  have hT : changeL t = (leastP t (awayC t), true) := by rw [changeL_ok ht, if_neg hf]
  have hF := fixR_ok ht hf'
  have hlen := fixAll_length t (leastP t (awayC t))
  have hn0 : ¬ leastP t (awayC t) < 0 := by omega
  have hso : (partingB t l && decide (changeOf t l = leastP t (awayC t))) = true → partingB t l = true ∧ changeOf t l = leastP t (awayC t) := fun e => by simpa using e
  have key := e_CutsChanged_l t (leastP t (awayC t)) (fixAll t (leastP t (awayC t))) l (partingB t l && decide (changeOf t l = leastP t (awayC t))) hn hlen (fun e => (parting_wts (hso e).1).len)
   (fun i hi => ⟨_, changedR_ok ht hf' i hi, chg_facts ht hf' hso i hi⟩) s
  simp only [List.length_range] at key
  clear hf hf' hso
  generalize leastP t (awayC t) = n at *
  generalize fixAll t n = k0 at *
  cases hp : partingB t l
  ·rw [hp] at key
   simp only [Bool.false_and] at key
   simp (maxSteps := 1000000) (disch := first | omega | assumption | decide +kernel | (simp; done) | (simp; omega) | fail) [run_drawnK, h1, h2, hT, hF, hlen, hn0, hp, key]
  ·have hw := parting_wts hp
   rw [hp] at key
   by_cases hc : changeOf t l = n
   ·have : decide (changeOf t l = n) = true := decide_eq_true hc
    rw [this] at key
    simp only [Bool.true_and] at key
    simp (maxSteps := 1000000) (disch := first | omega | assumption | decide +kernel | (simp; done) | (simp; omega) | fail) [run_drawnK, h1, h2, hT, hF, hlen, hn0, hp, ht, hw, hc, key]
   ·have : decide (changeOf t l = n) = false := decide_eq_false hc
    rw [this] at key
    simp only [Bool.true_and] at key
    simp (maxSteps := 1000000) (disch := first | omega | assumption | decide +kernel | (simp; done) | (simp; omega) | fail) [run_drawnK, h1, h2, hT, hF, hlen, hn0, hp, ht, hw, hc, key]
end Go.Proofs.Ytlcnoldkekcifaa

/-
  What the arguments of the laws of cuts read as.
-/
namespace Go.Proofs.Ytlcnoldkekcifaa
open Go.Ab
set_option maxRecDepth 100000
theorem cells34 : Try.prog.cellsOf 34 = 6 := by kernel_rfl
theorem cells3 : Try.prog.cellsOf 3 = 1 := by kernel_rfl
variable {B : TypeId → Nat → Prop} {n : Nat} {vs : List V}
theorem fit_int (h : Fit Try.prog B (n + 1) 3 vs) : ∃ x, vs = [i64 x] := by
 simp only [Fit, Try.underlying3] at h
 exact h
theorem fit_sp (h : Fit Try.prog B (n + 2) 27 vs) : ∃ x : Sp, vs = cSp x := by
 simp only [Fit, FitF, Try.underlying27, Try.underlying3] at h
 obtain ⟨_, _, rfl, ⟨x, rfl⟩, _, _, rfl, ⟨y, rfl⟩, rfl⟩ := h
 exact ⟨⟨x, y⟩, rfl⟩
theorem fit_part (h : Fit Try.prog B (n + 3) 34 vs) : ∃ x : Part, vs = cPart x := by
 rw [Fit, Try.underlying34] at h
 simp only [FitF] at h
 obtain ⟨_, _, rfl, h0, _, _, rfl, h1, _, _, rfl, h2, _, _, rfl, h3, rfl⟩ := h
 obtain ⟨a, rfl⟩ := fit_int h0
 obtain ⟨x, rfl⟩ := fit_sp h1
 obtain ⟨y, rfl⟩ := fit_sp h2
 obtain ⟨z, rfl⟩ := fit_int h3
 exact ⟨⟨a, x, y, z⟩, rfl⟩
theorem es_all {α : Type} {f : α → List V} (l : List (List V)) (h : ∀ x ∈ l, ∃ y, x = f y) : ∃ l' : List α, l = es f l' := by
 obtain ⟨l', h1, _⟩ := es_of (Q := fun _ => True) l fun x hx => by obtain ⟨y, hy⟩ := h x hx; exact ⟨y, hy, trivial⟩
 exact ⟨l', h1⟩
theorem fit_ints (h : Fit Try.prog B (n + 2) 43 vs) : ∃ l : List Int, vs = [.sl .no 1 (es cInt l)] ∧ B 3 l.length := by
 rw [Fit, Try.underlying43] at h
 simp only at h
 obtain ⟨l, rfl, hb, h⟩ := h
 obtain ⟨l', rfl⟩ := es_all (f := cInt) l fun x hx => by obtain ⟨y, hy⟩ := fit_int (h x hx); exact ⟨y, hy⟩
 rw [cells3]
 exact ⟨l', rfl, by simpa using hb⟩
theorem fit_parts (h : Fit Try.prog B (n + 4) 22 vs) : ∃ l : List Part, vs = [.sl .no 6 (es cPart l)] ∧ B 34 l.length := by
 rw [Fit, Try.underlying22] at h
 simp only at h
 obtain ⟨l, rfl, hb, h⟩ := h
 obtain ⟨l', rfl⟩ := es_all (f := cPart) l fun x hx => fit_part (h x hx)
 rw [cells34]
 exact ⟨l', rfl, by simpa using hb⟩
def Reach (e : TypeId) (k : Nat) : Prop := k ≤ maxLen ∧ k * Try.prog.bytesOf e ≤ reachBytes
theorem bytes34 : Try.prog.bytesOf 34 = 48 := by kernel_rfl
theorem bytes3 : Try.prog.bytesOf 3 = 8 := by kernel_rfl
theorem reach_ints {k : Nat} (h : Reach 3 k) : k < 4611686018427387904 := by
 simp only [Reach, bytes3, reachBytes] at h; omega
theorem reach_parts {k : Nat} (h : Reach 34 k) : k < 4611686018427387904 := by
 simp only [Reach, bytes34, reachBytes] at h; omega
end Go.Proofs.Ytlcnoldkekcifaa
