/-
  Cuts: Weight and Lost of the reference: plain law (not built yet).
-/
import Derived.Test.YtlcnoldkekcifaaGreatEq3
import Derived.Test.YtlcnoldkekcifaaGreatEq4
import Derived.Test.YtlcnoldkekcifaaGreatEq1
set_option linter.unusedSimpArgs false
set_option linter.unusedVariables false
namespace Go.Proofs.YtlcnoldkekcifaaGreat
open Go.Ab
def hullG (P : Int → Bool) (b : Int) (a : Sp) (k : Nat) : Sp := if P (b + k) = true then ⟨min a.lo (b + k), max a.hi (b + k)⟩ else a
def hullR (P : Int → Bool) (b : Int) (m : Nat) : Sp := (List.range m).foldl (hullG P b) ⟨30, 0⟩
theorem hullR_succ (P b m) : hullR P b (m + 1) = hullG P b (hullR P b m) m := by simp [hullR, List.range_succ]
theorem hull_inv {P : Int → Bool} {b : Int} {s : Sp} (hs : 0 ≤ s.lo ∧ s.lo ≤ s.hi ∧ s.hi ≤ 30) (hb : b ≤ s.lo) (h1 : P s.lo = true) (h2 : P s.hi = true) :
 ∀ m : Nat, (∀ k : Nat, k < m → P (b + k) = true → s.lo ≤ b + k ∧ b + k ≤ s.hi) → s.lo ≤ (hullR P b m).lo ∧ (hullR P b m).lo ≤ 30 ∧ 0 ≤ (hullR P b m).hi ∧ (hullR P b m).hi ≤ s.hi ∧ (s.lo < b + m → (hullR P b m).lo = s.lo) ∧ (s.hi < b + m → (hullR P b m).hi = s.hi)
 | 0, _ => by
   have e : hullR P b 0 = ⟨30, 0⟩ := rfl
   rw [e]; dsimp only; omega
 | m + 1, h => by
   obtain ⟨i1, i2, i3, i4, i5, i6⟩ := hull_inv hs hb h1 h2 m fun k hk => h k (by omega)
   have hm := h m (by omega)
   rw [hullR_succ]
   generalize hullR P b m = a at *
   unfold hullG
   by_cases c : P (b + m) = true
   ·have := hm c
    rw [if_pos c]; dsimp only
    refine ⟨by omega, by omega, by omega, by omega, fun _ => ?_, fun _ => ?_⟩ <;> omega
   ·rw [if_neg c]
    have n1 : s.lo ≠ b + m := fun e => c (by rw [← e]; exact h1)
    have n2 : s.hi ≠ b + m := fun e => c (by rw [← e]; exact h2)
    refine ⟨i1, i2, i3, i4, fun _ => ?_, fun _ => ?_⟩ <;> omega
theorem hull_is {P : Int → Bool} {b : Int} {s : Sp} {m : Nat} (hs : 0 ≤ s.lo ∧ s.lo ≤ s.hi ∧ s.hi ≤ 30) (hb : b ≤ s.lo) (he : s.hi < b + m) (h1 : P s.lo = true) (h2 : P s.hi = true) (h : ∀ k : Nat, k < m → P (b + k) = true → s.lo ≤ b + k ∧ b + k ≤ s.hi) : hullR P b m = s := by
 obtain ⟨_, _, _, _, i5, i6⟩ := hull_inv hs hb h1 h2 m h
 have e1 := i5 (by omega)
 have e2 := i6 he
 generalize hullR P b m = a at e1 e2
 obtain ⟨a1, a2⟩ := a
 obtain ⟨s1, s2⟩ := s
 dsimp only at e1 e2
 rw [e1, e2]
theorem hasB_w {s : Sp} {v : Int} : hasB s v = true ↔ s.lo ≤ v ∧ v ≤ s.hi := by simp only [hasB, Bool.and_eq_true, decide_eq_true_eq]
theorem weight_hull {t : List Part} (ht : tblOk t = true) {n : Nat} (hn : n < t.length) {s : Sp} (hs : SpanOf t (weightE n) s) {m : Nat} (hm : (t.getD n default).weight.lo + m = (t.getD n default).weight.hi + 1) :
 hullR (fun v => oneB (onlyT t n v)) (t.getD n default).weight.lo m = s := by
 have hw := tblOk_w ht n hn
 rw [← part_at hn] at hw
 obtain ⟨w1, k1, k2⟩ := hs.lo
 obtain ⟨w2, k3, k4⟩ := hs.hi
 rw [sumE_one hn] at k2 k4
 have b1 := k1.word hn
 have b2 := k3.word hn
 simp only [within, Bool.and_eq_true, decide_eq_true_eq] at b1 b2
 have hle := hs.le
 have one : ∀ v : Int, hasB (t.getD n default).weight v = true → (oneB (onlyT t n v) = true ↔ ∃ w, Truth t w ∧ (w n : Int) = v) := fun v hv => by
  rw [oneB_iff (only_ok ht (n := n) (by rw [hasB_w] at hv; omega))]
  constructor
  ·rintro ⟨w, h⟩; exact ⟨w, (only_truth hn hv).1 h⟩
  ·rintro ⟨w, h⟩; exact ⟨w, (only_truth hn hv).2 h⟩
 refine hull_is (by omega) (by omega) (by omega) ?_ ?_ fun k hk hp => ?_
 ·exact (one _ (by rw [hasB_w]; omega)).2 ⟨w1, k1, k2.symm⟩
 ·exact (one _ (by rw [hasB_w]; omega)).2 ⟨w2, k3, k4.symm⟩
 ·obtain ⟨w, h1, h2⟩ := (one _ (by rw [hasB_w]; omega)).1 hp
  have := hs.all w h1
  rw [sumE_one hn] at this
  omega
abbrev wastedT (t : List Part) (n : Nat) (v : Int) : List Part := clearedT t n 1 ⟨v, v⟩
theorem wasted_of {t : List Part} {n : Nat} {v : Int} {k : Nat} (hk : k < t.length) : ((wastedT t n v).getD k default).of = (t.getD k default).of := by
 rw [cleared_get hk]
 split
 ·rename_i e; subst e; rfl
 ·rfl
theorem wasted_cut {t : List Part} {n : Nat} {v : Int} (j : Int) : canCut (wastedT t n v) j = canCut t j := by
 rw [Bool.eq_iff_iff, canCut_iff, canCut_iff]
 constructor
 ·rintro ⟨k, hk, e⟩
  simp only [cleared_length] at hk
  exact ⟨k, hk, by rw [← wasted_of hk]; exact e⟩
 ·rintro ⟨k, hk, e⟩
  exact ⟨k, by simpa using hk, by rw [wasted_of hk]; exact e⟩
theorem wasted_pieces {t : List Part} {n : Nat} {v : Int} (w : Nat → Nat) (i : Nat) : piecesW (wastedT t n v) w i (wastedT t n v).length = piecesW t w i t.length := by
 rw [piecesW_sum _ w i _ (Nat.le_refl _), piecesW_sum t w i _ (Nat.le_refl _), Nat.sub_self, Nat.sub_self, cleared_length]
 exact sumW_congr fun k hk => by rw [Nat.zero_add, wasted_of hk]
theorem wasted_away {t : List Part} {n : Nat} {v : Int} {i x : Nat} (hi : i < t.length) : awayC (wastedT t n v) i x = awayC t i x := by
 unfold awayC; rw [cleared_get hi]
 split
 ·rename_i e; subst e; rfl
 ·rfl
theorem wasted_ok {t : List Part} (h : tblOk t = true) {n : Nat} {v : Int} (hv : 0 ≤ v ∧ v ≤ 30) : tblOk (wastedT t n v) = true := by
 rw [tblOk_iff] at h ⊢
 refine ⟨by simpa using h.1, fun i hi => ?_⟩
 simp only [cleared_length] at hi
 rw [cleared_get hi]
 have := h.2 i hi
 split
 ·rename_i e; subst e
  rw [if_pos rfl]
  simp only [partOk, spanOk, within, Bool.and_eq_true, decide_eq_true_eq] at this ⊢
  omega
 ·exact this
theorem sumE_loss {t : List Part} (ht : tblOk t = true) {n : Nat} (hn : n < t.length) {w : Nat → Nat} (hT : Truth t w) : sumE t (lostE t n) w = (w n : Int) - (piecesW t w n t.length : Int) := by
 have h1 := of_truth hT
 have hp : partingB t (lOf t w) = true := by simp only [truthB, Bool.and_eq_true] at h1; exact h1.1
 have hw := parting_wts hp
 have e := sumE_lost (tblOk_of ht) hn hw
 rw [lostOf_eq hw, lOf_get hn, pieces_congr (w := wOf (lOf t w)) (w' := w) (fun k hk => wOf_lOf hk) n (Nat.le_refl _)] at e
 rw [← e]
 unfold sumE
 exact sumI_congr fun k hk => by rw [Nat.zero_add, wOf_lOf hk]
theorem wasted_truth {t : List Part} (ht : tblOk t = true) {n : Nat} (hn : n < t.length) (hc : canCut t n = true) {v : Int} (hv : hasB (t.getD n default).waste v = true) {w : Nat → Nat} :
 Truth (wastedT t n v) w ↔ Truth t w ∧ sumE t (lostE t n) w = v := by
 constructor
 ·intro h
  have hin : insideB ⟨v, v⟩ (clearedO t n 1) = true := by
   rw [hasB_w] at hv
   simp only [insideB, clearedO, if_true, Bool.and_eq_true, decide_eq_true_eq]; omega
  have hT := clear_truth hn hin h
  refine ⟨hT, ?_⟩
  rw [sumE_loss ht hn hT]
  obtain ⟨l, h1, h2⟩ := (h n (by simpa using hn)).1.lost (by rw [wasted_cut]; exact hc)
  rw [wasted_pieces] at h1
  rw [cleared_get hn, if_pos rfl, if_pos rfl] at h2
  simp only [within, Bool.and_eq_true, decide_eq_true_eq] at h2
  omega
 ·rintro ⟨hT, he⟩
  rw [sumE_loss ht hn hT] at he
  intro i hi
  simp only [cleared_length] at hi
  obtain ⟨h1, h2⟩ := hT i hi
  refine ⟨⟨h1.lt, by rw [wasted_away hi, h2]; decide, fun h3 => ?_⟩, by rw [wasted_away hi]; exact h2⟩
  rw [wasted_cut] at h3
  obtain ⟨l, h4, h5⟩ := h1.lost h3
  rw [wasted_pieces]
  refine ⟨l, h4, ?_⟩
  rw [cleared_get hi]
  by_cases e : n = i
  ·subst e
   rw [if_pos rfl, if_pos rfl]
   simp only [within, Bool.and_eq_true, decide_eq_true_eq]; omega
  ·rw [if_neg e]; exact h5
theorem lost_hull {t : List Part} (ht : tblOk t = true) {n : Nat} (hn : n < t.length) (hc : canCut t n = true) {s : Sp} (hs : SpanOf t (lostE t n) s) {m : Nat} (hm : (t.getD n default).waste.lo + m = (t.getD n default).waste.hi + 1) :
 hullR (fun v => oneB (wastedT t n v)) (t.getD n default).waste.lo m = s := by
 have hw := tblOk_w ht n hn
 rw [← part_at hn] at hw
 obtain ⟨w1, k1, k2⟩ := hs.lo
 obtain ⟨w2, k3, k4⟩ := hs.hi
 have inW : ∀ {w}, Truth t w → (t.getD n default).waste.lo ≤ sumE t (lostE t n) w ∧ sumE t (lostE t n) w ≤ (t.getD n default).waste.hi := fun {w} h => by
  rw [sumE_loss ht hn h]
  obtain ⟨l, h1, h2⟩ := (h n hn).1.lost hc
  simp only [within, Bool.and_eq_true, decide_eq_true_eq] at h2
  omega
 have b1 := inW k1
 have b2 := inW k3
 have hle := hs.le
 have one : ∀ v : Int, hasB (t.getD n default).waste v = true → (oneB (wastedT t n v) = true ↔ ∃ w, Truth t w ∧ sumE t (lostE t n) w = v) := fun v hv => by
  rw [oneB_iff (wasted_ok ht (n := n) (by rw [hasB_w] at hv; omega))]
  constructor
  ·rintro ⟨w, h⟩; exact ⟨w, (wasted_truth ht hn hc hv).1 h⟩
  ·rintro ⟨w, h⟩; exact ⟨w, (wasted_truth ht hn hc hv).2 h⟩
 refine hull_is (by omega) (by omega) (by omega) ?_ ?_ fun k hk hp => ?_
 ·exact (one _ (by rw [hasB_w]; omega)).2 ⟨w1, k1, k2.symm⟩
 ·exact (one _ (by rw [hasB_w]; omega)).2 ⟨w2, k3, k4.symm⟩
 ·obtain ⟨w, h1, h2⟩ := (one _ (by rw [hasB_w]; omega)).1 hp
  have := hs.all w h1
  omega
def wholeS (t : List Part) (R : List Int) (k : Nat) : List Int := if (t.getD k default).of = -1 then R.set k 1 else R
def wholeLs (t : List Part) : List Int := (List.range t.length).map (wholeE t)
@[simp] theorem wholeLs_length (t) : (wholeLs t).length = t.length := by simp [wholeLs]
theorem wholeLs_e (t : List Part) (i : Nat) : (wholeLs t).getD i 0 = wholeE t i := by
 by_cases h : i < t.length
 ·simp [wholeLs, List.getD, h]
 ·have hd : t.getD i default = default := by simp [List.getD, h]
  have h2 : wholeE t i = 0 := by unfold wholeE; rw [hd]; rfl
  rw [h2]; simp [wholeLs, List.getD, h]
theorem whole_fold (t : List Part) : ∀ m, m ≤ t.length → ((List.range m).foldl (wholeS t) (List.replicate t.length 0)).length = t.length ∧ ∀ i, i < t.length → ((List.range m).foldl (wholeS t) (List.replicate t.length 0)).getD i 0 = if i < m then wholeE t i else 0
 | 0, _ => ⟨by simp, fun i hi => by simp [List.getD, hi]⟩
 | m + 1, hm => by
   obtain ⟨h1, h2⟩ := whole_fold t m (by omega)
   rw [List.range_succ, List.foldl_append]
   generalize (List.range m).foldl (wholeS t) (List.replicate t.length 0) = R at h1 h2 ⊢
   simp only [List.foldl_cons, List.foldl_nil, wholeS]
   have h3 := h2 m (by omega)
   rw [if_neg (by omega)] at h3
   refine ⟨by split <;> simp [h1], fun i hi => ?_⟩
   have h4 := h2 i hi
   unfold wholeE at h4 ⊢
   by_cases e : i = m
   ·subst e
    rw [if_pos (by omega : i < i + 1)]
    split
    ·simp [List.getD, h1, hi]
    ·exact h3
   ·rw [show (if i < m + 1 then (if (t.getD i default).of = -1 then (1 : Int) else 0) else (0 : Int)) = if i < m then (if (t.getD i default).of = -1 then 1 else 0) else 0 by by_cases h : i < m <;> simp [h] <;> omega]
    rw [← h4]
    split
    ·simp only [List.getD, List.getElem?_set]; rw [if_neg (by omega)]
    ·rfl
theorem whole_list (t : List Part) : (List.range t.length).foldl (wholeS t) (List.replicate t.length 0) = wholeLs t := by
 obtain ⟨h1, h2⟩ := whole_fold t t.length (Nat.le_refl _)
 refine List.ext_getElem (by simp [h1]) fun k k1 k2 => ?_
 have hk : k < t.length := by omega
 have := h2 k hk
 rw [if_pos hk] at this
 have e : ((List.range t.length).foldl (wholeS t) (List.replicate t.length 0)).getD k 0 = ((List.range t.length).foldl (wholeS t) (List.replicate t.length 0))[k] := by simp [List.getD, k1]
 rw [e] at this
 rw [this]; simp [wholeLs]
end Go.Proofs.YtlcnoldkekcifaaGreat

/-
  Cuts: Weight, Lost of the reference (not built yet).
-/
namespace Go.Proofs.YtlcnoldkekcifaaGreat
open Go.Ab
theorem e_Wasted (t : List Part) (n : Nat) (w : Int) (hn2 : n < t.length) (ht : t.length ≤ 40) (F : Ab.Loc) (s : Stk) (lab : Nat) :
 den T 42 [.sl .no 6 (es cPart t), i64 n, i64 w] lab (F :: s) = some (.sl .no 6 (es cPart (wastedT t n w)), F :: s) := by
 have hne : ¬ t = [] := by intro e; subst e; simp at hn2
 have hC := fun (G : Ab.Loc) lab h => e_Copy07 t ht G (F :: s) lab h
 unfold wastedT clearedT
 rw [part_at hn2, if_pos rfl]
 have hset : (es cPart t).set n [i64 t[n].of, i64 t[n].weight.lo, i64 t[n].weight.hi, i64 w, i64 w, i64 t[n].pence] = es cPart (t.set n { t[n] with waste := ⟨w, w⟩ }) := by
  simp only [es, List.map_set, cPart]
 have htake : (t.set n { t[n] with waste := ⟨w, w⟩ }).take t.length = t.set n { t[n] with waste := ⟨w, w⟩ } := List.take_of_length_le (by simp)
 rw [den_fn t42 _ _ _ rfl]
 simp only [b42]
 simp (maxSteps := 1000000) (disch := first | omega | assumption | decide +kernel | (simp; done) | (simp; omega) | fail) [run_drawnK, hC, hn2, hne, hset, htake]
set_option maxHeartbeats 2000000 in
theorem e_WeightOf_l (t : List Part) (ht : tblOk t = true) (n : Nat) (hn : n < t.length) (m : Nat) (hm : t[n].weight.lo + m = t[n].weight.hi + 1) (s : Stk)  :
 Run T b38l0 [(0, .sl .no 6 (es cPart t)), (1, i64 n), (4, .ptr s.length 64 0), (5, .ptr s.length 80 0),(6, i64 t[n].weight.lo)] ([(64, .cell [i64 0, i64 0]), (80, .cell [i64 30, i64 0])] :: s) = some (.exit 0, [(0, .sl .no 6 (es cPart t)), (1, i64 n), (4, .ptr s.length 64 0), (5, .ptr s.length 80 0),(6, i64 (t[n].weight.lo + ((List.range m).length : Nat))), (21, .bool false)], [(64, .cell [i64 0, i64 0]), (80, .cell [i64 (((List.range m).foldl (hullG (fun v => oneB (onlyT t n v)) t[n].weight.lo) (⟨30, 0⟩ : Sp))).lo, i64 (((List.range m).foldl (hullG (fun v => oneB (onlyT t n v)) t[n].weight.lo) (⟨30, 0⟩ : Sp))).hi])] :: s) := by
 have key := loop_fold (T := T) (live := [0, 1, 4, 5, 6]) (keep := [64, 80]) (b := d38l0) (List.range m) (fun _ _ => True) (hullG (fun v => oneB (onlyT t n v)) t[n].weight.lo) (fun k (a : Sp) => [(0, .sl .no 6 (es cPart t)), (1, i64 n), (4, .ptr s.length 64 0), (5, .ptr s.length 80 0),(6, i64 (t[n].weight.lo + (k : Nat)))]) (fun k (a : Sp) => [(64, .cell [i64 0, i64 0]), (80, .cell [i64 (a).lo, i64 (a).hi])] :: s) (fun (a : Sp) => (.exit 0, [(0, .sl .no 6 (es cPart t)), (1, i64 n), (4, .ptr s.length 64 0), (5, .ptr s.length 80 0),(6, i64 (t[n].weight.lo + ((List.range m).length : Nat))), (21, .bool false)], [(64, .cell [i64 0, i64 0]), (80, .cell [i64 (a).lo, i64 (a).hi])] :: s)) (by simp) ?_ ?_ ?_ (⟨30, 0⟩ : Sp) (by simp) [(0, .sl .no 6 (es cPart t)), (1, i64 n), (4, .ptr s.length 64 0), (5, .ptr s.length 80 0),(6, i64 t[n].weight.lo)] ([(64, .cell [i64 0, i64 0]), (80, .cell [i64 30, i64 0])] :: s) (by simp) (by simp)
 ·exact key
 ·intro k a hk hi
  try simp only [List.length_range] at hk
  try simp only [List.getElem_range]
  have hlen := tblOk_len ht
  have hw := tblOk_w ht n hn
  have hn2 : (n : Int) < t.length := by omega
  have hk2 : t[n].weight.lo + (k : Int) ≤ t[n].weight.hi := by omega
  have w1 : IntKind.i64.wrap (t[n].weight.lo + (k : Int) + 1) = t[n].weight.lo + ((k + 1 : Nat) : Int) := by rw [wi _ (by omega) (by omega)]; omega
  have hO := fun F lab => e_Only t n (t[n].weight.lo + (k : Int)) hn (by omega) F s lab
  have hI := fun lab s => e_IsOne (onlyT t n (t[n].weight.lo + (k : Int))) (only_ok ht (n := n) (by omega)) lab s
  unfold hullG
  cases h1 : oneB (onlyT t n (t[n].weight.lo + (k : Int)))
  ·rw [h1] at hI
   simp (maxSteps := 1000000) (disch := first | omega | assumption | decide +kernel | (simp; done) | (simp; omega) | fail) [hn, hn2, hk2, w1, hO, hI, h1]
  ·rw [h1] at hI
   simp (maxSteps := 1000000) (disch := first | omega | assumption | decide +kernel | (simp; done) | (simp; omega) | fail) [hn, hn2, hk2, w1, hO, hI, h1]
 ·intro k a hk hi
  try simp only [List.length_range] at hk
  try simp only [List.getElem_range]
  try simp
 ·intro a hi
  have hn2 : (n : Int) < t.length := by omega
  have hk3 : ¬ t[n].weight.lo + (m : Int) ≤ t[n].weight.hi := by omega
  simp [hn, hn2, hk3]
set_option maxHeartbeats 2000000 in
theorem e_Lost_l (t : List Part) (ht : tblOk t = true) (n : Nat) (hn : n < t.length) (m : Nat) (hm : t[n].waste.lo + m = t[n].waste.hi + 1) (s : Stk)  :
 Run T b14l0 [(0, .sl .no 6 (es cPart t)), (1, i64 n), (4, .ptr s.length 64 0), (7, .ptr s.length 112 0),(8, i64 t[n].waste.lo)] ([(64, .cell [i64 0, i64 0]), (112, .cell [i64 30, i64 0])] :: s) = some (.exit 0, [(0, .sl .no 6 (es cPart t)), (1, i64 n), (4, .ptr s.length 64 0), (7, .ptr s.length 112 0),(8, i64 (t[n].waste.lo + ((List.range m).length : Nat))), (37, .bool false)], [(64, .cell [i64 0, i64 0]), (112, .cell [i64 (((List.range m).foldl (hullG (fun v => oneB (wastedT t n v)) t[n].waste.lo) (⟨30, 0⟩ : Sp))).lo, i64 (((List.range m).foldl (hullG (fun v => oneB (wastedT t n v)) t[n].waste.lo) (⟨30, 0⟩ : Sp))).hi])] :: s) := by
 have key := loop_fold (T := T) (live := [0, 1, 4, 7, 8]) (keep := [64, 112, 192, 256, 288]) (b := d14l0) (List.range m) (fun _ _ => True) (hullG (fun v => oneB (wastedT t n v)) t[n].waste.lo) (fun k (a : Sp) => [(0, .sl .no 6 (es cPart t)), (1, i64 n), (4, .ptr s.length 64 0), (7, .ptr s.length 112 0),(8, i64 (t[n].waste.lo + (k : Nat)))]) (fun k (a : Sp) => [(64, .cell [i64 0, i64 0]), (112, .cell [i64 (a).lo, i64 (a).hi])] :: s) (fun (a : Sp) => (.exit 0, [(0, .sl .no 6 (es cPart t)), (1, i64 n), (4, .ptr s.length 64 0), (7, .ptr s.length 112 0),(8, i64 (t[n].waste.lo + ((List.range m).length : Nat))), (37, .bool false)], [(64, .cell [i64 0, i64 0]), (112, .cell [i64 (a).lo, i64 (a).hi])] :: s)) (by simp) ?_ ?_ ?_ (⟨30, 0⟩ : Sp) (by simp) [(0, .sl .no 6 (es cPart t)), (1, i64 n), (4, .ptr s.length 64 0), (7, .ptr s.length 112 0),(8, i64 t[n].waste.lo)] ([(64, .cell [i64 0, i64 0]), (112, .cell [i64 30, i64 0])] :: s) (by simp) (by simp)
 ·exact key
 ·intro k a hk hi
  try simp only [List.length_range] at hk
  try simp only [List.getElem_range]
  have hlen := tblOk_len ht
  have hw := tblOk_w ht n hn
  have hn2 : (n : Int) < t.length := by omega
  have hk2 : t[n].waste.lo + (k : Int) ≤ t[n].waste.hi := by omega
  have w1 : IntKind.i64.wrap (t[n].waste.lo + (k : Int) + 1) = t[n].waste.lo + ((k + 1 : Nat) : Int) := by rw [wi _ (by omega) (by omega)]; omega
  have hO := fun F lab => e_Wasted t n (t[n].waste.lo + (k : Int)) hn (by omega) F s lab
  have hI := fun lab s => e_IsOne (wastedT t n (t[n].waste.lo + (k : Int))) (wasted_ok ht (n := n) (by omega)) lab s
  unfold hullG
  cases h1 : oneB (wastedT t n (t[n].waste.lo + (k : Int)))
  ·rw [h1] at hI
   simp (maxSteps := 1000000) (disch := first | omega | assumption | decide +kernel | (simp; done) | (simp; omega) | fail) [hn, hn2, hk2, w1, hO, hI, h1]
  ·rw [h1] at hI
   simp (maxSteps := 1000000) (disch := first | omega | assumption | decide +kernel | (simp; done) | (simp; omega) | fail) [hn, hn2, hk2, w1, hO, hI, h1]
 ·intro k a hk hi
  try simp only [List.length_range] at hk
  try simp only [List.getElem_range]
  try simp
 ·intro a hi
  have hn2 : (n : Int) < t.length := by omega
  have hk3 : ¬ t[n].waste.lo + (m : Int) ≤ t[n].waste.hi := by omega
  simp [hn, hn2, hk3]
end Go.Proofs.YtlcnoldkekcifaaGreat

/-
  Cuts: Weight, Lost, Whole, Holds of the reference, whole (not built yet).
-/
namespace Go.Proofs.YtlcnoldkekcifaaGreat
open Go.Ab
theorem ask_okZ {t : List Part} {is : Bool} (h : askE t is = 0) : tblOk t = true := by
 unfold askE at h; cases ht : tblOk t
 ·rw [ht] at h; simp at h
 ·rfl
theorem spanR_bad {t : List Part} {is : Bool} {e} (h : ¬ askE t is = 0) : spanR t is e = (⟨0, 0⟩, askE t is) := by unfold spanR; rw [if_neg h]
theorem spanR_unknown {t : List Part} (ht : tblOk t = true) {e} (he : Small t e) (h : oneB t = false) : spanR t true e = (⟨0, 0⟩, 3) := by
 rcases span_known ht he with ⟨_, _, h2, _⟩ | ⟨h1, _⟩
 ·rw [h] at h2; cases h2
 ·exact h1
theorem ask_true {t : List Part} (ht : tblOk t = true) : askE t true = 0 := by unfold askE; rw [ht]; rfl
theorem ask_is {t : List Part} {is : Bool} (h : askE t is = 0) : is = true := by
 have ht := ask_okZ h
 cases is
 ·unfold askE at h; rw [ht] at h; simp at h
 ·rfl
theorem e_WeightOf (t : List Part) (ht : tblOk t = true) (n : Nat) (hn : n < t.length) {s0 : Sp} (hs : SpanOf t (weightE n) s0) (lab s) :
 den T 38 [.sl .no 6 (es cPart t), i64 n] lab s = some (.agg [i64 s0.lo, i64 s0.hi], s) := by
 have hlen := tblOk_len ht
 have hw := tblOk_w ht n hn
 have hn2 : (n : Int) < t.length := by omega
 obtain ⟨m, hm⟩ : ∃ m : Nat, t[n].weight.lo + m = t[n].weight.hi + 1 := ⟨(t[n].weight.hi + 1 - t[n].weight.lo).toNat, by omega⟩
 have hL := e_WeightOf_l t ht n hn m hm s
 have hh := weight_hull ht hn hs (m := m) (by rw [part_at hn]; exact hm)
 rw [part_at hn] at hh
 rw [show (List.range m).foldl (hullG (fun v => oneB (onlyT t n v)) t[n].weight.lo) ⟨30, 0⟩ = s0 from hh] at hL
 simp only [List.length_range] at hL
 rw [den_fn t38 _ _ _ rfl]
 simp only [b38]
 simp (maxSteps := 1000000) (disch := first | omega | assumption | decide +kernel | (simp; done) | (simp; omega) | fail) [hn, hn2, hL]
set_option maxHeartbeats 1000000 in
theorem e_Weight07 (t : List Part) (n : Int) (hl : t.length < 4611686018427387904) (lab s) :
 den T 12 [.sl .no 6 (es cPart t), i64 n] lab s = some (.tup [.agg [i64 (spanR t (isPart t n) (weightE n)).1.lo, i64 (spanR t (isPart t n) (weightE n)).1.hi], i64 (spanR t (isPart t n) (weightE n)).2], s) := by
 rw [den_fn t12 _ _ _ rfl]
 simp only [b12]
 by_cases h : askE t (isPart t n) = 0
 ·have ht := ask_okZ h
  have hp := ask_is h
  have hb : 0 ≤ n ∧ n < t.length := by simp only [isPart, within, Bool.and_eq_true, decide_eq_true_eq] at hp; omega
  obtain ⟨p, rfl⟩ : ∃ p : Nat, n = p := ⟨n.toNat, by omega⟩
  have hpl : p < t.length := by omega
  rcases span_known ht (small_weight t p) with ⟨s0, h1, h2, h3⟩ | ⟨h1, h2⟩
  ·have hW := fun lab s => e_WeightOf t ht p hpl h3 lab s
   rw [hp, h1]
   simp (maxSteps := 1000000) (disch := first | omega | assumption | decide +kernel | (simp; done) | (simp; omega) | fail) [h, hp, hl, knownE, ask_true ht, h2, hW]
  ·rw [hp, h1]
   simp (maxSteps := 1000000) (disch := first | omega | assumption | decide +kernel | (simp; done) | (simp; omega) | fail) [h, hp, hl, knownE, ask_true ht, h2]
 ·rw [spanR_bad h]
  simp (maxSteps := 1000000) (disch := first | omega | assumption | decide +kernel | (simp; done) | (simp; omega) | fail) [h, hl, knownE]
set_option maxHeartbeats 2000000 in
theorem e_Lost07 (t : List Part) (n : Int) (hl : t.length < 4611686018427387904) (lab s) :
 den T 14 [.sl .no 6 (es cPart t), i64 n] lab s = some (.tup [.agg [i64 (spanR t (isPart t n && canCut t n) (lostE t n)).1.lo, i64 (spanR t (isPart t n && canCut t n) (lostE t n)).1.hi], i64 (spanR t (isPart t n && canCut t n) (lostE t n)).2], s) := by
 rw [den_fn t14 _ _ _ rfl]
 simp only [b14]
 by_cases h : askE t (isPart t n && canCut t n) = 0
 ·have ht := ask_okZ h
  have hpc := ask_is h
  have hp : isPart t n = true := by cases h1 : isPart t n <;> simp [h1] at hpc ⊢
  have hcc : canCut t n = true := by cases h1 : canCut t n <;> simp [h1] at hpc ⊢
  have hb : 0 ≤ n ∧ n < t.length := by simp only [isPart, within, Bool.and_eq_true, decide_eq_true_eq] at hp; omega
  obtain ⟨p, rfl⟩ : ∃ p : Nat, n = p := ⟨n.toNat, by omega⟩
  have hpl : p < t.length := by omega
  have hpl2 : (p : Int) < t.length := by omega
  rcases span_known ht (small_lost t p) with ⟨s0, h1, h2, h3⟩ | ⟨h1, h2⟩
  ·have hw := tblOk_w ht p hpl
   obtain ⟨m, hm⟩ : ∃ m : Nat, t[p].waste.lo + m = t[p].waste.hi + 1 := ⟨(t[p].waste.hi + 1 - t[p].waste.lo).toNat, by omega⟩
   have hL := e_Lost_l t ht p hpl m hm s
   have hh := lost_hull ht hpl hcc h3 (m := m) (by rw [part_at hpl]; exact hm)
   rw [part_at hpl] at hh
   rw [show (List.range m).foldl (hullG (fun v => oneB (wastedT t p v)) t[p].waste.lo) ⟨30, 0⟩ = s0 from hh] at hL
   simp only [List.length_range] at hL
   rw [hpc, h1]
   simp (maxSteps := 1000000) (disch := first | omega | assumption | decide +kernel | (simp; done) | (simp; omega) | fail) [h, hp, hcc, hl, hpl, hpl2, knownE, ask_true ht, h2, hL]
  ·rw [hpc, h1]
   simp (maxSteps := 1000000) (disch := first | omega | assumption | decide +kernel | (simp; done) | (simp; omega) | fail) [h, hp, hcc, hl, knownE, ask_true ht, h2]
 ·rw [spanR_bad h]
  cases hp : isPart t n
  ·rw [hp] at h
   simp only [Bool.false_and] at h
   simp (maxSteps := 1000000) (disch := first | omega | assumption | decide +kernel | (simp; done) | (simp; omega) | fail) [h, hp, hl, knownE]
  ·cases hcc : canCut t n
   ·rw [hp, hcc] at h
    simp only [Bool.and_false] at h
    simp (maxSteps := 1000000) (disch := first | omega | assumption | decide +kernel | (simp; done) | (simp; omega) | fail) [h, hp, hcc, hl, knownE]
   ·rw [hp, hcc] at h
    simp only [Bool.and_self] at h
    simp (maxSteps := 1000000) (disch := first | omega | assumption | decide +kernel | (simp; done) | (simp; omega) | fail) [h, hp, hcc, hl, knownE]
theorem e_Whole07_l (t : List Part) (ht : t.length ≤ 40) (s : Stk)  :
 Run T b16l0 [(0, .sl .no 6 (es cPart t)), (2, .ptr s.length 32 0), (5, .asl s.length 240 1 t.length 0 t.length), (6, i64 0)] ([(32, .cell [i64 0, i64 0]), (240, .arr 1 (es cInt (List.replicate t.length 0)))] :: s) = some (.exit 0, [(0, .sl .no 6 (es cPart t)), (2, .ptr s.length 32 0), (5, .asl s.length 240 1 t.length 0 t.length), (6, i64 ((List.range t.length).length : Nat)), (19, .bool false)], [(32, .cell [i64 0, i64 0]), (240, .arr 1 (es cInt ((List.range t.length).foldl (wholeS t) (List.replicate t.length 0))))] :: s) := by
 have key := loop_fold (T := T) (live := [0, 2, 5, 6]) (keep := [32, 128, 240, 528]) (b := d16l0) (List.range t.length) (fun _ R => R.length = t.length) (wholeS t) (fun k (a : List Int) => [(0, .sl .no 6 (es cPart t)), (2, .ptr s.length 32 0), (5, .asl s.length 240 1 t.length 0 t.length), (6, i64 (k : Nat))]) (fun k (a : List Int) => [(32, .cell [i64 0, i64 0]), (240, .arr 1 (es cInt a))] :: s) (fun (a : List Int) => (.exit 0, [(0, .sl .no 6 (es cPart t)), (2, .ptr s.length 32 0), (5, .asl s.length 240 1 t.length 0 t.length), (6, i64 ((List.range t.length).length : Nat)), (19, .bool false)], [(32, .cell [i64 0, i64 0]), (240, .arr 1 (es cInt a))] :: s)) (by simp) ?_ ?_ ?_ (List.replicate t.length 0) (by simp) [(0, .sl .no 6 (es cPart t)), (2, .ptr s.length 32 0), (5, .asl s.length 240 1 t.length 0 t.length), (6, i64 0)] ([(32, .cell [i64 0, i64 0]), (240, .arr 1 (es cInt (List.replicate t.length 0)))] :: s) (by simp) (by simp)
 ·exact key
 ·intro k a hk hi
  try simp only [List.length_range] at hk
  try simp only [List.getElem_range]
  have hk2 : (k : Int) < t.length := by omega
  unfold wholeS
  rw [part_at hk]
  have hset : (es cInt a).set k [i64 1] = es cInt (a.set k 1) := by simp [es, List.map_set]
  by_cases h : t[k].of = -1
  ·simp (maxSteps := 1000000) (disch := first | omega | assumption | decide +kernel | (simp; done) | (simp; omega) | fail) [hk, hk2, h, hi, hset, wk k (by omega)]
  ·simp (maxSteps := 1000000) (disch := first | omega | assumption | decide +kernel | (simp; done) | (simp; omega) | fail) [hk, hk2, h, hi, wk k (by omega)]
 ·intro k a hk hi
  try simp only [List.length_range] at hk
  try simp only [List.getElem_range]
  unfold wholeS; split <;> simp [hi]
 ·intro a hi
  simp
set_option maxHeartbeats 2000000 in
theorem e_Whole07 (t : List Part) (hl : t.length < 4611686018427387904) (lab s) :
 den T 16 [.sl .no 6 (es cPart t)] lab s = some (.tup [.agg [i64 (spanR t true (wholeE t)).1.lo, i64 (spanR t true (wholeE t)).1.hi], i64 (spanR t true (wholeE t)).2], s) := by
 rw [den_fn t16 _ _ _ rfl]
 simp only [b16]
 by_cases h : askE t true = 0
 ·have ht := ask_okZ h
  have hlen := tblOk_len ht
  cases h2 : oneB t
  ·rw [spanR_unknown ht (small_whole t) h2]
   simp (maxSteps := 1000000) (disch := first | omega | assumption | decide +kernel | (simp; done) | (simp; omega) | fail) [h, hl, knownE, h2]
  ·rw [val_span ht (wholeLs_e t) (small_whole t) h2]
   have hL := e_Whole07_l t (by omega) s
   rw [whole_list] at hL
   simp only [List.length_range] at hL
   have l3 : List.replicate t.length [i64 0] = es cInt (List.replicate t.length 0) := by simp [es]
   have hb3 : (t.length : Int) < 140737488355328 := by omega
   have hb4 : (t.length : Int) * 8 ≤ 140737488355328 := by omega
   have hb : ¬ (140737488355328 : Int) < t.length * 8 := by omega
   have hb2 : ¬ (140737488355328 : Int) ≤ t.length := by omega
   have hV := fun lab => e_valued t (tw_ok ht) (wholeLs t) (by simp) (fun i hi => by rw [wholeLs_e]; exact small_whole t i hi) s.length 240 ([(32, .cell [i64 0, i64 0]), (240, .arr 1 (es cInt (wholeLs t)))] :: s) (by simp) (by rw [sget_cons, if_pos rfl]; rfl) lab
   generalize valLo t (wholeLs t) = lo at hV ⊢
   generalize valHi t (wholeLs t) = hi at hV ⊢
   generalize wholeLs t = P at hL hV
   simp (maxSteps := 1000000) (disch := first | omega | assumption | decide +kernel | (simp; done) | (simp; omega) | fail) [h, hl, knownE, h2, l3, hb, hb2, hb3, hb4, hL, hV]
 ·rw [spanR_bad h]
  simp (maxSteps := 1000000) (disch := first | omega | assumption | decide +kernel | (simp; done) | (simp; omega) | fail) [h, hl, knownE]
theorem e_Holds07 (t : List Part) (l : List Int) (hl : t.length < 4611686018427387904) (hl2 : l.length < 4611686018427387904) (lab s) : den T 7 [.sl .no 6 (es cPart t), .sl .no 1 (es cInt l)] lab s = some (.tup [.bool (holdsR t l).1, i64 (holdsR t l).2], s) := by
 unfold holdsR
 rw [den_fn t7 _ _ _ rfl]
 simp only [b7]
 cases h : tblOk t
 ·simp (maxSteps := 1000000) (disch := first | omega | assumption | decide +kernel | (simp; done) | (simp; omega) | fail) [h]
 ·simp (maxSteps := 1000000) (disch := first | omega | assumption | decide +kernel | (simp; done) | (simp; omega) | fail) [h, hl, hl2]
end Go.Proofs.YtlcnoldkekcifaaGreat

/-
  Cuts: CutsHolds (not built yet).
-/
namespace Go.Proofs.YtlcnoldkekcifaaGreat
open Go.Ab
theorem e_SameT_l (t : List Part) (ht : t.length < 4611686018427387904) (s : Stk)  :
 Run T b17l0 [(0, .sl .no 6 (es cPart t)), (1, .sl .no 6 (es cPart t)), (5, i64 0)] ([] :: s) = some (.exit 0, [(0, .sl .no 6 (es cPart t)), (1, .sl .no 6 (es cPart t)), (5, i64 ((List.range t.length).length : Nat)), (14, .bool false)], [] :: s) := by
 have key := loop_fold (T := T) (live := [0, 1, 5]) (keep := []) (b := d17l0) (List.range t.length) (fun _ _ => True) (fun _ _ => ()) (fun k (a : Unit) => [(0, .sl .no 6 (es cPart t)), (1, .sl .no 6 (es cPart t)), (5, i64 (k : Nat))]) (fun k (a : Unit) => [] :: s) (fun (a : Unit) => (.exit 0, [(0, .sl .no 6 (es cPart t)), (1, .sl .no 6 (es cPart t)), (5, i64 ((List.range t.length).length : Nat)), (14, .bool false)], [] :: s)) (by simp) ?_ ?_ ?_ () (by simp) [(0, .sl .no 6 (es cPart t)), (1, .sl .no 6 (es cPart t)), (5, i64 0)] ([] :: s) (by simp) (by simp)
 ·exact key
 ·intro k a hk hi
  try simp only [List.length_range] at hk
  try simp only [List.getElem_range]
  have hk2 : (k : Int) < t.length := by omega
  simp (maxSteps := 1000000) (disch := first | omega | assumption | decide +kernel | (simp; done) | (simp; omega) | fail) [run_drawnK, hk, hk2, wk k (by omega)]
 ·intro k a hk hi
  try simp only [List.length_range] at hk
  try simp only [List.getElem_range]
  try simp
 ·intro a hi
  simp
theorem e_SameT (t : List Part) (ht : t.length < 4611686018427387904) (lab s) : den T 17 [.sl .no 6 (es cPart t), .sl .no 6 (es cPart t)] lab s = some (.bool true, s) := by
 have h := e_SameT_l t ht s
 simp only [List.length_range] at h
 rw [den_fn t17 _ _ _ rfl]
 simp only [b17]
 simp (maxSteps := 1000000) (disch := first | omega | assumption | decide +kernel | (simp; done) | (simp; omega) | fail) [h]
set_option maxHeartbeats 8000000 in
theorem e_CutsHolds (t : List Part) (hl : t.length < 4611686018427387904) (a : List Int) (ha : a.length < 4611686018427387904) (n : Int) (lab s) :
 den T 3 [.sl .no 6 (es cPart t), .sl .no 1 (es cInt a), i64 n] lab s = some (.bool true, s) := by
 rw [den_fn t3 _ _ _ rfl]
 simp only [b3]
 by_cases h1 : (40 : Int) < t.length
 ·simp (maxSteps := 1000000) (disch := first | omega | assumption | decide +kernel | (simp; done) | (simp; omega) | fail) [h1]
 by_cases h2 : (40 : Int) < a.length
 ·simp (maxSteps := 1000000) (disch := first | omega | assumption | decide +kernel | (simp; done) | (simp; omega) | fail) [h1, h2]
 have hC := fun F lab hF => e_Copy07 t (by omega) F s lab hF
 have p1 := fun lab s => e_Holds t a ha hl lab s
 have p2 := fun lab s => e_Holds07 t a hl ha lab s
 have q1 := fun lab s => e_Weight t n hl lab s
 have q2 := fun lab s => e_Weight07 t n hl lab s
 have r1 := fun lab s => e_Lost t n hl lab s
 have r2 := fun lab s => e_Lost07 t n hl lab s
 have u1 := fun lab s => e_Whole t hl lab s
 have u2 := fun lab s => e_Whole07 t hl lab s
 have v1 := fun lab s => e_CheckC t lab s
 have v2 := fun lab s => e_Check07 t lab s
 have hS := fun lab s => e_SameT t hl lab s
 have z0 : t.take t.length = t := List.take_of_length_le (Nat.le_refl _)
 generalize holdsR t a = p at p1 p2
 generalize spanR t (isPart t n) (weightE n) = q at q1 q2
 generalize spanR t (isPart t n && canCut t n) (lostE t n) = r at r1 r2
 generalize spanR t true (wholeE t) = u at u1 u2
 generalize (if tblOk t = true then (0 : Int) else 70) = v at v1 v2
 obtain ⟨x0, x1⟩ := p
 obtain ⟨⟨y0, y1⟩, y2⟩ := q
 obtain ⟨⟨z0', z1⟩, z2⟩ := r
 obtain ⟨⟨u0, u1'⟩, u2'⟩ := u
 dsimp only at p1 p2 q1 q2 r1 r2 u1 u2
 have k1 : ¬ (140737488355328 : Int) < a.length * 8 := by omega
 have k2 : ¬ (140737488355328 : Int) ≤ a.length := by omega
 by_cases ha0 : a = []
 ·simp (maxSteps := 1000000) (disch := first | omega | assumption | decide +kernel | (simp; done) | (simp; omega) | fail) [h1, h2, hC, p1, p2, q1, q2, r1, r2, u1, u2, v1, v2, hS, z0, k1, k2, appK_full_e ha0]
 ·simp (maxSteps := 1000000) (disch := first | omega | assumption | decide +kernel | (simp; done) | (simp; omega) | fail) [h1, h2, hC, p1, p2, q1, q2, r1, r2, u1, u2, v1, v2, hS, z0, k1, k2, appK_full, ha0]
end Go.Proofs.YtlcnoldkekcifaaGreat

/-
  What the arguments of the laws of cuts read as.
-/
namespace Go.Proofs.YtlcnoldkekcifaaGreat
open Go.Ab
set_option maxRecDepth 100000
theorem cells53 : Tryz.prog.cellsOf 53 = 6 := by kernel_rfl
theorem cells3 : Tryz.prog.cellsOf 3 = 1 := by kernel_rfl
variable {B : TypeId → Nat → Prop} {n : Nat} {vs : List V}
theorem fit_int (h : Fit Tryz.prog B (n + 1) 3 vs) : ∃ x, vs = [i64 x] := by
 simp only [Fit, Tryz.underlying3] at h
 exact h
theorem fit_sp (h : Fit Tryz.prog B (n + 2) 32 vs) : ∃ x : Sp, vs = cSp x := by
 simp only [Fit, FitF, Tryz.underlying32, Tryz.underlying3] at h
 obtain ⟨_, _, rfl, ⟨x, rfl⟩, _, _, rfl, ⟨y, rfl⟩, rfl⟩ := h
 exact ⟨⟨x, y⟩, rfl⟩
theorem fit_part (h : Fit Tryz.prog B (n + 3) 53 vs) : ∃ x : Part, vs = cPart x := by
 rw [Fit, Tryz.underlying53] at h
 simp only [FitF] at h
 obtain ⟨_, _, rfl, h0, _, _, rfl, h1, _, _, rfl, h2, _, _, rfl, h3, rfl⟩ := h
 obtain ⟨a, rfl⟩ := fit_int h0
 obtain ⟨x, rfl⟩ := fit_sp h1
 obtain ⟨y, rfl⟩ := fit_sp h2
 obtain ⟨z, rfl⟩ := fit_int h3
 exact ⟨⟨a, x, y, z⟩, rfl⟩
theorem es_all {α : Type} {f : α → List V} (l : List (List V)) (h : ∀ x ∈ l, ∃ y, x = f y) : ∃ l' : List α, l = es f l' := by
 obtain ⟨l', h1, _⟩ := es_of (Q := fun _ => True) l fun x hx => by obtain ⟨y, hy⟩ := h x hx; exact ⟨y, hy, trivial⟩
 exact ⟨l', h1⟩
theorem fit_ints (h : Fit Tryz.prog B (n + 2) 23 vs) : ∃ l : List Int, vs = [.sl .no 1 (es cInt l)] ∧ B 3 l.length := by
 rw [Fit, Tryz.underlying23] at h
 simp only at h
 obtain ⟨l, rfl, hb, h⟩ := h
 obtain ⟨l', rfl⟩ := es_all (f := cInt) l fun x hx => by obtain ⟨y, hy⟩ := fit_int (h x hx); exact ⟨y, hy⟩
 rw [cells3]
 exact ⟨l', rfl, by simpa using hb⟩
theorem fit_parts (h : Fit Tryz.prog B (n + 4) 22 vs) : ∃ l : List Part, vs = [.sl .no 6 (es cPart l)] ∧ B 53 l.length := by
 rw [Fit, Tryz.underlying22] at h
 simp only at h
 obtain ⟨l, rfl, hb, h⟩ := h
 obtain ⟨l', rfl⟩ := es_all (f := cPart) l fun x hx => fit_part (h x hx)
 rw [cells53]
 exact ⟨l', rfl, by simpa using hb⟩
def Reach (e : TypeId) (k : Nat) : Prop := k ≤ maxLen ∧ k * Tryz.prog.bytesOf e ≤ reachBytes
theorem bytes53 : Tryz.prog.bytesOf 53 = 48 := by kernel_rfl
theorem bytes3 : Tryz.prog.bytesOf 3 = 8 := by kernel_rfl
theorem reach_ints {k : Nat} (h : Reach 3 k) : k < 4611686018427387904 := by
 simp only [Reach, bytes3, reachBytes] at h; omega
theorem reach_parts {k : Nat} (h : Reach 53 k) : k < 4611686018427387904 := by
 simp only [Reach, bytes53, reachBytes] at h; omega
end Go.Proofs.YtlcnoldkekcifaaGreat
