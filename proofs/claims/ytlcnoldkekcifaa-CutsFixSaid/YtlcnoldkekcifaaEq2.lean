/-
  Cuts: cuts of a table; what is paid.
-/
import Derived.Test.YtlcnoldkekcifaaEq1
set_option linter.unusedSimpArgs false
set_option linter.unusedVariables false
namespace Go.Proofs.Ytlcnoldkekcifaa
open Go.Ab
theorem e_Index_l (l : List Int) (n : Int) (S : Stk) (hl : l.length < 4611686018427387904) :
 ∃ g : Nat, Run T b119l0 [(0, .sl .no 1 (es cInt l)), (1, i64 n), (7, i64 l.length), (8, i64 0)] ([] :: S) =
  if allB (fun x => !decide (x = n)) l = true then some (.exit 0, [(0, .sl .no 1 (es cInt l)), (1, i64 n), (7, i64 l.length), (8, i64 l.length), (9, .bool false)], [] :: S) else some (.ret, [(4, i64 (g : Nat))], [] :: S) := by
 refine loop_all_g l (fun x => !decide (x = n)) (fun k => [(0, .sl .no 1 (es cInt l)), (1, i64 n), (7, i64 l.length), (8, i64 k)]) (fun _ => [] :: S) (fun g : Nat => (.ret, [(4, i64 (g : Nat))], [] :: S)) _ (by simp) (by simp) ?_ (by simp) _ _ (by simp) (by simp)
 intro k hk
 refine ⟨k, ?_⟩
 by_cases h : l[k] = n
 ·have h' : n = l[k] := h.symm
  simp (disch := first | omega | assumption | decide +kernel | (simp; done) | (simp; omega) | fail) [hk, h, wk k (by omega)]
 ·have h' : ¬ n = l[k] := fun e => h e.symm
  simp (disch := first | omega | assumption | decide +kernel | (simp; done) | (simp; omega) | fail) [hk, h, h', wk k (by omega)]
@[simp] theorem e_Contains (l : List Int) (n : Int) (S : Stk) (hl : l.length < 4611686018427387904) (lab) :
 den T 103 [.sl .no 1 (es cInt l), i64 n] lab S = some (.bool (anyB (fun x => decide (x = n)) l), S) := by
 have ha : anyB (fun x => decide (x = n)) l = !allB (fun x => !decide (x = n)) l := by simp only [anyB, allB, List.not_all_eq_any_not, Bool.not_not]
 have hi : ∃ r : Int, (∀ lab S', S' = [] :: S → den T 119 [.sl .no 1 (es cInt l), i64 n] lab S' = some (i64 r, S')) ∧ (0 ≤ r ↔ anyB (fun x => decide (x = n)) l = true) := by
  obtain ⟨g, hg⟩ := e_Index_l l n ([] :: S) hl
  rw [ha]
  refine ⟨if allB (fun x => !decide (x = n)) l = true then -1 else g, ?_, ?_⟩
  rotate_left
  ·cases allB (fun x => !decide (x = n)) l <;> simp
  intro lab S' hS
  subst hS
  rw [den_fn t119 _ _ _ rfl]
  simp only [b119]
  cases h : allB (fun x => !decide (x = n)) l <;> simp (disch := first | omega | assumption | decide +kernel | (simp; done) | (simp; omega) | fail) [hg, h]
 obtain ⟨r, hr, hi⟩ := hi
 have hr' := fun lab => hr lab _ rfl
 rw [den_fn t103 _ _ _ rfl]
 simp only [b103]
 by_cases h : 0 ≤ r
 ·have := hi.1 h
  simp (disch := first | omega | assumption | decide +kernel | (simp; done) | (simp; omega) | fail) [hr', h, this]
 ·have : anyB (fun x => decide (x = n)) l = false := by cases hx : anyB (fun x => decide (x = n)) l; rfl; exact absurd (hi.2 hx) h
  simp (disch := first | omega | assumption | decide +kernel | (simp; done) | (simp; omega) | fail) [hr', h, this]
abbrev has (l : List Int) (n : Int) : Bool := anyB (fun x => decide (x = n)) l
def ofAt (t : List Part) (n : Int) : Int := (t.getD n.toNat default).of
def cutAt (t : List Part) (cut : List Int) (k : Nat) : Bool :=
 isPart t (cut.getD k 0) && (canCut t (cut.getD k 0) && (!(decide (0 < k) && decide (cut.getD k 0 ≤ cut.getD (k - 1) 0)) && !(!decide (ofAt t (cut.getD k 0) = -1) && !has (cut.take k) (ofAt t (cut.getD k 0)))))
def isCutP (t : List Part) (cut : List Int) : Bool := allB (cutAt t cut) (List.range cut.length)
theorem e_isCut_l (t : List Part) (cut : List Int) (s : Stk) (hl : t.length < 4611686018427387904) (hc : cut.length < 4611686018427387904) :
 Run T b68l0 [(0, .sl .no 6 (es cPart t)), (1, .sl .no 1 (es cInt cut)), (7, .sl .no 1 (es cInt cut)), (8, i64 cut.length), (9, i64 0)] ([] :: s) =
  if isCutP t cut = true then some (.exit 0, [(0, .sl .no 6 (es cPart t)), (1, .sl .no 1 (es cInt cut)), (7, .sl .no 1 (es cInt cut)), (8, i64 cut.length), (9, i64 cut.length), (10, .bool false)], [] :: s) else some (.ret, [(4, .bool false)], [] :: s) := by
 refine (loop_all (List.range cut.length) (cutAt t cut) (fun k => [(0, .sl .no 6 (es cPart t)), (1, .sl .no 1 (es cInt cut)), (7, .sl .no 1 (es cInt cut)), (8, i64 cut.length), (9, i64 k)]) (fun _ => [] :: s) (.ret, [(4, .bool false)], [] :: s) (.exit 0, [(0, .sl .no 6 (es cPart t)), (1, .sl .no 1 (es cInt cut)), (7, .sl .no 1 (es cInt cut)), (8, i64 cut.length), (9, i64 cut.length), (10, .bool false)], [] :: s) (by simp) (by simp) ?_ (by simp) _ _ (by simp) (by simp)).trans ?_
 ·intro k hk
  have hk : k < cut.length := by simpa using hk
  rw [List.getElem_range]
  have e0 : cut.getD k 0 = cut[k] := by simp [List.getD, hk]
  have wk1 : IntKind.i64.wrap ((k : Int) - 1) = (k : Int) - 1 := wi _ (by omega) (by omega)
  unfold cutAt ofAt
  rw [e0]
  cases h1 : isPart t cut[k]
  ·simp (disch := first | omega | assumption | decide +kernel | (simp; done) | (simp; omega) | fail) [hk, h1, wk k (by omega)]
  have hb : 0 ≤ cut[k] ∧ cut[k] < t.length := by simp only [isPart, within, Bool.and_eq_true, decide_eq_true_eq] at h1; omega
  have e3 : ((cut[k].toNat : Nat) : Int) = cut[k] := by omega
  have hb2 : cut[k].toNat < t.length := by omega
  rw [part_at hb2]
  cases h2 : canCut t cut[k]
  ·simp (disch := first | omega | assumption | decide +kernel | (simp; done) | (simp; omega) | fail) [hk, h1, h2, wk k (by omega)]
  have z7 : min k cut.length = k := by omega
  have z8 : (cut.take k).length < 4611686018427387904 := by rw [List.length_take]; omega
  have z9 : k ≤ cut.length := by omega
  by_cases h5 : 0 < k
  ·have e2 : cut.getD (k - 1) 0 = cut[k - 1] := by simp [List.getD, show k - 1 < cut.length by omega]
   have z1 : (0 : Int) < k := by omega
   have z2 : ((k : Int) - 1).toNat = k - 1 := by omega
   have z3 : (0 : Int) ≤ (k : Int) - 1 := by omega
   have z4 : (k : Int) - 1 < cut.length := by omega
   have z5 : k - 1 < cut.length := by omega
   have z6 : (1 : Int) ≤ k := by omega
   rw [e2]
   by_cases h6 : cut[k] ≤ cut[k - 1]
   ·simp (disch := first | omega | assumption | decide +kernel | (simp; done) | (simp; omega) | fail) [hk, h1, h2, h5, h6, z1, z2, z3, z4, z5, z6, z7, z8, z9, wk1, hb, hb2, e3, wk k (by omega)]
   ·by_cases h3 : t[cut[k].toNat].of = -1
    ·simp (disch := first | omega | assumption | decide +kernel | (simp; done) | (simp; omega) | fail) [hk, h1, h2, h3, h5, h6, z1, z2, z3, z4, z5, z6, z7, z8, z9, wk1, hb, hb2, e3, wk k (by omega)]
    ·cases h4 : has (cut.take k) t[cut[k].toNat].of <;> simp (disch := first | omega | assumption | decide +kernel | (simp; done) | (simp; omega) | fail) [hk, h1, h2, h3, h4, h5, h6, z1, z2, z3, z4, z5, z6, z7, z8, z9, wk1, hb, hb2, e3, wk k (by omega)]
  ·have z1 : ¬ (0 : Int) < k := by omega
   by_cases h3 : t[cut[k].toNat].of = -1
   ·simp (disch := first | omega | assumption | decide +kernel | (simp; done) | (simp; omega) | fail) [hk, h1, h2, h3, h5, z1, z7, z8, z9, wk1, hb, hb2, e3, wk k (by omega)]
   ·cases h4 : has (cut.take k) t[cut[k].toNat].of <;> simp (disch := first | omega | assumption | decide +kernel | (simp; done) | (simp; omega) | fail) [hk, h1, h2, h3, h4, h5, z1, z7, z8, z9, wk1, hb, hb2, e3, wk k (by omega)]
 ·rfl
@[simp] theorem e_isCut (t : List Part) (cut : List Int) (hl : t.length < 4611686018427387904) (hc : cut.length < 4611686018427387904) (lab s) :
 den T 68 [.sl .no 6 (es cPart t), .sl .no 1 (es cInt cut)] lab s = some (.bool (isCutP t cut), s) := by
 have h := e_isCut_l t cut s hl hc
 rw [den_fn t68 _ _ _ rfl]
 simp only [b68]
 cases h2 : isCutP t cut <;> simp (disch := first | omega | assumption | decide +kernel | (simp; done) | (simp; omega) | fail) [h, h2, hc, hl]
def paysE (t : List Part) (cut : List Int) (i : Nat) : Int := if has cut i = true ∨ (t.getD i default).of ≠ -1 ∧ has cut (t.getD i default).of = false then 0 else (t.getD i default).pence
theorem e_pays1 (t : List Part) (cut : List Int) (d l l2 i : Nat) (hi : i < t.length) (hl : t.length < 4611686018427387904) (hc : cut.length < 4611686018427387904) (s : Stk) (hd : d < s.length) (h1 : sget s d l = some (.cell [.sl .no 6 (es cPart t)])) (h2 : sget s d l2 = some (.cell [.sl .no 1 (es cInt cut)])) (lab) :
 den T 104 [i64 i, .ptr d l 0, .ptr d l2 0] lab s = some (i64 (paysE t cut i), s) := by
 have hd2 : ¬ d = s.length := by omega
 unfold paysE; rw [part_at hi]
 rw [den_fn t104 _ _ _ rfl]
 simp only [b104]
 cases h3 : has cut i
 ·by_cases h4 : t[i].of = -1
  ·simp (disch := first | omega | assumption | decide +kernel | (simp; done) | (simp; omega) | fail) [h1, h2, hd2, h3, h4, hi, hc]
  ·cases h5 : has cut t[i].of <;> simp (disch := first | omega | assumption | decide +kernel | (simp; done) | (simp; omega) | fail) [h1, h2, hd2, h3, h4, h5, hi, hc]
 ·simp (disch := first | omega | assumption | decide +kernel | (simp; done) | (simp; omega) | fail) [h1, h2, hd2, h3, hi, hc]
structure GoodT (t : List Part) : Prop where
 len : t.length ≤ 8
 of : OfOk t
 pence : ∀ i (hi : i < t.length), 0 ≤ t[i].pence ∧ t[i].pence ≤ 100
theorem good_of {t : List Part} (h : tblOk t = true) : GoodT t := ⟨tblOk_len h, tblOk_of h, fun i hi => by have := tblOk_w h i hi; omega⟩
theorem pays_ok {t : List Part} (h : GoodT t) (cut : List Int) (d l l2 : Nat) (hc : cut.length < 4611686018427387904) (S : Stk) (hd : d < S.length) (h1 : sget S d l = some (.cell [.sl .no 6 (es cPart t)])) (h2 : sget S d l2 = some (.cell [.sl .no 1 (es cInt cut)])) : EachOk S 104 [] [.ptr d l 0, .ptr d l2 0] (paysE t cut) t.length where
 call fr i lab hi := e_pays1 t cut d l l2 i hi (by have := h.len; omega) hc (fr ++ S) (by simp; omega) (by rw [sget_app _ _ _ _ hd]; exact h1) (by rw [sget_app _ _ _ _ hd]; exact h2) lab
 keep D keep hD := by
  have : ¬ d = D := by omega
  simp [dropR, this]
 keep1 D keep hD := by simp
 small i hi := by have := h.pence i hi; unfold paysE; rw [part_at hi]; split <;> omega
theorem e_paysF (t : List Part) (cut : List Int) (F : Ab.Loc) (s : Stk) (lab : Nat) (h1 : Loc.get F lab = none) (h2 : Loc.get F (lab + 1000) = none) :
 den T 69 [.sl .no 6 (es cPart t), .sl .no 1 (es cInt cut)] lab (F :: s) = some (.fn 104 [] [.ptr s.length lab 0, .ptr s.length (lab + 1000) 0], (Loc.put (Loc.put F lab (.cell [.sl .no 6 (es cPart t)])) (lab + 1000) (.cell [.sl .no 1 (es cInt cut)])) :: s) := by
 rw [den_fn t69 _ _ _ rfl]
 simp only [b69]
 simp (maxSteps := 1000000) (disch := first | omega | assumption | decide +kernel | (simp; done) | (simp; omega) | fail) [h1, h2]
def priceR (t : List Part) (cut : List Int) : Sp × Int := if tblOk t = true then spanR t (isCutP t cut) (paysE t cut) else (⟨0, 0⟩, 70)
@[simp] theorem e_Price (t : List Part) (cut : List Int) (hl : t.length < 4611686018427387904) (hc : cut.length < 4611686018427387904) (lab s) :
 den T 28 [.sl .no 6 (es cPart t), .sl .no 1 (es cInt cut)] lab s = some (.tup [.agg [i64 (priceR t cut).1.lo, i64 (priceR t cut).1.hi], i64 (priceR t cut).2], s) := by
 unfold priceR
 rw [den_fn t28 _ _ _ rfl]
 simp only [b28]
 by_cases h : tblOk t = true
 ·have hS : ∀ (F : Ab.Loc) (is : Bool) (lab), Loc.get F 336 = some (.cell [.sl .no 6 (es cPart t)]) → Loc.get F 1336 = some (.cell [.sl .no 1 (es cInt cut)]) → den T 61 [.sl .no 6 (es cPart t), .bool is, .fn 104 [] [.ptr s.length 336 0, .ptr s.length 1336 0]] lab (F :: s) = some (.tup [.agg [i64 (spanR t is (paysE t cut)).1.lo, i64 (spanR t is (paysE t cut)).1.hi], i64 (spanR t is (paysE t cut)).2], F :: s) := fun F is lab g g2 =>
   e_span' t is (F :: s) (fun _ => pays_ok (good_of h) cut s.length 336 1336 hc (F :: s) (by simp) (by simp [g]) (by simp [g2])) rfl rfl lab
  simp (maxSteps := 1000000) (disch := first | omega | assumption | decide +kernel | (simp; done) | (simp; omega) | fail) [h, askE, hS, e_paysF, hl, hc]
 ·have h' : tblOk t = false := by simpa using h
  simp (maxSteps := 1000000) (disch := first | omega | assumption | decide +kernel | (simp; done) | (simp; omega) | fail) [h', askE]
end Go.Proofs.Ytlcnoldkekcifaa

/-
  Cuts: Rank.
-/
namespace Go.Proofs.Ytlcnoldkekcifaa
open Go.Ab
def rankE (t : List Part) (cut other : List Int) (i : Nat) : Int := paysE t cut i - paysE t other i
theorem paysE_small {t : List Part} (h : tblOk t = true) (cut : List Int) (i : Nat) (hi : i < t.length) : 0 ≤ paysE t cut i ∧ paysE t cut i ≤ 99 := by
 have := tblOk_w h i hi; unfold paysE; rw [part_at hi]; split <;> omega
theorem e_rank1 {f g : FuncId} {cap cap2 : List V} {e e2 : Nat → Int} (d l l2 i : Nat) (s : Stk) (hd : d < s.length) (h1 : sget s d l = some (.cell [.fn f [] cap])) (h2 : sget s d l2 = some (.cell [.fn g [] cap2]))
 (c1 : ∀ (F : Ab.Loc) lab, den T f (i64 i :: cap) lab (F :: s) = some (i64 (e i), F :: s)) (c2 : ∀ (F : Ab.Loc) lab, den T g (i64 i :: cap2) lab (F :: s) = some (i64 (e2 i), F :: s))
 (k1 : ∀ keep, V.mapAll (dropR s.length keep) cap = cap) (k2 : ∀ keep, V.mapAll (dropR s.length keep) cap2 = cap2) (b1 : 0 ≤ e i ∧ e i ≤ 99) (b2 : 0 ≤ e2 i ∧ e2 i ≤ 99) (lab) :
 den T 71 [i64 i, .ptr d l 0, .ptr d l2 0] lab s = some (i64 (e i - e2 i), s) := by
 have hd2 : ¬ d = s.length := by omega
 have w1 : IntKind.i64.wrap (e i - e2 i) = e i - e2 i := wi _ (by omega) (by omega)
 rw [den_fn t71 _ _ _ rfl]
 simp only [b71]
 simp (maxSteps := 1000000) (disch := first | omega | assumption | decide +kernel | (simp; done) | (simp; omega) | fail) [h1, h2, hd2, c1, c2, w1, k1, k2]
theorem rank_ok {t : List Part} (h : tblOk t = true) (cut other : List Int) (d l l2 m m2 m3 m4 : Nat) (hc : cut.length < 4611686018427387904) (ho : other.length < 4611686018427387904) (S : Stk) (hd : d < S.length)
 (h1 : sget S d l = some (.cell [.fn 104 [] [.ptr d m 0, .ptr d m2 0]])) (h2 : sget S d l2 = some (.cell [.fn 104 [] [.ptr d m3 0, .ptr d m4 0]]))
 (g1 : sget S d m = some (.cell [.sl .no 6 (es cPart t)])) (g2 : sget S d m2 = some (.cell [.sl .no 1 (es cInt cut)])) (g3 : sget S d m3 = some (.cell [.sl .no 6 (es cPart t)])) (g4 : sget S d m4 = some (.cell [.sl .no 1 (es cInt other)])) :
 EachOk S 71 [] [.ptr d l 0, .ptr d l2 0] (rankE t cut other) t.length where
 call fr i lab hi := e_rank1 (e := paysE t cut) (e2 := paysE t other) d l l2 i (fr ++ S) (by simp; omega) (by rw [sget_app _ _ _ _ hd]; exact h1) (by rw [sget_app _ _ _ _ hd]; exact h2)
  (fun F lab => by have := (pays_ok (good_of h) cut d m m2 hc S hd g1 g2).call (F :: fr) i lab hi; simpa using this)
  (fun F lab => by have := (pays_ok (good_of h) other d m3 m4 ho S hd g3 g4).call (F :: fr) i lab hi; simpa using this) (fun keep => (pays_ok (good_of h) cut d m m2 hc S hd g1 g2).keep _ _ (by simp)) (fun keep => (pays_ok (good_of h) other d m3 m4 ho S hd g3 g4).keep _ _ (by simp)) (paysE_small h cut i hi) (paysE_small h other i hi) lab
 keep D keep hD := by
  have : ¬ d = D := by omega
  simp [dropR, this]
 keep1 D keep hD := by simp
 small i hi := by have := paysE_small h cut i hi; have := paysE_small h other i hi; unfold rankE; omega
def rankS (t : List Part) (cut other : List Int) : Sp × Int := spanR t (isCutP t cut && isCutP t other) (rankE t cut other)
def rankR (t : List Part) (cut other : List Int) : Int × Int := if tblOk t = true then
 (if (rankS t cut other).2 = 0 then (if 0 < (rankS t cut other).1.lo then (1, 0) else if (rankS t cut other).1.hi ≤ 0 then (2, 0) else (3, 0)) else (0, (rankS t cut other).2)) else (0, 70)
@[simp] theorem e_Rank (t : List Part) (cut other : List Int) (hl : t.length < 4611686018427387904) (hc : cut.length < 4611686018427387904) (ho : other.length < 4611686018427387904) (lab s) :
 den T 32 [.sl .no 6 (es cPart t), .sl .no 1 (es cInt cut), .sl .no 1 (es cInt other)] lab s = some (.tup [i64 (rankR t cut other).1, i64 (rankR t cut other).2], s) := by
 unfold rankR
 rw [den_fn t32 _ _ _ rfl]
 simp only [b32]
 by_cases h : tblOk t = true
 ·have hS : ∀ (F : Ab.Loc) (lab), Loc.get F 352 = some (.cell [.sl .no 6 (es cPart t)]) → Loc.get F 1352 = some (.cell [.sl .no 1 (es cInt cut)]) → Loc.get F 400 = some (.cell [.sl .no 6 (es cPart t)]) → Loc.get F 1400 = some (.cell [.sl .no 1 (es cInt other)]) →
   Loc.get F 160 = some (.cell [.fn 104 [] [.ptr s.length 352 0, .ptr s.length 1352 0]]) → Loc.get F 176 = some (.cell [.fn 104 [] [.ptr s.length 400 0, .ptr s.length 1400 0]]) →
   den T 61 [.sl .no 6 (es cPart t), .bool (isCutP t cut && isCutP t other), .fn 71 [] [.ptr s.length 160 0, .ptr s.length 176 0]] lab (F :: s) = some (.tup [.agg [i64 (rankS t cut other).1.lo, i64 (rankS t cut other).1.hi], i64 (rankS t cut other).2], F :: s) := fun F lab g1 g2 g3 g4 g5 g6 =>
   e_span' t _ (F :: s) (fun _ => rank_ok h cut other s.length 160 176 352 1352 400 1400 hc ho (F :: s) (by simp) (by simp [g5]) (by simp [g6]) (by simp [g1]) (by simp [g2]) (by simp [g3]) (by simp [g4])) rfl rfl lab
  generalize rankS t cut other = r at hS ⊢
  by_cases e0 : r.2 = 0
  ·by_cases e1 : 0 < r.1.lo
   ·cases h1 : isCutP t cut <;> simp only [h1, Bool.true_and, Bool.false_and] at hS <;> simp (maxSteps := 1000000) (disch := first | omega | assumption | decide +kernel | (simp; done) | (simp; omega) | fail) [run_drawnK, h, h1, askE, hS, e_paysF, hl, hc, ho, e0, e1]
   ·by_cases e2 : r.1.hi ≤ 0
    ·cases h1 : isCutP t cut <;> simp only [h1, Bool.true_and, Bool.false_and] at hS <;> simp (maxSteps := 1000000) (disch := first | omega | assumption | decide +kernel | (simp; done) | (simp; omega) | fail) [run_drawnK, h, h1, askE, hS, e_paysF, hl, hc, ho, e0, e1, e2]
    ·cases h1 : isCutP t cut <;> simp only [h1, Bool.true_and, Bool.false_and] at hS <;> simp (maxSteps := 1000000) (disch := first | omega | assumption | decide +kernel | (simp; done) | (simp; omega) | fail) [run_drawnK, h, h1, askE, hS, e_paysF, hl, hc, ho, e0, e1, e2]
  ·cases h1 : isCutP t cut <;> simp only [h1, Bool.true_and, Bool.false_and] at hS <;> simp (maxSteps := 1000000) (disch := first | omega | assumption | decide +kernel | (simp; done) | (simp; omega) | fail) [run_drawnK, h, h1, askE, hS, e_paysF, hl, hc, ho, e0]
 ·have h' : tblOk t = false := by simpa using h
  simp (maxSteps := 1000000) (disch := first | omega | assumption | decide +kernel | (simp; done) | (simp; omega) | fail) [h', askE]
end Go.Proofs.Ytlcnoldkekcifaa

/-
  Cuts: how cuts are ordered (computed where no primitive is).
-/
namespace Go.Proofs.Ytlcnoldkekcifaa
open Go.Ab
theorem e0_isNaN (a : Int) (lab s) : den T0 139 [i64 a] lab s = some (.bool false, s) := by
 rw [den_fn u139 _ _ _ rfl]
 simp [b139]
def cmpI (a b : Int) : Int := if a < b then -1 else if b < a then 1 else 0
theorem e0_Compare (a b : Int) (lab s) : den T0 128 [i64 a, i64 b] lab s = some (i64 (cmpI a b), s) := by
 rw [den_fn u128 _ _ _ rfl]
 simp only [b128, cmpI]
 by_cases h : a < b
 ·simp (disch := first | omega | assumption | decide +kernel | (simp; done) | (simp; omega) | fail) [h, e0_isNaN]
 ·by_cases h' : b < a <;> simp (disch := first | omega | assumption | decide +kernel | (simp; done) | (simp; omega) | fail) [h, h', e0_isNaN]
theorem e0_Or (a b : Int) (lab s) : den T0 122 [.sl .no 1 [[i64 a], [i64 b]]] lab s = some (i64 (if a ≠ 0 then a else b), s) := by
 have hl : ∀ s : Stk, Run T0 b122l0 [(3, i64 0), (6, .sl .no 1 (es cInt [a, b])), (7, i64 2), (8, i64 0)] ([] :: s) =
  some (foldS (fun (_ : Unit) x => if x ≠ 0 then .inr (.ret, [(2, i64 x)], [] :: s) else .inl ()) (fun _ => (.exit 0, [(3, i64 0), (6, .sl .no 1 (es cInt [a, b])), (7, i64 2), (8, i64 2), (9, .bool false)], [] :: s)) [a, b] ()) := by
  intro s
  refine loop_list0 (T := T0) [a, b] (fun k _ => [(3, i64 0), (6, .sl .no 1 (es cInt [a, b])), (7, i64 2), (8, i64 k)]) (fun _ _ => [] :: s) _ _ ?_ ?_ (by simp) (by simp) () _ _ (by simp) (by simp)
  ·intro k _ hk
   have hk' : k < 2 := by simpa using hk
   have e : ([a, b] : List Int)[k]? = some [a, b][k] := by simp
   generalize hx : [a, b][k] = x at e
   have hk2 : (k : Int) < 2 := by omega
   by_cases h : x = 0 <;> simp (disch := first | omega | assumption | decide +kernel | (simp; done) | (simp; omega) | fail) [hk', hk2, h, hx, wk k (by omega), nxt]
  ·intro _ x q h; split at h <;> simp at h; subst h; simp
 rw [den_fn u122 _ _ _ rfl]
 simp only [b122]
 have e2 : ([[i64 a], [i64 b]] : List (List V)) = es cInt [a, b] := rfl
 rw [e2]
 by_cases h : a = 0
 ·subst h
  by_cases h' : b = 0
  ·subst h'; simp (disch := first | omega | assumption | decide +kernel | (simp; done) | (simp; omega) | fail) [hl, foldS]
  ·simp (disch := first | omega | assumption | decide +kernel | (simp; done) | (simp; omega) | fail) [hl, h', foldS]
 ·simp (disch := first | omega | assumption | decide +kernel | (simp; done) | (simp; omega) | fail) [hl, h, foldS]
def cmpStep (a b : List Int) (k : Nat) : Option Int := if b.length ≤ k then some 1 else if a.getD k 0 < b.getD k 0 then some (-1) else if b.getD k 0 < a.getD k 0 then some 1 else none
def cmpF (a b : List Int) : Int := match (List.range a.length).findSome? (cmpStep a b) with
 | some n => n
 | none => if a.length < b.length then -1 else 0
theorem foldS_find {α ρ : Type} (f : α → Option Int) (g : Int → ρ) (r : ρ) : ∀ l : List α, foldS (fun (_ : Unit) x => match f x with | some n => .inr (g n) | none => .inl ()) (fun _ => r) l () = match l.findSome? f with | some n => g n | none => r
 | [] => rfl
 | x :: l => by
   simp only [foldS, List.findSome?]
   cases h : f x <;> simp only []
   exact foldS_find f g r l
theorem e0_cmp_l (a b : List Int) (hb : b.length < 4611686018427387904) (ha : a.length < 4611686018427387904) (s : Stk) :
 Run T0 b123l0 [(0, .sl .no 1 (es cInt a)), (1, .sl .no 1 (es cInt b)), (9, .sl .no 1 (es cInt a)), (10, i64 a.length), (11, i64 0)] ([] :: s) =
  some (match (List.range a.length).findSome? (cmpStep a b) with | some n => (.ret, [(4, i64 n)], [] :: s) | none => (.exit 0, [(0, .sl .no 1 (es cInt a)), (1, .sl .no 1 (es cInt b)), (9, .sl .no 1 (es cInt a)), (10, i64 a.length), (11, i64 a.length), (12, .bool false)], [] :: s)) := by
 rw [← foldS_find]
 refine loop_list0 (T := T0) (List.range a.length) (fun k _ => [(0, .sl .no 1 (es cInt a)), (1, .sl .no 1 (es cInt b)), (9, .sl .no 1 (es cInt a)), (10, i64 a.length), (11, i64 k)]) (fun _ _ => [] :: s) _ _ ?_ ?_ (by simp) (by simp) () _ _ (by simp) (by simp)
 ·intro k _ hk
  have hk : k < a.length := by simpa using hk
  rw [List.getElem_range]
  have e0 : a.getD k 0 = a[k] := by simp [List.getD, hk]
  unfold cmpStep
  by_cases h : b.length ≤ k
  ·have h' : (b.length : Int) ≤ k := by omega
   simp (disch := first | omega | assumption | decide +kernel | (simp; done) | (simp; omega) | fail) [hk, h, h', nxt, wk k (by omega)]
  ·have h' : ¬ (b.length : Int) ≤ k := by omega
   have h2 : k < b.length := by omega
   have h3 : (k : Int) < b.length := by omega
   have e1 : b.getD k 0 = b[k] := by simp [List.getD, h2]
   rw [e0, e1]
   by_cases h4 : a[k] < b[k]
   ·simp (disch := first | omega | assumption | decide +kernel | (simp; done) | (simp; omega) | fail) [hk, h, h', h2, h3, h4, nxt, wk k (by omega), e0_Compare, cmpI]
   ·by_cases h5 : b[k] < a[k] <;> simp (disch := first | omega | assumption | decide +kernel | (simp; done) | (simp; omega) | fail) [hk, h, h', h2, h3, h4, h5, nxt, wk k (by omega), e0_Compare, cmpI]
 ·intro _ x q h; cases h2 : cmpStep a b x <;> simp [h2] at h; subst h; simp
theorem e0_cmpF (a b : List Int) (hb : b.length < 4611686018427387904) (ha : a.length < 4611686018427387904) (lab s) : den T0 123 [.sl .no 1 (es cInt a), .sl .no 1 (es cInt b)] lab s = some (i64 (cmpF a b), s) := by
 have h := e0_cmp_l a b hb ha
 rw [den_fn u123 _ _ _ rfl]
 simp only [b123, cmpF]
 cases h1 : (List.range a.length).findSome? (cmpStep a b) with
 | none =>
   simp only [h1] at h
   by_cases h2 : a.length < b.length
   ·have h3 : (a.length : Int) < b.length := by omega
    simp (disch := first | omega | assumption | decide +kernel | (simp; done) | (simp; omega) | fail) [h, h2, h3]
   ·have h3 : ¬ (a.length : Int) < b.length := by omega
    simp (disch := first | omega | assumption | decide +kernel | (simp; done) | (simp; omega) | fail) [h, h2, h3]
 | some n =>
   simp only [h1] at h
   simp (disch := first | omega | assumption | decide +kernel | (simp; done) | (simp; omega) | fail) [h]
def cmpC (a b : List Int) : Int := if (a.length : Int) - b.length ≠ 0 then (a.length : Int) - b.length else cmpF a b
theorem e0_cuts1 (a b : List Int) (hb : b.length < 4611686018427387904) (ha : a.length < 4611686018427387904) (lab s) : den T0 121 [.sl .no 1 (es cInt a), .sl .no 1 (es cInt b)] lab s = some (i64 (cmpC a b), s) := by
 have w1 : IntKind.i64.wrap ((a.length : Int) - b.length) = (a.length : Int) - b.length := wi _ (by omega) (by omega)
 rw [den_fn u121 _ _ _ rfl]
 simp only [b121, cmpC]
 simp (disch := first | omega | assumption | decide +kernel | (simp; done) | (simp; omega) | fail) [w1, e0_Or, e0_cmpF, ha, hb]
end Go.Proofs.Ytlcnoldkekcifaa

/-
  Cuts: cuts in order.
-/
namespace Go.Proofs.Ytlcnoldkekcifaa
open Go.Ab
def lexL : List Int → List Int → Int
 | [], b => if 0 < b.length then -1 else 0
 | _ :: _, [] => 1
 | x :: a, y :: b => if x < y then -1 else if y < x then 1 else lexL a b
theorem cmpF_lex : ∀ a b, cmpF a b = lexL a b
 | [], b => by simp [cmpF, lexL]
 | x :: a, [] => by simp [cmpF, lexL, List.range_succ_eq_map, cmpStep]
 | x :: a, y :: b => by
   have ih := cmpF_lex a b
   simp only [lexL, ← ih]
   have e : ∀ k, cmpStep (x :: a) (y :: b) (k + 1) = cmpStep a b k := by intro k; simp [cmpStep]
   have e2 : cmpStep (x :: a) (y :: b) ∘ Nat.succ = cmpStep a b := by funext k; exact e k
   unfold cmpF
   rw [List.length_cons, List.range_succ_eq_map, List.findSome?_cons, List.findSome?_map, e2]
   simp only [cmpStep, List.length_cons, List.getD_cons_zero]
   by_cases h : x < y
   ·simp [h]
   ·by_cases h' : y < x <;> simp [h, h']
theorem lexL_self : ∀ a, lexL a a = 0
 | [] => by simp [lexL]
 | x :: a => by simp [lexL, lexL_self a]
theorem lexL_trans : ∀ a b c, lexL a b < 0 → lexL b c < 0 → lexL a c < 0
 | [], b, [] => by
   intro h h'
   cases b <;> simp [lexL] at h h'
 | [], _, _ :: _ => by intro _ _; simp [lexL]
 | x :: a, [], c => by simp [lexL]
 | x :: a, y :: b, [] => by simp [lexL]
 | x :: a, y :: b, z :: c => by
   intro h h'
   simp only [lexL] at h h' ⊢
   by_cases h1 : x < y <;> by_cases h2 : y < z <;> by_cases h3 : y < x <;> by_cases h4 : z < y <;> simp only [h1, h2, h3, h4, if_true, if_false] at h h' <;>
    first | omega | (rw [if_pos (by omega)]; omega) | (rw [if_neg (by omega), if_neg (by omega)]; exact lexL_trans a b c h h')
theorem lexL_eq : ∀ a b, ¬ lexL a b < 0 → ¬ lexL b a < 0 → a = b
 | [], [] => by simp
 | [], _ :: _ => by simp [lexL]
 | _ :: _, [] => by simp [lexL]
 | x :: a, y :: b => by
   intro h h'
   simp only [lexL] at h h'
   by_cases h1 : x < y <;> by_cases h2 : y < x <;> simp only [h1, h2, if_true, if_false] at h h' <;> first | omega | (have := lexL_eq a b h h'; subst this; rw [show x = y by omega])
theorem cmpC_lt (a b : List Int) : cmpC a b < 0 ↔ a.length < b.length ∨ a.length = b.length ∧ lexL a b < 0 := by
 unfold cmpC; rw [cmpF_lex]; split <;> omega
theorem cmpC_irr (a : List Int) : ¬ cmpC a a < 0 := by rw [cmpC_lt, lexL_self]; omega
theorem cmpC_trans (a b c : List Int) (h : cmpC a b < 0) (h' : cmpC b c < 0) : cmpC a c < 0 := by
 rw [cmpC_lt] at *
 rcases h with h | ⟨h, h1⟩ <;> rcases h' with h' | ⟨h', h2⟩
 ·left; omega
 ·left; omega
 ·left; omega
 ·right; exact ⟨by omega, lexL_trans a b c h1 h2⟩
theorem cmpC_eq (a b : List Int) (h : ¬ cmpC a b < 0) (h' : ¬ cmpC b a < 0) : a = b := by
 rw [cmpC_lt] at h h'
 have e : a.length = b.length := by omega
 exact lexL_eq a b (fun x => h (.inr ⟨e, x⟩)) (fun x => h' (.inr ⟨e.symm, x⟩))
def insC (x : List Int) : List (List Int) → List (List Int)
 | [] => [x]
 | y :: l => if cmpC y x < 0 then y :: insC x l else x :: y :: l
def sortC (l : List (List Int)) : List (List Int) := l.foldr insC []
theorem insC_perm (x) : ∀ l, (insC x l).Perm (x :: l)
 | [] => .refl _
 | y :: l => by
   unfold insC; split
   ·exact ((insC_perm x l).cons y).trans (.swap x y l)
   ·exact .refl _
theorem sortC_perm : ∀ l, (sortC l).Perm l
 | [] => .refl _
 | x :: l => (insC_perm x (sortC l)).trans ((sortC_perm l).cons x)
theorem insC_sorted (x) : ∀ l : List (List Int), l.Pairwise (fun a b => ¬ cmpC b a < 0) → (insC x l).Pairwise (fun a b => ¬ cmpC b a < 0)
 | [], _ => by simp [insC]
 | y :: l, h => by
   obtain ⟨h1, h2⟩ := List.pairwise_cons.1 h
   unfold insC; split
   ·rename_i hc
    refine List.pairwise_cons.2 ⟨fun z hz => ?_, insC_sorted x l h2⟩
    rcases List.mem_cons.1 ((insC_perm x l).mem_iff.1 hz) with rfl | hz
    ·exact fun h => cmpC_irr _ (cmpC_trans _ _ _ h hc)
    ·exact h1 z hz
   ·rename_i hc
    refine List.pairwise_cons.2 ⟨fun z hz => ?_, h⟩
    rcases List.mem_cons.1 hz with rfl | hz
    ·exact hc
    ·intro hzx
     by_cases hyz : cmpC y z < 0
     ·exact hc (cmpC_trans _ _ _ hyz hzx)
     ·have := cmpC_eq y z hyz (h1 z hz)
      subst this; exact hc hzx
theorem sortC_sorted : ∀ l, (sortC l).Pairwise (fun a b => ¬ cmpC b a < 0)
 | [] => .nil
 | x :: l => insC_sorted x _ (sortC_sorted l)
@[simp] def cList (l : List Int) : List V := [.sl .no 1 (es cInt l)]
theorem cmpV_cuts (a b : List Int) (ha : a.length < 4611686018427387904) (hb : b.length < 4611686018427387904) : cmpV T0 false 121 [] (cList a) (cList b) = some (cmpC a b) := by
 simp [cmpV, e0_cuts1, ha, hb]
theorem cuts_total (L : List (List Int)) (h : ∀ l ∈ L, l.length < 4611686018427387904) : Total (cmpV T0 false 121 []) (es cList L) where
 some x hx y hy := by
  obtain ⟨a, ha, rfl⟩ := List.mem_map.1 hx
  obtain ⟨b, hb, rfl⟩ := List.mem_map.1 hy
  exact ⟨_, cmpV_cuts a b (h a ha) (h b hb)⟩
 irr x hx n hn := by
  obtain ⟨a, ha, rfl⟩ := List.mem_map.1 hx
  rw [cmpV_cuts a a (h a ha) (h a ha)] at hn
  cases hn; exact cmpC_irr a
 tr x hx y hy z hz m n k := by
  obtain ⟨a, ha, rfl⟩ := List.mem_map.1 hx
  obtain ⟨b, hb, rfl⟩ := List.mem_map.1 hy
  obtain ⟨c, hc, rfl⟩ := List.mem_map.1 hz
  rw [cmpV_cuts a b (h a ha) (h b hb), cmpV_cuts b c (h b hb) (h c hc), cmpV_cuts a c (h a ha) (h c hc)]
  rintro ⟨⟩ ⟨⟩ ⟨⟩
  exact cmpC_trans a b c
 tot x hx y hy m n := by
  obtain ⟨a, ha, rfl⟩ := List.mem_map.1 hx
  obtain ⟨b, hb, rfl⟩ := List.mem_map.1 hy
  rw [cmpV_cuts a b (h a ha) (h b hb), cmpV_cuts b a (h b hb) (h a ha)]
  rintro ⟨⟩ ⟨⟩ h1 h2
  rw [cmpC_eq a b h1 h2]
theorem cuts_sorted (L : List (List Int)) (h : ∀ l ∈ L, l.length < 4611686018427387904) : SortedBy (cmpV T0 false 121 []) (es cList L) (es cList (sortC L)) := by
 refine ⟨(sortC_perm L).map _, ?_⟩
 have hs := sortC_sorted L
 unfold es
 rw [List.pairwise_map]
 refine hs.imp_of_mem ?_
 intro a b ha hb hab n hn
 rw [cmpV_cuts b a (h b ((sortC_perm L).mem_iff.1 hb)) (h a ((sortC_perm L).mem_iff.1 ha))] at hn
 cases hn; exact hab
end Go.Proofs.Ytlcnoldkekcifaa

/-
  Cuts: the cuts in order, one by one.
-/
namespace Go.Proofs.Ytlcnoldkekcifaa
open Go.Ab
def grow1 (t : List Part) (p : Nat) (O : List (List Int)) (A : List (List Int)) (k : Nat) : List (List Int) := if isCutP t (O.getD k [] ++ [(p : Int)]) = true then A ++ [O.getD k [] ++ [(p : Int)]] else A
set_option maxHeartbeats 1000000 in
theorem e_cuts_l1 (t : List Part) (ht : t.length ≤ 8) (p : Nat) (hp : p < 8) (O : List (List Int)) (hO : O.length ≤ 256) (hO1 : ∀ k, k < O.length → (O.getD k []).length ≤ 8) (d l : Nat) (s : Stk) (hd : ¬ d = s.length) (hO0 : 1 ≤ O.length) :
 Run T b105l1 [(0, .sl .no 6 (es cPart t)), (1, .yld d l), (4, .asl s.length 160 1 (O).length 0 (O).length), (5, i64 p), (12, i64 t.length), (13, i64 p), (16, .asl s.length 160 1 O.length 0 O.length), (17, i64 O.length), (18, i64 0)] ([(160, .harr 1 1 (es cList O))] :: s) = some (.exit 2, [(0, .sl .no 6 (es cPart t)), (1, .yld d l), (4, .asl s.length 160 1 (((List.range O.length).foldl (grow1 t p O) O)).length 0 (((List.range O.length).foldl (grow1 t p O) O)).length), (5, i64 p), (12, i64 t.length), (13, i64 p), (16, .asl s.length 160 1 O.length 0 O.length), (17, i64 O.length), (18, i64 ((List.range O.length).length : Nat)), (19, .bool false)], [(160, .harr 1 1 (es cList ((List.range O.length).foldl (grow1 t p O) O)))] :: s) := by
 have key := loop_fold (T := T) (live := [0, 1, 4, 5, 12, 13, 16, 17, 18]) (keep := [65, 160, 656, 800]) (b := d105l1) (List.range O.length) (fun k A => O.length ≤ A.length ∧ A.length ≤ O.length + k ∧ (∀ j, j < O.length → A[j]? = some (O.getD j []))) (grow1 t p O) (fun k (a : List (List Int)) => [(0, .sl .no 6 (es cPart t)), (1, .yld d l), (4, .asl s.length 160 1 (a).length 0 (a).length), (5, i64 p), (12, i64 t.length), (13, i64 p), (16, .asl s.length 160 1 O.length 0 O.length), (17, i64 O.length), (18, i64 (k : Nat))]) (fun k (a : List (List Int)) => [(160, .harr 1 1 (es cList a))] :: s) (fun (a : List (List Int)) => (.exit 2, [(0, .sl .no 6 (es cPart t)), (1, .yld d l), (4, .asl s.length 160 1 (a).length 0 (a).length), (5, i64 p), (12, i64 t.length), (13, i64 p), (16, .asl s.length 160 1 O.length 0 O.length), (17, i64 O.length), (18, i64 ((List.range O.length).length : Nat)), (19, .bool false)], [(160, .harr 1 1 (es cList a))] :: s)) (by simp) ?_ ?_ ?_ O (⟨by simp, by simp, fun j hj => by simp [List.getD, hj]⟩) [(0, .sl .no 6 (es cPart t)), (1, .yld d l), (4, .asl s.length 160 1 (O).length 0 (O).length), (5, i64 p), (12, i64 t.length), (13, i64 p), (16, .asl s.length 160 1 O.length 0 O.length), (17, i64 O.length), (18, i64 0)] ([(160, .harr 1 1 (es cList O))] :: s) (by simp [hd]) (by simp [hd])
 ·exact key
 ·intro k a hk hi
  try simp only [List.length_range] at hk
  try simp only [List.getElem_range]
  have hk2 : (k : Int) < O.length := by omega
  have q1 := hi.2.2 k hk
  have q2 := hi.2.1
  have q6 := hi.1
  have q3 := hO1 k hk
  unfold grow1
  generalize O.getD k [] = q at q1 q3 ⊢
  have q7 : k < a.length := by omega
  have q8 : a[k] = q := by rw [List.getElem?_eq_getElem q7] at q1; exact Option.some.inj q1
  have q4 : (q ++ [(p : Int)]).length < 4611686018427387904 := by simp; omega
  have q5 : 1 ≤ a.length := by omega
  have q9 : (a.length + 1) * 24 ≤ 140737488355328 := by omega
  have q10 : a.length + 1 < 140737488355328 := by omega
  have q11 : es cList (a ++ [q ++ [(p : Int)]]) = es cList a ++ [[.sl .no 1 (es cInt (q ++ [(p : Int)]))]] := by simp [es]
  cases h : isCutP t (q ++ [(p : Int)]) <;> simp (maxSteps := 1000000) (disch := first | omega | assumption | decide +kernel | (simp; done) | (simp; omega) | fail) [run_drawnK, appK_full, appA, effK, hd, hO0, q6, hk2, hk, q1, q2, q3, q4, q5, q7, q8, q9, q10, q11, h, wk k (by omega)]
 ·intro k a hk hi
  try simp only [List.length_range] at hk
  try simp only [List.getElem_range]
  obtain ⟨h1, h2, h3⟩ := hi
  unfold grow1
  split
  ·simp only [List.length_append, List.length_singleton]
   exact ⟨by omega, by omega, fun j hj => by rw [List.getElem?_append_left (by omega)]; exact h3 j hj⟩
  ·exact ⟨by omega, by omega, h3⟩
 ·intro a hi
  simp
def growP (t : List Part) (A : List (List Int)) (p : Nat) : List (List Int) := (List.range A.length).foldl (grow1 t p A) A
theorem growP_inv (t : List Part) (A : List (List Int)) (p n m : Nat) (h1 : 1 ≤ A.length) (h2 : A.length ≤ n) (h3 : ∀ j, j < A.length → (A.getD j []).length ≤ m) :
 1 ≤ (growP t A p).length ∧ (growP t A p).length ≤ n + n ∧ ∀ j, j < (growP t A p).length → ((growP t A p).getD j []).length ≤ m + 1 := by
 have key : ∀ (l : List Nat) (B : List (List Int)), (∀ k ∈ l, k < A.length) → (∀ j, j < B.length → (B.getD j []).length ≤ m + 1) →
  B.length ≤ (l.foldl (grow1 t p A) B).length ∧ (l.foldl (grow1 t p A) B).length ≤ B.length + l.length ∧ ∀ j, j < (l.foldl (grow1 t p A) B).length → ((l.foldl (grow1 t p A) B).getD j []).length ≤ m + 1 := by
  intro l
  induction l with
  | nil => intro B _ h; exact ⟨Nat.le_refl _, Nat.le_refl _, h⟩
  | cons k l ih =>
    intro B hl hB
    have hk := h3 k (hl k (by simp))
    have h' := ih (grow1 t p A B k) (fun x hx => hl x (by simp [hx])) (by
     unfold grow1; split
     ·intro j hj
      rw [List.length_append, List.length_singleton] at hj
      by_cases hj2 : j < B.length
      ·have := hB j hj2
       simpa [List.getD, List.getElem?_append_left hj2] using this
      ·have e : j = B.length := by omega
       subst e
       simpa [List.getD] using hk
     ·exact hB)
    rw [List.foldl_cons]
    have : B.length ≤ (grow1 t p A B k).length ∧ (grow1 t p A B k).length ≤ B.length + 1 := by unfold grow1; split <;> simp
    refine ⟨by omega, ?_, h'.2.2⟩
    have := h'.2.1
    simp only [List.length_cons]; omega
 have := key (List.range A.length) A (fun k hk => by simpa using hk) (fun j hj => by have := h3 j hj; omega)
 unfold growP
 simp only [List.length_range] at this
 exact ⟨by omega, by omega, this.2.2⟩
theorem pow_le8 {k : Nat} (h : k ≤ 8) : 2 ^ k ≤ 256 := by
 have := Nat.pow_le_pow_right (n := 2) (by omega) h
 omega
set_option maxHeartbeats 1000000 in
theorem e_cuts_l0 (t : List Part) (ht : t.length ≤ 8) (d l : Nat) (s : Stk) (hd : ¬ d = s.length) :
 Run T b105l0 [(0, .sl .no 6 (es cPart t)), (1, .yld d l), (4, .asl s.length 160 1 1 0 1), (12, i64 t.length), (13, i64 0)] ([(160, .harr 1 1 [[.sl .no 1 []]])] :: s) = some (.exit 0, [(0, .sl .no 6 (es cPart t)), (1, .yld d l), (4, .asl s.length 160 1 (((List.range t.length).foldl (growP t) ([[]] : List (List Int)))).length 0 (((List.range t.length).foldl (growP t) ([[]] : List (List Int)))).length), (12, i64 t.length), (13, i64 ((List.range t.length).length : Nat)), (14, .bool false)], [(160, .harr 1 1 (es cList ((List.range t.length).foldl (growP t) ([[]] : List (List Int)))))] :: s) := by
 have key := loop_fold (T := T) (live := [0, 1, 4, 12, 13]) (keep := [65, 160, 656, 800]) (b := d105l0) (List.range t.length) (fun k A => 1 ≤ A.length ∧ A.length ≤ 2 ^ k ∧ (∀ j, j < A.length → (A.getD j []).length ≤ k)) (growP t) (fun k (a : List (List Int)) => [(0, .sl .no 6 (es cPart t)), (1, .yld d l), (4, .asl s.length 160 1 (a).length 0 (a).length), (12, i64 t.length), (13, i64 (k : Nat))]) (fun k (a : List (List Int)) => [(160, .harr 1 1 (es cList a))] :: s) (fun (a : List (List Int)) => (.exit 0, [(0, .sl .no 6 (es cPart t)), (1, .yld d l), (4, .asl s.length 160 1 (a).length 0 (a).length), (12, i64 t.length), (13, i64 ((List.range t.length).length : Nat)), (14, .bool false)], [(160, .harr 1 1 (es cList a))] :: s)) (by simp) ?_ ?_ ?_ ([[]] : List (List Int)) (⟨by simp, by simp, by simp⟩) [(0, .sl .no 6 (es cPart t)), (1, .yld d l), (4, .asl s.length 160 1 1 0 1), (12, i64 t.length), (13, i64 0)] ([(160, .harr 1 1 [[.sl .no 1 []]])] :: s) (by simp [hd, show es cList [[]] = [[.sl .no 1 []]] from rfl]) (by simp [hd, show es cList [[]] = [[.sl .no 1 []]] from rfl])
 ·exact key
 ·intro k a hk hi
  try simp only [List.length_range] at hk
  try simp only [List.getElem_range]
  have hk2 : (k : Int) < t.length := by omega
  have h8 := pow_le8 (k := k) (by omega)
  have hl := e_cuts_l1 t ht k (by omega) a (by omega) (fun j hj => by have := hi.2.2 j hj; omega) d l s hd hi.1
  have e1 : (List.range a.length).foldl (grow1 t k a) a = growP t a k := rfl
  rw [e1] at hl
  simp only [List.length_range] at hl
  have hi1 := hi.1
  simp (maxSteps := 1000000) (disch := first | omega | assumption | decide +kernel | (simp; done) | (simp; omega) | fail) [run_drawnK, hd, hk2, hk, hl, hi1, wk k (by omega)]
 ·intro k a hk hi
  try simp only [List.length_range] at hk
  try simp only [List.getElem_range]
  have := growP_inv t a k _ _ hi.1 hi.2.1 hi.2.2
  rw [Nat.pow_succ]
  exact ⟨this.1, by omega, this.2.2⟩
 ·intro a hi
  simp
end Go.Proofs.Ytlcnoldkekcifaa

/-
  Cuts: the cuts, one by one: the iterator.
-/
namespace Go.Proofs.Ytlcnoldkekcifaa
open Go.Ab
def allCuts (t : List Part) : List (List Int) := (List.range t.length).foldl (growP t) [[]]
def cutsOf (t : List Part) : List (List Int) := sortC (allCuts t)
theorem allCuts_inv (t : List Part) (ht : t.length ≤ 8) : 1 ≤ (allCuts t).length ∧ (allCuts t).length ≤ 256 ∧ ∀ l ∈ allCuts t, l.length ≤ 8 := by
 have key : ∀ n, n ≤ 8 → 1 ≤ ((List.range n).foldl (growP t) [[]]).length ∧ ((List.range n).foldl (growP t) [[]]).length ≤ 2 ^ n ∧ (∀ j, j < ((List.range n).foldl (growP t) [[]]).length → (((List.range n).foldl (growP t) [[]]).getD j []).length ≤ n) := by
  intro n
  induction n with
  | zero => intro _; simp
  | succ n ih =>
    intro hn
    obtain ⟨h1, h2, h3⟩ := ih (by omega)
    rw [List.range_succ, List.foldl_append, List.foldl_cons, List.foldl_nil, Nat.pow_succ]
    have := growP_inv t _ n _ _ h1 h2 h3
    exact ⟨this.1, by omega, this.2.2⟩
 obtain ⟨h1, h2, h3⟩ := key t.length ht
 refine ⟨h1, Nat.le_trans h2 (pow_le8 ht), fun l hl => ?_⟩
 obtain ⟨j, hj, e⟩ := List.getElem_of_mem hl
 have h4 := h3 j hj
 have e2 : (allCuts t).getD j [] = l := by rw [List.getD, List.getElem?_eq_getElem hj, Option.getD_some, e]
 unfold allCuts at e2
 rw [e2] at h4; omega
theorem e_sortC (t : List Part) (ht : t.length ≤ 8) (r : Stk) (lab : Nat) : den T 120 [.asl r.length 160 1 (allCuts t).length 0 (allCuts t).length, .fn 121 [] []] lab ([(160, .harr 1 1 (es cList (allCuts t)))] :: r) =
 some (.tup [], [(160, .harr (allCuts t).length 1 (es cList (cutsOf t)))] :: r) := by
 obtain ⟨h1, h2, h3⟩ := allCuts_inv t ht
 rw [den_prim t120]
 have hb : ∀ l ∈ allCuts t, l.length < 4611686018427387904 := fun l hl => by have := h3 l hl; omega
 have hne : es cList (allCuts t) ≠ [] := by
  intro e
  have := congrArg List.length e
  simp [es] at this
  rw [this] at h1; simp at h1
 have := sortFP_eq (T0 := T0) (agg := false) (d := r.length) (l := 160) (sz := 1) (n := (allCuts t).length) (g := 121) (cap := []) (lab := lab) (s := [(160, .harr 1 1 (es cList (allCuts t)))] :: r)
  (x := .harr 1 1 (es cList (allCuts t))) (es := es cList (allCuts t)) (r := es cList (cutsOf t)) (by simp [Loc.get]) rfl (by simp [es]) (fun _ => rfl) hne (by simp [es]; omega)
  (by intro x hx; obtain ⟨a, _, rfl⟩ := List.mem_map.1 hx; simp) rfl (cuts_total _ hb) (cuts_sorted _ hb)
 unfold sortP
 rw [this]
 simp [sorted, Loc.put]
theorem cutsOf_length (t : List Part) : (cutsOf t).length = (allCuts t).length := (sortC_perm _).length_eq
abbrev cutsF (t : List Part) : Ab.Loc := [(160, .harr (cutsOf t).length 1 (es cList (cutsOf t)))]
set_option maxHeartbeats 1000000 in
theorem e_cuts (t : List Part) (hn : t.length ≤ 8) {σ : Type} (l : Nat) (Sf : Stk) (Lf : σ → Ab.Loc) (I : Nat → σ → Prop) (Y : σ → List Int → σ × Bool)
 (hy : ∀ k a (hk : k < (cutsOf t).length), I k a → (∀ lab, denV T (.yld Sf.length l) [.sl .no 1 (es cInt (cutsOf t)[k])] lab (cutsF t :: Lf a :: Sf) = some (.bool (Y a (cutsOf t)[k]).2, cutsF t :: Lf (Y a (cutsOf t)[k]).1 :: Sf)) ∧
   ((Y a (cutsOf t)[k]).2 = true → I (k + 1) (Y a (cutsOf t)[k]).1)) (a : σ) (h0 : I 0 a) (lab : Nat) :
 den T 105 [.sl .no 6 (es cPart t), .yld Sf.length l] lab (Lf a :: Sf) = some (.tup [], Lf (foldB Y (cutsOf t) a).1 :: Sf) := by
 have hl0 := e_cuts_l0 t hn Sf.length l (Lf a :: Sf) (by simp)
 rw [show (List.range t.length).foldl (growP t) [[]] = allCuts t from rfl] at hl0
 simp only [List.length_range, List.length_cons] at hl0
 have hs := fun (b : σ) lab => e_sortC t hn (Lf b :: Sf) lab
 simp only [List.length_cons] at hs
 obtain ⟨b1, b2, b3⟩ := allCuts_inv t hn
 have hlen := cutsOf_length t
 have key := loop_list_e (T := T) (live := [1, 42, 43, 44]) (keep := [160, 464, 480, 528, 576, 592, 656]) (b := d105l2) (γ := Nat) (cutsOf t) I (fun k _ => [(1, .yld Sf.length l), (42, .asl (Sf.length + 1) 160 1 (cutsOf t).length 0 (cutsOf t).length), (43, i64 (cutsOf t).length), (44, i64 (k : Nat))]) (fun _ a => cutsF t :: Lf a :: Sf) Y
  (fun (g : Nat) a => (.ret, [(1, .yld Sf.length l), (42, .asl (Sf.length + 1) 160 1 (cutsOf t).length 0 (cutsOf t).length), (43, i64 (cutsOf t).length), (44, i64 (g : Nat)), (51, .bool true)], cutsF t :: Lf a :: Sf))
  (fun a => (.exit 4, [(1, .yld Sf.length l), (42, .asl (Sf.length + 1) 160 1 (cutsOf t).length 0 (cutsOf t).length), (43, i64 (cutsOf t).length), (44, i64 (cutsOf t).length), (45, .bool false)], cutsF t :: Lf a :: Sf)) (by simp) (by simp) ?_ ?_ a h0
  [(1, .yld Sf.length l), (42, .asl (Sf.length + 1) 160 1 (cutsOf t).length 0 (cutsOf t).length), (43, i64 (cutsOf t).length), (44, i64 0)] (cutsF t :: Lf a :: Sf) (by simp) (by simp)
 ·obtain ⟨_, hg⟩ := key
  change Run T b105l2 _ _ = _ at hg
  generalize foldB Y (cutsOf t) a = q at hg ⊢
  obtain ⟨a', bb⟩ := q
  rw [hlen] at hg
  simp only [cutsF, hlen] at hg
  rw [den_fn t105 _ _ _ rfl]
  simp only [b105]
  have he0 : elemsOk [[V.sl Cap.no 1 []]] 1 = true := by rfl
  cases bb <;> simp (maxSteps := 1000000) (disch := first | omega | assumption | decide +kernel | (simp; done) | (simp; omega) | fail) [run_drawnK, he0, hl0, hs, hg, hlen]
 ·intro k a hk hi
  obtain ⟨h1, h2⟩ := hy k a hk hi
  have hk2 : (k : Int) < (cutsOf t).length := by omega
  simp only [cutsF] at h1
  generalize hL : (cutsOf t)[k] = c at h1 h2 ⊢
  generalize Y a c = y at h1 h2 ⊢
  obtain ⟨a', bb⟩ := y
  refine ⟨fun hb => ⟨?_, h2 hb⟩, fun hb => ⟨k, ?_⟩⟩
  ·dsimp only at hb h1 ⊢
   subst hb
   simp (maxSteps := 1000000) (disch := first | omega | assumption | decide +kernel | (simp; done) | (simp; omega) | fail) [run_drawnK, h1, hL, hk, hk2, wk k (by omega)]
  ·dsimp only at hb h1 ⊢
   subst hb
   simp (maxSteps := 1000000) (disch := first | omega | assumption | decide +kernel | (simp; done) | (simp; omega) | fail) [run_drawnK, h1, hL, hk, hk2, wk k (by omega)]
 ·intro a hi
  simp
end Go.Proofs.Ytlcnoldkekcifaa

/-
  Cuts: the best cut.
-/
namespace Go.Proofs.Ytlcnoldkekcifaa
open Go.Ab
theorem run_each2 (A B live e s) (h : bruteOps (spl A B) = true) : Run T (.region true (spl A B) live) e s = eachK (runAny T (Run T) (A ++ B) live (A ++ B) [] e s) := run_each A B live e s h
def EachOf (ops : List AOper) (live : List Nat) (f : List AOper) (done : List Nat) (e : Env) (s : Stk) (r : Env × Stk) : List Nat → Prop
 | [] => True
 | i :: l => (match ops[i]? with
  | some o => match runOps T (Run T) [o] e s with
    | some (e1, s1) => runAny T (Run T) ops live f (i :: done) e1 s1
    | none => none
  | none => none) = some r ∧ EachOf ops live f done e s r l
theorem EachOf.all {ops live f done e s r} : ∀ {l}, EachOf ops live f done e s r l → ∀ i ∈ l, (match ops[i]? with
 | some o => match runOps T (Run T) [o] e s with
   | some (e1, s1) => runAny T (Run T) ops live f (i :: done) e1 s1
   | none => none
 | none => none) = some r
 | [], _, i, hi => by cases hi
 | j :: l, h, i, hi => by
   rcases List.mem_cons.1 hi with rfl | hi
   ·exact h.1
   ·exact EachOf.all h.2 i hi
theorem runAny_all {ops live x f done e s r} (hne : readyFrom 0 ops done ≠ []) (h : EachOf ops live f done e s r (readyFrom 0 ops done)) : runAny T (Run T) ops live (x :: f) done e s = some r := by
 simp only [runAny]
 rw [if_neg hne]
 exact agree_of (by simpa using hne) fun y hy => by
  obtain ⟨i, hi, rfl⟩ := List.mem_map.1 hy
  exact h.all i hi
theorem runAny_end {ops live f done e s} (h : readyFrom 0 ops done = []) : runAny T (Run T) ops live f done e s = some (e.only live, s) := by
 cases f <;> simp [runAny, h]
set_option maxHeartbeats 4000000 in
theorem best_upd (D E : Nat) (G F L : Ab.Loc) (s : Stk) (cut : List Int) (m hi : Int) (x y z : V) (v : Bool) (hD : D = s.length) (hE : E = s.length + 1 + 1) (hG : Loc.get G 96 = some (.cell [i64 m, i64 hi]))
 (h32 : Loc.get L 32 = some (.cell [x])) (h48 : Loc.get L 48 = some (.cell [y])) (h64 : Loc.get L 64 = some (.cell [z])) :
 runAny T (Run T) [⟨(some 29), .mv (.t 5), none, [], []⟩, ⟨(some 30), .faddr 0 (.t 6), none, [], [999999]⟩, ⟨(some 31), .load none (.t 30), none, [1], [999999]⟩, ⟨none, .store 1 (.t 2) (.t 29), none, [0], []⟩,
  ⟨none, .store 1 (.t 3) (.t 31), none, [2, 3, 1, 0], []⟩, ⟨none, .store 1 (.t 4) (.c (.bool true)), none, [4, 2, 3, 1, 0], []⟩] [2, 3, 4]
  [⟨(some 29), .mv (.t 5), none, [], []⟩, ⟨(some 30), .faddr 0 (.t 6), none, [], [999999]⟩, ⟨(some 31), .load none (.t 30), none, [1], [999999]⟩, ⟨none, .store 1 (.t 2) (.t 29), none, [0], []⟩,
  ⟨none, .store 1 (.t 3) (.t 31), none, [2, 3, 1, 0], []⟩, ⟨none, .store 1 (.t 4) (.c (.bool true)), none, [4, 2, 3, 1, 0], []⟩] []
  [(2, .ptr D 32 0), (3, .ptr D 48 0), (4, .ptr D 64 0), (5, .sl .no 1 (es cInt cut)), (6, .ptr E 96 0), (28, .bool v)] (G :: F :: L :: s) =
  some ([(2, .ptr D 32 0), (3, .ptr D 48 0), (4, .ptr D 64 0)], G :: F :: Loc.put (Loc.put (Loc.put L 32 (.cell [.sl .no 1 (es cInt cut)])) 48 (.cell [i64 m])) 64 (.cell [.bool true]) :: s) := by
 subst hD hE
 repeat' (first
  | rfl
  | (rw [runAny_end (by simp [readyFrom])]; simp; done)
  | (refine runAny_all (by simp [readyFrom]) ?_
     simp (disch := first | omega | assumption | decide +kernel | (simp; done) | (simp; omega) | fail) [readyFrom, EachOf, hG, h32, h48, h64])
  | refine ⟨?_, ?_⟩)
structure BS where
 best : Option (List Int)
 most : Int
 is : Bool
 fin : Bool
def slO : Option (List Int) → V
 | none => .sl .full 1 []
 | some l => .sl .no 1 (es cInt l)
theorem slO_some (l) : slO (some l) = .sl .no 1 (es cInt l) := rfl
theorem slO_none : slO none = .sl .full 1 [] := rfl
def priceLow (t : List Part) (cut : List Int) : Int := lowP t (paysE t cut)
def stepB (t : List Part) (a : BS) (cut : List Int) : BS × Bool :=
 if priceLow t cut < far then (if a.is = false ∨ a.most < priceLow t cut then ({ a with best := some cut, most := priceLow t cut, is := true }, true) else (a, true))
 else ({ best := none, most := 0, is := false, fin := true }, false)
def bestE (D : Nat) (t : List Part) : Env := [(1, .ptr D 16 0), (2, .ptr D 32 0), (3, .ptr D 48 0), (4, .ptr D 64 0), (9, .fn 105 [.sl .no 6 (es cPart t)] [])]
def bestLp (D : Nat) (t : List Part) (x : LoopState) (y : Option Ex) : Entry := .loop [10] b70l0 b70l1 (bestE D t) x y
def bestL (t : List Part) (a : BS) (e : Entry) : Ab.Loc := [(16, .cell [.sl .no 6 (es cPart t)]), (32, .cell [slO a.best]), (48, .cell [i64 a.most]), (64, .cell [.bool a.is]), (17927, e)]
def bestEx (t : List Part) (cut : List Int) : Ex := if priceLow t cut < far then .normal else .ret
set_option maxHeartbeats 2000000 in
theorem best_body (t : List Part) (h : GoodT t) (cut : List Int) (hc : cut.length ≤ 8) (a : BS) (en : Entry) (F : Ab.Loc) (s : Stk) :
 ∃ e2 fr2, Run T b70l1 [(1, .ptr s.length 16 0), (2, .ptr s.length 32 0), (3, .ptr s.length 48 0), (4, .ptr s.length 64 0), (5, .sl .no 1 (es cInt cut))] ([] :: F :: bestL t a en :: s) =
  some (bestEx t cut, e2, fr2 :: F :: bestL t (stepB t a cut).1 en :: s) := by
 have hl := h.len
 have hB : ∀ (G : Ab.Loc) lab, Loc.get G 240 = some (.cell [.sl .no 6 (es cPart t)]) → Loc.get G 1240 = some (.cell [.sl .no 1 (es cInt cut)]) →
  den T 99 [.sl .no 6 (es cPart t), .fn 104 [] [.ptr (s.length + 1 + 1) 240 0, .ptr (s.length + 1 + 1) 1240 0]] lab (G :: F :: bestL t a en :: s) =
   some (.tup [.agg [i64 (priceLow t cut), i64 (-highP t (paysE t cut))], .bool (decide (priceLow t cut < far))], G :: F :: bestL t a en :: s) := fun G lab g1 g2 =>
  e_between t hl h.of (G :: F :: bestL t a en :: s) (pays_ok h cut (s.length + 1 + 1) 240 1240 (by omega) (G :: F :: bestL t a en :: s) (by simp) (by simp [g1]) (by simp [g2])) rfl rfl lab
 have hP := fun lab => e_paysF t cut [] (F :: bestL t a en :: s) lab (by simp) (by simp)
 simp only [List.length_cons] at hP
 unfold bestEx stepB
 obtain ⟨b, m, is, fin⟩ := a
 simp only [bestL] at hB hP ⊢
 generalize hx : slO b = x at hB hP ⊢
 simp only [b70l1]
 have hU : ∀ is v, _ := fun (is v : Bool) => best_upd s.length (s.length + 1 + 1) [(240, .cell [.sl .no 6 (es cPart t)]), (1240, .cell [.sl .no 1 (es cInt cut)]), (96, .cell [i64 (priceLow t cut), i64 (-highP t (paysE t cut))])] F
  [(16, .cell [.sl .no 6 (es cPart t)]), (32, .cell [x]), (48, .cell [i64 m]), (64, .cell [.bool is]), (17927, en)] s cut _ _ _ _ _ v rfl rfl rfl rfl rfl rfl
 by_cases h1 : priceLow t cut < far
 ·have h1' : priceLow t cut < 1099511627776 := h1
  cases is
  ·have hU := hU false true
   simp (maxSteps := 1000000) (disch := first | omega | assumption | decide +kernel | (simp; done) | (simp; omega) | fail) [run_drawnK, run_each2, hU, hP, hB, h1, h1', hl, hc, slO_some, slO_none]
  ·by_cases h2 : m < priceLow t cut
   ·have hU := hU true true
    simp (maxSteps := 1000000) (disch := first | omega | assumption | decide +kernel | (simp; done) | (simp; omega) | fail) [run_drawnK, run_each2, hU, hP, hB, h1, h1', h2, hx, hl, hc, slO_some, slO_none]
   ·simp (maxSteps := 1000000) (disch := first | omega | assumption | decide +kernel | (simp; done) | (simp; omega) | fail) [run_drawnK, run_each2, hP, hB, h1, h1', h2, hx, hl, hc, slO_some, slO_none]
 ·have h1' : ¬ priceLow t cut < 1099511627776 := h1
  simp only [h1, if_false]
  simp (maxSteps := 1000000) (disch := first | omega | assumption | decide +kernel | (simp; done) | (simp; omega) | fail) [run_drawnK, hP, hB, h1, h1', hl, hc, slO_some, slO_none]
end Go.Proofs.Ytlcnoldkekcifaa

/-
  Cuts: the best cut, whole.
-/
namespace Go.Proofs.Ytlcnoldkekcifaa
open Go.Ab
def bestEnt (D : Nat) (t : List Part) (a : BS) : Entry := if a.fin = true then bestLp D t .done (some .ret) else bestLp D t .ready none
def bestSt (D : Nat) (t : List Part) (a : BS) : Ab.Loc := bestL t a (bestEnt D t a)
set_option maxHeartbeats 1000000 in
theorem best_yield (t : List Part) (h : GoodT t) (cut : List Int) (hc : cut.length ≤ 8) (a : BS) (hf : a.fin = false) (F : Ab.Loc) (s : Stk) (lab : Nat) :
 denV T (.yld s.length 17927) [.sl .no 1 (es cInt cut)] lab (F :: bestSt s.length t a :: s) = some (.bool (stepB t a cut).2, F :: bestSt s.length t (stepB t a cut).1 :: s) := by
 have top : ∀ (b : BS) (en : Entry), sget (F :: bestL t b en :: s) s.length 17927 = some en := fun b en => by
  rw [sget_cons, if_neg (by simp only [List.length_cons]; omega), sget_cons, if_pos rfl]; rfl
 have put : ∀ (b : BS) (en en' : Entry), sput (F :: bestL t b en :: s) s.length 17927 en' = F :: bestL t b en' :: s := fun b en en' => by
  rw [sput_cons, if_neg (by simp only [List.length_cons]; omega), sput_cons, if_pos rfl]; rfl
 obtain ⟨e2, fr2, hB⟩ := best_body t h cut hc a (bestLp s.length t .busy none) F s
 have e0 : bestSt s.length t a = bestL t a (bestLp s.length t .ready none) := by simp only [bestSt, bestEnt, hf]; rfl
 rw [e0]
 have hA : Run T b70l0 (bindEnv [10] [.sl .no 1 (es cInt cut)] (bestE s.length t)) ([] :: F :: bestL t a (bestLp s.length t .ready none) :: s) =
  some (.normal, [(1, .ptr s.length 16 0), (2, .ptr s.length 32 0), (3, .ptr s.length 48 0), (4, .ptr s.length 64 0), (5, .sl .no 1 (es cInt cut))], [] :: F :: bestL t a (bestLp s.length t .ready none) :: s) := by
  generalize bestL t a (bestLp s.length t .ready none) = L
  simp [b70l0, bestE, bindEnv]
 have := yld_run (T := T) (d := s.length) (l := 17927) (args := [.sl .no 1 (es cInt cut)]) (lab := lab) (ps := [10]) (A := b70l0) (B := b70l1) (env := bestE s.length t) (ex := bestEx t cut) (st := .busy) (p := none)
  (s := F :: bestL t a (bestLp s.length t .ready none) :: s) (s3 := F :: bestL t (stepB t a cut).1 (bestLp s.length t .busy none) :: s) (top _ _) rfl hA (by simp only [List.length_cons]; omega) (e2 := e2) (fr2 := fr2) (by rw [put]; exact hB) (top _ _)
 rw [this, put]
 by_cases h1 : priceLow t cut < far
 ·have e1 : (stepB t a cut).2 = true := by unfold stepB; rw [if_pos h1]; split <;> rfl
  have e2 : (stepB t a cut).1.fin = false := by unfold stepB; rw [if_pos h1]; split <;> exact hf
  simp only [bestEx, if_pos h1, yldB, yldE, bestSt, bestEnt, e1, e2]
  rfl
 ·have e1 : (stepB t a cut).2 = false := by unfold stepB; rw [if_neg h1]
  have e2 : (stepB t a cut).1.fin = true := by unfold stepB; rw [if_neg h1]
  simp only [bestEx, if_neg h1, yldB, yldE, bestSt, bestEnt, e1, e2, if_true]
  rfl
def bestS (t : List Part) : BS × Bool := foldB (stepB t) (cutsOf t) ⟨none, 0, false, false⟩
theorem stepB_fin (t : List Part) (a : BS) (cut : List Int) (hf : a.fin = false) : (stepB t a cut).1.fin = !(stepB t a cut).2 ∧ ((stepB t a cut).2 = false → (stepB t a cut).1 = ⟨none, 0, false, true⟩) := by
 unfold stepB
 split
 ·split <;> exact ⟨hf, fun h => by cases h⟩
 ·exact ⟨rfl, fun _ => rfl⟩
theorem bestS_inv (t : List Part) : (bestS t).1.fin = !(bestS t).2 ∧ ((bestS t).2 = false → (bestS t).1 = ⟨none, 0, false, true⟩) := by
 have key : ∀ (l : List (List Int)) (a : BS), a.fin = false → (foldB (stepB t) l a).1.fin = !(foldB (stepB t) l a).2 ∧ ((foldB (stepB t) l a).2 = false → (foldB (stepB t) l a).1 = ⟨none, 0, false, true⟩) := by
  intro l
  induction l with
  | nil => intro a h; exact ⟨h, fun e => by cases e⟩
  | cons x l ih =>
    intro a h
    have h1 := stepB_fin t a x h
    simp only [foldB]
    split
    ·rename_i hs; exact ih _ (by rw [h1.1, hs]; rfl)
    ·exact h1
 exact key _ _ rfl
set_option maxHeartbeats 8000000 in
theorem best_fin (D : Nat) (L : Ab.Loc) (s : Stk) (b : Option (List Int)) (m : Int) (is : Bool) (v1 v9 : V) (hD : D = s.length)
 (h32 : Loc.get L 32 = some (.cell [slO b])) (h48 : Loc.get L 48 = some (.cell [i64 m])) (h64 : Loc.get L 64 = some (.cell [.bool is])) :
 runAny T (Run T) [⟨(some 32), .load none (.t 2), none, [], []⟩, ⟨(some 33), .load none (.t 3), none, [], [999999]⟩, ⟨(some 34), .load none (.t 4), none, [], [999999, 48]⟩, ⟨none, .store 1 (.t 2) (.t 32), none, [0], []⟩, ⟨none, .store 1 (.t 3) (.t 33), none, [1, 3, 0], []⟩, ⟨none, .store 1 (.t 4) (.t 34), none, [2, 4, 1, 3, 0], []⟩] [2, 3, 4] [⟨(some 32), .load none (.t 2), none, [], []⟩, ⟨(some 33), .load none (.t 3), none, [], [999999]⟩, ⟨(some 34), .load none (.t 4), none, [], [999999, 48]⟩, ⟨none, .store 1 (.t 2) (.t 32), none, [0], []⟩, ⟨none, .store 1 (.t 3) (.t 33), none, [1, 3, 0], []⟩, ⟨none, .store 1 (.t 4) (.t 34), none, [2, 4, 1, 3, 0], []⟩] [] [(1, v1), (2, .ptr D 32 0), (3, .ptr D 48 0), (4, .ptr D 64 0), (9, v9)] (L :: s) =
  some ([(2, .ptr D 32 0), (3, .ptr D 48 0), (4, .ptr D 64 0)], Loc.put (Loc.put (Loc.put L 32 (.cell [slO b])) 48 (.cell [i64 m])) 64 (.cell [.bool is]) :: s) := by
 subst hD
 cases b <;> simp only [slO_some, slO_none] at h32 ⊢ <;>
 repeat' (first
  | rfl
  | (rw [runAny_end (by simp [readyFrom])]; simp; done)
  | (refine runAny_all (by simp [readyFrom]) ?_
     simp (disch := first | omega | assumption | decide +kernel | (simp; done) | (simp; omega) | fail) [readyFrom, EachOf, h32, h48, h64])
  | refine ⟨?_, ?_⟩)
end Go.Proofs.Ytlcnoldkekcifaa

/-
  Cuts: the best cut: the function.
-/
namespace Go.Proofs.Ytlcnoldkekcifaa
open Go.Ab
set_option maxHeartbeats 2000000 in
theorem e_best (t : List Part) (h : GoodT t) (s : Stk) (lab) :
 den T 70 [.sl .no 6 (es cPart t)] lab s = some (.tup [.sl .no 1 (es cInt ((bestS t).1.best.getD [])), i64 (bestS t).1.most, .bool (bestS t).1.is], s) := by
 obtain ⟨b1, b2, b3⟩ := allCuts_inv t h.len
 have hc : ∀ k (hk : k < (cutsOf t).length), ((cutsOf t)[k]).length ≤ 8 := fun k hk => b3 _ ((sortC_perm _).mem_iff.1 (List.getElem_mem hk))
 have hb := fun lab => e_cuts t h.len 17927 s (bestSt s.length t) (fun _ a => a.fin = false) (stepB t) (fun k a hk hi =>
  ⟨fun lab => best_yield t h _ (hc k hk) a hi (cutsF t) s lab, fun hs => by have := (stepB_fin t a (cutsOf t)[k] hi).1; rw [hs] at this; exact this⟩) ⟨none, 0, false, false⟩ rfl lab
 have e1 : foldB (stepB t) (cutsOf t) ⟨none, 0, false, false⟩ = bestS t := rfl
 rw [e1] at hb
 have hfin := bestS_inv t
 generalize bestS t = q at hb hfin ⊢
 obtain ⟨⟨b, m, is, fin⟩, bb⟩ := q
 obtain ⟨f1, f2⟩ := hfin
 dsimp only at f1 f2 hb ⊢
 simp only [bestSt, bestEnt, bestL, bestLp, bestE, Bool.false_eq_true, if_false, slO_none] at hb
 rw [den_fn t70 _ _ _ rfl]
 simp only [b70]
 cases bb
 ·have f3 := f2 rfl
  simp only [BS.mk.injEq] at f3
  obtain ⟨rfl, rfl, rfl, rfl⟩ := f3
  simp only [if_true, slO_none, Option.getD_none] at hb ⊢
  simp (maxSteps := 1000000) (disch := first | omega | assumption | decide +kernel | (simp; done) | (simp; omega) | fail) [run_drawnK, hb]
 ·simp only [Bool.not_true] at f1
  subst f1
  simp only [Bool.false_eq_true, if_false] at hb
  have hU := fun en => best_fin s.length [(16, .cell [.sl .no 6 (es cPart t)]), (32, .cell [slO b]), (48, .cell [i64 m]), (64, .cell [.bool is]), (17927, en)] s b m is (.ptr s.length 16 0) (.fn 105 [.sl .no 6 (es cPart t)] []) rfl rfl rfl rfl
  cases b <;> simp only [slO_some, slO_none, Option.getD_none, Option.getD_some] at hb hU ⊢ <;> simp (maxSteps := 1000000) (disch := first | omega | assumption | decide +kernel | (simp; done) | (simp; omega) | fail) [run_drawnK, run_each2, hU, hb]
end Go.Proofs.Ytlcnoldkekcifaa

/-
  Cuts: Cut; copies.
-/
namespace Go.Proofs.Ytlcnoldkekcifaa
open Go.Ab
def cutR (t : List Part) : List Int × Int := if tblOk t = true then (if (bestS t).1.is = true then ((bestS t).1.best.getD [], 0) else ([], 3)) else ([], 70)
@[simp] theorem e_Cut (t : List Part) (lab s) : den T 29 [.sl .no 6 (es cPart t)] lab s = some (.tup [.sl .no 1 (es cInt (cutR t).1), i64 (cutR t).2], s) := by
 unfold cutR
 rw [den_fn t29 _ _ _ rfl]
 simp only [b29]
 by_cases h : tblOk t = true
 ·have hb := fun (F : Ab.Loc) lab => e_best t (good_of h) (F :: s) lab
  cases h2 : (bestS t).1.is
  ·simp (maxSteps := 1000000) (disch := first | omega | assumption | decide +kernel | (simp; done) | (simp; omega) | fail) [h, h2, askE, hb]
  ·simp (maxSteps := 1000000) (disch := first | omega | assumption | decide +kernel | (simp; done) | (simp; omega) | fail) [h, h2, askE, hb]
 ·have h' : tblOk t = false := by simpa using h
  simp (maxSteps := 1000000) (disch := first | omega | assumption | decide +kernel | (simp; done) | (simp; omega) | fail) [h', askE]
theorem e_Copy07 (t : List Part) (h2 : t.length ≤ 40) (F : Ab.Loc) (s : Stk) (lab : Nat) (hF : Loc.get F lab = none) : den T 27 [.sl .no 6 (es cPart t)] lab (F :: s) = some (.asl s.length lab 6 t.length 0 t.length, Loc.put F lab (.arr 6 (es cPart t)) :: s) := by
 rw [den_fn t27 _ _ _ rfl]
 simp only [b27]
 simp (maxSteps := 1000000) (disch := first | omega | assumption | decide +kernel | (simp; done) | (simp; omega) | fail) [h2, hF, appmK_es]
end Go.Proofs.Ytlcnoldkekcifaa

/-
  Cuts: what least is: plain law.
-/
namespace Go.Proofs.Ytlcnoldkekcifaa
open Go.Ab
def sumN (f : Nat → Int) : Nat → Int
 | 0 => 0
 | k + 1 => sumN f k + f k
theorem sumN_congr {f g : Nat → Int} : ∀ {k}, (∀ j, j < k → f j = g j) → sumN f k = sumN g k
 | 0, _ => rfl
 | k + 1, h => by simp only [sumN]; rw [sumN_congr fun j hj => h j (by omega), h k (by omega)]
theorem sumN_one {f g : Nat → Int} {q : Nat} : ∀ {k}, q < k → (∀ j, j < k → j ≠ q → f j = g j) → sumN f k = sumN g k + (f q - g q)
 | k + 1, hq, h => by
   simp only [sumN]
   by_cases e : q = k
   ·subst e
    rw [sumN_congr (fun j hj => h j (by omega) (by omega))]; omega
   ·rw [sumN_one (by omega) fun j hj => h j (by omega), h k (by omega) (by omega)]; omega
def piecesW (t : List Part) (w : Nat → Nat) (j : Nat) : Nat → Nat
 | 0 => 0
 | m + 1 => piecesW t w j m + if (t.getD (t.length - 1 - m) default).of = (j : Int) then w (t.length - 1 - m) else 0
def costW (t : List Part) (c : Nat → Nat → Int) (w : Nat → Nat) : Nat → Int
 | 0 => 0
 | m + 1 => costW t c w m + c (t.length - 1 - m) (w (t.length - 1 - m))
def upd (w : Nat → Nat) (i v : Nat) : Nat → Nat := fun j => if j = i then v else w j
theorem upd_same (w i v) : upd w i v i = v := by simp [upd]
theorem upd_other (w i v) {j : Nat} (h : j ≠ i) : upd w i v j = w j := by simp [upd, h]
theorem pieces_upd (t w j i v) : ∀ {m}, m ≤ t.length → i < t.length - m → piecesW t (upd w i v) j m = piecesW t w j m
 | 0, _, _ => rfl
 | m + 1, h, hi => by simp only [piecesW]; rw [pieces_upd t w j i v (by omega) (by omega), upd_other _ _ _ (by omega)]
theorem cost_upd (t c w i v) : ∀ {m}, m ≤ t.length → i < t.length - m → costW t c (upd w i v) m = costW t c w m
 | 0, _, _ => rfl
 | m + 1, h, hi => by simp only [costW]; rw [cost_upd t c w i v (by omega) (by omega), upd_other _ _ _ (by omega)]
theorem pieces_mono (t w j) {m m' : Nat} (h : m ≤ m') : piecesW t w j m ≤ piecesW t w j m' := by
 induction m' with
 | zero => have : m = 0 := by omega
           subst this; exact Nat.le_refl _
 | succ m' ih =>
   by_cases e : m = m' + 1
   ·subst e; exact Nat.le_refl _
   ·have := ih (by omega); simp only [piecesW]; omega
theorem pieces_stable {t : List Part} (ho : OfOk t) (w j) {m m' : Nat} (h : m ≤ m') (hm : t.length ≤ m + j + 1) (hm' : m' ≤ t.length) : piecesW t w j m' = piecesW t w j m := by
 induction m' with
 | zero => have : m = 0 := by omega
           subst this; rfl
 | succ m' ih =>
   by_cases e : m = m' + 1
   ·subst e; rfl
   ·have := ih (by omega) (by omega)
    simp only [piecesW]
    have hlt : t.length - 1 - m' < t.length := by omega
    have := ho (t.length - 1 - m') hlt
    rw [part_at hlt, if_neg (by omega)]; omega
theorem canCut_false {t : List Part} {j : Nat} (h : canCut t j = false) {i : Nat} (hi : i < t.length) : t[i].of ≠ (j : Int) := by
 intro e
 have : canCut t j = true := by
  simp only [canCut, anyB, List.any_eq_true]
  exact ⟨t[i], List.getElem_mem hi, by simp [e]⟩
 rw [h] at this; cases this
theorem pieces_none {t : List Part} {j : Nat} (h : canCut t j = false) (w) : ∀ {m}, m ≤ t.length → piecesW t w j m = 0
 | 0, _ => rfl
 | m + 1, hm => by
   have hlt : t.length - 1 - m < t.length := by omega
   simp only [piecesW]
   rw [pieces_none h w (by omega), part_at hlt, if_neg (canCut_false h hlt)]
structure VAt (t : List Part) (c : Nat → Nat → Int) (w : Nat → Nat) (i : Nat) : Prop where
 lt : w i < 31
 ok : c i (w i) < far
 lost : canCut t i = true → ∃ l, piecesW t w i t.length + l = w i ∧ within l (t.getD i default).waste.lo (t.getD i default).waste.hi = true
theorem VAt.upd {t : List Part} {c w} (ho : OfOk t) {i j v : Nat} (hj : i < j) (hjn : j < t.length) (h : VAt t c w j) : VAt t c (upd w i v) j where
 lt := by rw [upd_other _ _ _ (by omega)]; exact h.lt
 ok := by rw [upd_other _ _ _ (by omega)]; exact h.ok
 lost hc := by
  obtain ⟨l, h1, h2⟩ := h.lost hc
  refine ⟨l, ?_, h2⟩
  rw [upd_other _ _ _ (by omega), pieces_stable ho _ j (m := t.length - 1 - j) (by omega) (by omega) (Nat.le_refl _), pieces_upd _ _ _ _ _ (by omega) (by omega),
   ← pieces_stable ho w j (m := t.length - 1 - j) (m' := t.length) (by omega) (by omega) (Nat.le_refl _)]
  exact h1
abbrev costAt (a : LS) (j s : Nat) : Int := (a.P.getD j []).getD s 0
structure PInv (t : List Part) (c : Nat → Nat → Int) (m : Nat) (a : LS) : Prop where
 inv : LInv t m a
 nop : ∀ j, j < t.length → canCut t j = false → a.P.getD j [] = nothingR
 le : ∀ w, (∀ i, t.length - m ≤ i → i < t.length → VAt t c w i) → (∀ j, j < t.length - m → piecesW t w j m < 31) →
  a.all + sumN (fun j => costAt a j (piecesW t w j m)) (t.length - m) ≤ costW t c w m ∧ ∀ j, j < t.length - m → costAt a j (piecesW t w j m) < far
 ex : ∀ s : Nat → Nat, (∀ j, j < t.length - m → s j < 31 ∧ costAt a j (s j) < far) → ∃ w, (∀ i, t.length - m ≤ i → i < t.length → VAt t c w i) ∧ (∀ j, j < t.length - m → piecesW t w j m = s j) ∧
  costW t c w m = a.all + sumN (fun j => costAt a j (s j)) (t.length - m)
theorem own_le {t : List Part} {c : Nat → Nat → Int} {m : Nat} {a : LS} (h : PInv t c m a) (hm : m < t.length) {i : Nat} (hin : i < t.length) (hi : t.length - 1 - m = i) (hn : t.length ≤ 8) (ho : OfOk t) (hc : ∀ i w, i < t.length → w < 31 → c i w < far → -M0 ≤ c i w ∧ c i w ≤ M0)
 (w : Nat → Nat) (hv : VAt t c w i) (hx : costAt a i (piecesW t w i m) < far) :
 (ownR t c a.P t[i] i).getD (w i) 0 ≤ costAt a i (piecesW t w i m) + c i (w i) ∧
 (ownR t c a.P t[i] i).getD (w i) 0 < far := by
 have hX := XX_le (k := m) (by omega)
 have hM : M0 = 3000 := rfl
 have hf : far = 1099511627776 := rfl
 have hcs := hc i (w i) hin hv.lt hv.ok
 have hpc : piecesW t w i m = piecesW t w i t.length := (pieces_stable ho w i (by omega) (by omega) (Nat.le_refl _)).symm
 unfold ownR
 rw [costR_get _ _ hv.lt]
 cases hcc : canCut t i
 ·have e := pieces_none hcc w (m := m) (by omega)
  rw [e] at hx ⊢
  have e2 : costAt a i 0 = 0 := by unfold costAt; rw [h.nop i hin hcc]; rfl
  rw [e2]
  simp only [Bool.false_eq_true, if_false, zeroR_get]
  have := hv.ok
  rw [if_pos ⟨hv.ok, by omega⟩]
  omega
 ·obtain ⟨l, hl1, hl2⟩ := hv.lost hcc
  rw [part_at hin] at hl2
  rw [← hpc] at hl1
  have hlt := hv.lt
  have hl3 : (lostR t[i].waste).getD l 0 = 0 := by rw [lostR_get _ (by omega), if_pos hl2]
  have h1 := plusR_le (c := a.P.getD i []) (d := lostR t[i].waste) (v := piecesW t w i m) (w := l) (by omega) hx (by omega)
  rw [hl1, hl3] at h1
  have hr := (h.inv.rows.row i hin).small (k := piecesW t w i m) (by omega) hx
  have hb := ((h.inv.rows.row i hin).plus (rowB_lost t[i].waste)).is (w i) hlt
  simp only [if_true]
  have h2 : (plusR (a.P.getD i []) (lostR t[i].waste)).getD (w i) 0 < far := by unfold costAt at hx; omega
  rw [if_pos ⟨hv.ok, h2⟩]
  unfold costAt at *
  omega
theorem own_ex {t : List Part} {c : Nat → Nat → Int} {m : Nat} {a : LS} (h : PInv t c m a) {i : Nat} (hin : i < t.length) (v : Nat) (hv : v < 31)
 (hx : (ownR t c a.P t[i] i).getD v 0 < far) : ∃ x, x < 31 ∧ costAt a i x < far ∧ c i v < far ∧
 (ownR t c a.P t[i] i).getD v 0 = costAt a i x + c i v ∧
 (canCut t i = true → ∃ l, x + l = v ∧ within l (t.getD i default).waste.lo (t.getD i default).waste.hi = true) := by
 have hf : far = 1099511627776 := rfl
 unfold ownR at hx ⊢
 rw [costR_get _ _ hv] at hx ⊢
 cases hcc : canCut t i
 ·simp only [hcc, Bool.false_eq_true, if_false, zeroR_get] at hx ⊢
  split at hx
  ·rename_i h1
   rw [if_pos h1]
   have e2 : costAt a i 0 = 0 := by unfold costAt; rw [h.nop i hin hcc]; rfl
   exact ⟨0, by omega, by rw [e2]; omega, h1.1, by rw [e2], fun h => by cases h⟩
  ·omega
 ·simp only [hcc, if_true] at hx ⊢
  split at hx
  ·rename_i h1
   rw [if_pos h1]
   rcases plusR_eq (a.P.getD i []) (lostR t[i].waste) hv with h2 | ⟨x, l, h2, h3, h4, h5⟩
   ·omega
   ·have hl : within l t[i].waste.lo t[i].waste.hi = true := by
     rw [lostR_get _ (by omega)] at h4
     cases hw : within l t[i].waste.lo t[i].waste.hi
     ·rw [hw, if_neg (by simp)] at h4; omega
     ·rfl
    rw [lostR_get _ (by omega), if_pos hl] at h5
    refine ⟨x, by omega, h3, h1.1, by unfold costAt; omega, fun _ => ⟨l, h2, by rw [part_at hin]; exact hl⟩⟩
  ·omega
end Go.Proofs.Ytlcnoldkekcifaa

/-
  Cuts: what least is: plain law, the steps.
-/
namespace Go.Proofs.Ytlcnoldkekcifaa
open Go.Ab
theorem pinv_init (t : List Part) (c : Nat → Nat → Int) : PInv t c 0 ⟨List.replicate t.length nothingR, 0, 0, false⟩ := by
 have hP : ∀ j, j < t.length → (List.replicate t.length nothingR).getD j [] = nothingR := fun j hj => by rw [List.getD, List.getElem?_replicate, if_pos hj]; rfl
 have h0 : ∀ j, j < t.length → costAt ⟨List.replicate t.length nothingR, 0, 0, false⟩ j 0 = 0 := fun j hj => by unfold costAt; dsimp only; rw [hP j hj]; rfl
 have hz : ∀ k, sumN (fun _ => 0) k = 0 := fun k => by induction k with | zero => rfl | succ k ih => simp [sumN, ih]
 refine ⟨⟨⟨by simp, fun j hj => ?_⟩, by simp, by simp, rfl⟩, fun j hj _ => hP j hj, fun w _ _ => ⟨?_, fun j hj => ?_⟩, fun s hs => ⟨fun _ => 0, fun i h1 h2 => absurd h2 (by omega), fun j hj => ?_, ?_⟩⟩
 ·dsimp only; rw [hP j hj]; exact rowB_nothing
 ·simp only [piecesW, costW]
  rw [sumN_congr (g := fun _ => 0) fun j hj => h0 j (by omega), hz]; simp
 ·simp only [piecesW]; rw [h0 j (by omega)]; decide
 ·have := hs j hj
  unfold costAt at this
  dsimp only at this
  rw [hP j (by omega), nothingR_get this.1] at this
  simp only [piecesW]
  by_cases e : s j = 0
  ·exact e.symm
  ·rw [if_neg e] at this; exact absurd this.2 (by decide)
 ·simp only [costW]
  rw [sumN_congr (g := fun _ => 0), hz]; simp
  intro j hj
  have := hs j hj
  have h2 := this
  unfold costAt at this
  dsimp only at this
  rw [hP j (by omega), nothingR_get this.1] at this
  by_cases e : s j = 0
  ·rw [e]; exact h0 j (by omega)
  ·rw [if_neg e] at this; exact absurd this.2 (by decide)
theorem ext_w {t : List Part} {c : Nat → Nat → Int} (ho : OfOk t) {m i : Nat} (hm : m < t.length) (hin : i < t.length) (hi : t.length - 1 - m = i) {w : Nat → Nat} {x v : Nat}
 (hw : ∀ j, t.length - m ≤ j → j < t.length → VAt t c w j) (hx : piecesW t w i m = x) (hv : v < 31) (hcv : c i v < far)
 (hl : canCut t i = true → ∃ l, x + l = v ∧ within l (t.getD i default).waste.lo (t.getD i default).waste.hi = true) :
 (∀ j, t.length - (m + 1) ≤ j → j < t.length → VAt t c (upd w i v) j) ∧ (∀ j, piecesW t (upd w i v) j (m + 1) = piecesW t w j m + if t[i].of = (j : Int) then v else 0) ∧ costW t c (upd w i v) (m + 1) = costW t c w m + c i v := by
 refine ⟨fun j h1 h2 => ?_, fun j => ?_, ?_⟩
 ·by_cases e : j = i
  ·subst e
   refine ⟨by rw [upd_same]; exact hv, by rw [upd_same]; exact hcv, fun hcc => ?_⟩
   obtain ⟨l, h3, h4⟩ := hl hcc
   refine ⟨l, ?_, h4⟩
   rw [upd_same, pieces_stable ho _ j (m := m) (by omega) (by omega) (Nat.le_refl _), pieces_upd _ _ _ _ _ (by omega) (by omega), hx]
   exact h3
  ·exact VAt.upd ho (by omega) h2 (hw j (by omega) h2)
 ·simp only [piecesW, hi]
  rw [pieces_upd _ _ _ _ _ (by omega) (by omega), part_at hin, upd_same]
 ·simp only [costW, hi]
  rw [cost_upd _ _ _ _ _ (by omega) (by omega), upd_same]
theorem pieces_lt {t : List Part} {c w} (ho : OfOk t) {m i : Nat} (hm : m < t.length) (hin : i < t.length) (hi : t.length - 1 - m = i) (hv : VAt t c w i) : piecesW t w i m < 31 := by
 cases hcc : canCut t i
 ·rw [pieces_none hcc w (by omega)]; omega
 ·obtain ⟨l, h1, _⟩ := hv.lost hcc
  have h2 := pieces_stable ho w i (m := m) (m' := t.length) (by omega) (by omega) (Nat.le_refl _)
  have := hv.lt
  omega
theorem PInv.next {t : List Part} {c : Nat → Nat → Int} {m : Nat} {a : LS} (h : PInv t c m a) (hm : m < t.length) (hn : t.length ≤ 8) (ho : OfOk t) (hc : ∀ i w, i < t.length → w < 31 → c i w < far → -M0 ≤ c i w ∧ c i w ≤ M0) {i : Nat} (hin : i < t.length) (hi : t.length - 1 - m = i)
 (w : Nat → Nat) (hw : ∀ j, i ≤ j → j < t.length → VAt t c w j) (hp : ∀ j, j < i → piecesW t w j m < 31) :
 a.all + sumN (fun j => costAt a j (piecesW t w j m)) i + (ownR t c a.P t[i] i).getD (w i) 0 ≤ costW t c w (m + 1) ∧ (∀ j, j < i → costAt a j (piecesW t w j m) < far) ∧ (ownR t c a.P t[i] i).getD (w i) 0 < far := by
 have hv := hw i (Nat.le_refl _) hin
 have e : t.length - m = i + 1 := by omega
 obtain ⟨h1, h2⟩ := h.le w (fun j h1 h2 => hw j (by omega) h2) (fun j hj => by
  by_cases e : j = i
  ·subst e; exact pieces_lt ho hm hin hi hv
  ·exact hp j (by omega))
 rw [e] at h1 h2
 have h3 := own_le h hm hin hi hn ho hc w hv (h2 i (by omega))
 simp only [sumN] at h1
 refine ⟨?_, fun j hj => h2 j (by omega), h3.2⟩
 simp only [costW, hi]
 omega
theorem PInv.step {t : List Part} {c : Nat → Nat → Int} {m : Nat} {a : LS} (h : PInv t c m a) (hm : m < t.length) (hn : t.length ≤ 8) (ho : OfOk t) (hc : ∀ i w, i < t.length → w < 31 → c i w < far → -M0 ≤ c i w ∧ c i w ≤ M0) {i : Nat} (hin : i < t.length) (hi : t.length - 1 - m = i)
 (hs : (stepY t c a (t[i], i)).2 = true) : PInv t c (m + 1) (stepY t c a (t[i], i)).1 := by
 have hinv := h.inv.step hm hn ho hc i hin hs
 have e0 : t.length - m = i + 1 := by omega
 have e1 : t.length - (m + 1) = i := by omega
 have hoi := ho i hin
 have hlen := h.inv.rows.len
 unfold stepY at hs hinv ⊢
 dsimp only at hs hinv ⊢
 by_cases hof : t[i].of = -1
 ·rw [if_pos hof] at hs hinv ⊢
  by_cases hst : far ≤ minR (ownR t c a.P t[i] i)
  ·rw [if_pos hst] at hs; cases hs
  ·rw [if_neg hst] at hinv ⊢
   dsimp only at hinv ⊢
   refine ⟨hinv, h.nop, fun w hw hp => ?_, fun s hss => ?_⟩
   ·rw [e1] at hw hp ⊢
    have ep : ∀ j, piecesW t w j (m + 1) = piecesW t w j m := fun j => by simp only [piecesW, hi]; rw [part_at hin, if_neg (by omega)]; rfl
    simp only [ep] at hp ⊢
    obtain ⟨h1, h2, h3⟩ := h.next hm hn ho hc hin hi w hw hp
    have h4 := minR_le (ownR t c a.P t[i] i) (hw i (Nat.le_refl _) hin).lt
    exact ⟨by simp only [costAt] at *; omega, h2⟩
   ·rw [e1] at hss ⊢
    obtain ⟨v, hv, ev⟩ := minR_eq (ownR t c a.P t[i] i)
    obtain ⟨x, hx, hxf, hcv, hown, hl⟩ := own_ex h hin v hv (by omega)
    obtain ⟨w, h1, h2, h3⟩ := h.ex (upd s i x) (fun j hj => by
     by_cases e : j = i
     ·subst e; rw [upd_same]; exact ⟨hx, hxf⟩
     ·rw [upd_other _ _ _ e]; exact hss j (by omega))
    rw [e0] at h2 h3
    obtain ⟨k1, k2, k3⟩ := ext_w ho hm hin hi h1 ((h2 i (by omega)).trans (upd_same ..)) hv hcv hl
    rw [e1] at k1
    refine ⟨upd w i v, k1, fun j hj => ?_, ?_⟩
    ·rw [k2, if_neg (by omega), h2 j (by omega), upd_other _ _ _ (by omega)]; rfl
    ·rw [k3, h3, ev, hown]
     simp only [sumN, upd_same]
     rw [sumN_congr (g := fun j => costAt a j (s j)) fun j hj => by rw [upd_other _ _ _ (by omega)]]
     simp only [costAt]
     omega
 ·rw [if_neg hof] at hinv ⊢
  dsimp only at hinv ⊢
  obtain ⟨q, hq⟩ : ∃ q : Nat, t[i].of = q := ⟨t[i].of.toNat, by omega⟩
  have hqi : q < i := by omega
  have eq : t[i].of.toNat = q := by omega
  rw [eq] at hinv ⊢
  generalize hb : (⟨a.P.set q (plusR (a.P.getD q []) (ownR t c a.P t[i] i)), a.all, a.res, a.fin⟩ : LS) = b at hinv ⊢
  have ball : b.all = a.all := by rw [← hb]
  have bq : ∀ s, costAt b q s = (plusR (a.P.getD q []) (ownR t c a.P t[i] i)).getD s 0 := fun s => by
   subst hb; simp only [costAt, List.getD, List.getElem?_set]
   rw [if_pos trivial, if_pos (by omega)]; rfl
  have bo : ∀ j s, j ≠ q → costAt b j s = costAt a j s := fun j s hj => by
   subst hb; simp only [costAt, List.getD, List.getElem?_set]
   rw [if_neg (fun e => hj e.symm)]
  refine ⟨hinv, fun j hj hcj => ?_, fun w hw hp => ?_, fun s hss => ?_⟩
  ·have hjq : j ≠ q := by
    rintro rfl
    exact canCut_false hcj hin hq
   have := h.nop j hj hcj
   subst hb; simp only [List.getD, List.getElem?_set]
   rw [if_neg (fun e => hjq e.symm)]; exact this
  ·rw [e1] at hw hp ⊢
   have ep : ∀ j, piecesW t w j (m + 1) = piecesW t w j m + if j = q then w i else 0 := fun j => by
    simp only [piecesW, hi]; rw [part_at hin, hq]
    by_cases e : j = q
    ·subst e; simp
    ·rw [if_neg (by omega), if_neg e]
   have hp' : ∀ j, j < i → piecesW t w j m < 31 := fun j hj => by have := hp j hj; rw [ep] at this; omega
   obtain ⟨h1, h2, h3⟩ := h.next hm hn ho hc hin hi w hw hp'
   have hpq := hp q hqi
   rw [ep, if_pos rfl] at hpq
   have h4 := plusR_le (c := a.P.getD q []) (d := ownR t c a.P t[i] i) hpq (h2 q hqi) h3
   have hX := XX_le (k := m) (by omega)
   have hM : M0 = 3000 := rfl
   have hf : far = 1099511627776 := rfl
   have hr1 := (h.inv.rows.row q (by omega)).small (hp' q hqi) (h2 q hqi)
   have hown := ownR_B (t := t) (p := t[i]) h.inv.rows hin hX.1 (hc i · hin)
   have hr2 := hown.small (hw i (Nat.le_refl _) hin).lt h3
   have hlq : costAt b q (piecesW t w q (m + 1)) ≤ costAt a q (piecesW t w q m) + (ownR t c a.P t[i] i).getD (w i) 0 := by
    rw [bq, ep, if_pos rfl]; exact h4
   have hother : ∀ j, j < i → j ≠ q → costAt b j (piecesW t w j (m + 1)) = costAt a j (piecesW t w j m) := fun j _ hj => by rw [bo j _ hj, ep, if_neg hj]; rfl
   refine ⟨?_, fun j hj => ?_⟩
   ·rw [sumN_one (g := fun j => costAt a j (piecesW t w j m)) hqi hother, ball]
    omega
   ·by_cases e : j = q
    ·have h7 := Int.le_trans hlq (Int.add_le_add hr1.2 hr2.2)
     rw [e]
     omega
    ·rw [hother j hj e]; exact h2 j hj
  ·rw [e1] at hss ⊢
   have hsq := hss q hqi
   rw [bq] at hsq
   rcases plusR_eq (a.P.getD q []) (ownR t c a.P t[i] i) hsq.1 with h1 | ⟨y, v, hyv, hy, hvf, hsum⟩
   ·have h9 := hsq.2
    rw [h1] at h9
    exact absurd h9 (by decide)
   obtain ⟨x, hx, hxf, hcv, hown, hl⟩ := own_ex h hin v (by omega) hvf
   obtain ⟨w, h1, h2, h3⟩ := h.ex (upd (upd s q y) i x) (fun j hj => by
    by_cases e : j = i
    ·subst e; rw [upd_same]; exact ⟨hx, hxf⟩
    ·rw [upd_other _ _ _ e]
     by_cases e2 : j = q
     ·subst e2; rw [upd_same]; exact ⟨by omega, hy⟩
     ·rw [upd_other _ _ _ e2]
      have := hss j (by omega)
      rw [bo j _ e2] at this; exact this)
   rw [e0] at h2 h3
   obtain ⟨k1, k2, k3⟩ := ext_w ho hm hin hi h1 ((h2 i (by omega)).trans (upd_same ..)) (by omega) hcv hl
   rw [e1] at k1
   refine ⟨upd w i v, k1, fun j hj => ?_, ?_⟩
   ·rw [k2, h2 j (by omega), upd_other _ _ _ (by omega), hq]
    by_cases e : j = q
    ·subst e; rw [upd_same, if_pos rfl]; exact hyv
    ·rw [upd_other _ _ _ e, if_neg (by omega)]; rfl
   ·rw [k3, h3]
    simp only [sumN, upd_same]
    have h5 : sumN (fun j => costAt b j (s j)) i = sumN (fun j => costAt a j (upd (upd s q y) i x j)) i + (costAt b q (s q) - costAt a q y) := by
     have := sumN_one (f := fun j => costAt b j (s j)) (g := fun j => costAt a j (upd (upd s q y) i x j)) hqi (fun j hj e => by rw [upd_other _ _ _ (by omega), upd_other _ _ _ e, bo j _ e])
     rw [this, upd_other _ _ _ (by omega), upd_same]
    rw [h5, bq, hsum, ball, hown]
    simp only [costAt]
    omega
end Go.Proofs.Ytlcnoldkekcifaa

/-
  Cuts: what least is: the least cost of a parting.
-/
namespace Go.Proofs.Ytlcnoldkekcifaa
open Go.Ab
theorem foldB_stop {A B : Type} (f : A → B → A × Bool) (Inv : Nat → A → Prop) : ∀ (l : List B) (k : Nat) (a : A), Inv k a → (∀ j (hj : j < l.length) a, Inv (k + j) a → (f a l[j]).2 = true → Inv (k + j + 1) (f a l[j]).1) →
 (foldB f l a).2 = false → ∃ j, ∃ hj : j < l.length, ∃ a, Inv (k + j) a ∧ (f a l[j]).2 = false
 | [], k, a, h, _, hb => by cases hb
 | x :: l, k, a, h, hs, hb => by
   simp only [foldB] at hb
   by_cases e : (f a x).2 = true
   ·rw [if_pos e] at hb
    have h1 := hs 0 (by simp) a h e
    obtain ⟨j, hj, a', h2, h3⟩ := foldB_stop f Inv l (k + 1) (f a x).1 h1 (fun j hj a ha he => by
     have := hs (j + 1) (by simpa using hj) a (by simpa [Nat.add_assoc, Nat.add_comm 1] using ha) (by simpa using he)
     simpa [Nat.add_assoc, Nat.add_comm 1] using this) hb
    exact ⟨j + 1, by simpa using hj, a', by simpa [Nat.add_assoc, Nat.add_comm 1] using h2, by simpa using h3⟩
   ·exact ⟨0, by simp, a, h, by simpa using e⟩
theorem back_get (t : List Part) (j : Nat) (hj : j < t.zipIdx.reverse.length) : t.zipIdx.reverse[j] = (t[t.length - 1 - j]'(by simp at hj; omega), t.length - 1 - j) := by
 simp [List.getElem_reverse]
section
variable {t : List Part} {c : Nat → Nat → Int} (hn : t.length ≤ 8) (ho : OfOk t) (hc : ∀ i w, i < t.length → w < 31 → c i w < far → -M0 ≤ c i w ∧ c i w ≤ M0)
include hn ho hc
theorem least_steps (j : Nat) (hj : j < t.zipIdx.reverse.length) (a : LS) (ha : PInv t c (0 + j) a) (he : (stepY t c a t.zipIdx.reverse[j]).2 = true) : PInv t c (0 + j + 1) (stepY t c a t.zipIdx.reverse[j]).1 := by
 have hj' : j < t.length := by simpa using hj
 rw [back_get] at he ⊢
 rw [Nat.zero_add] at ha ⊢
 exact ha.step hj' hn ho hc (by omega) rfl he
theorem leastP_ex (h : leastP t c < far) : ∃ w, (∀ i, i < t.length → VAt t c w i) ∧ costW t c w t.length = leastP t c := by
 unfold leastP at h ⊢
 by_cases hb : (leastS t c).2 = true
 ·rw [if_pos hb]
  have := foldB_inv (stepY t c) (PInv t c) t.zipIdx.reverse 0 _ (pinv_init t c) (fun j hj a ha he => least_steps hn ho hc j hj a ha he) hb
  simp only [List.length_reverse, List.length_zipIdx, Nat.zero_add] at this
  obtain ⟨w, h1, _, h3⟩ := this.ex (fun _ => 0) (fun j hj => absurd hj (by omega))
  refine ⟨w, fun i hi => h1 i (by omega) hi, ?_⟩
  rw [h3, Nat.sub_self]
  simp only [sumN, Int.add_zero]
  rfl
 ·rw [if_neg hb] at h; exact absurd h (by simp)
theorem leastP_le (w : Nat → Nat) (hw : ∀ i, i < t.length → VAt t c w i) : leastP t c ≤ costW t c w t.length ∧ leastP t c < far := by
 unfold leastP
 cases hb : (leastS t c).2
 ·exfalso
  obtain ⟨j, hj, a, ha, hst⟩ := foldB_stop (stepY t c) (PInv t c) t.zipIdx.reverse 0 _ (pinv_init t c) (fun j hj a ha he => least_steps hn ho hc j hj a ha he) hb
  have hj' : j < t.length := by simpa using hj
  rw [back_get] at hst
  rw [Nat.zero_add] at ha
  have hin : t.length - 1 - j < t.length := by omega
  have := (ha.next hj' hn ho hc hin rfl w (fun i _ hi => hw i hi) (fun i hi => by
   have := pieces_mono t w i (m := j) (m' := t.length - 1 - i) (by omega)
   have := pieces_lt ho (m := t.length - 1 - i) (i := i) (by omega) (by omega) (by omega) (hw i (by omega))
   omega)).2.2
  have h2 := minR_le (ownR t c a.P t[t.length - 1 - j] (t.length - 1 - j)) (hw _ hin).lt
  unfold stepY at hst
  split at hst
  ·split at hst
   ·rename_i h; dsimp only at h; omega
   ·cases hst
  ·cases hst
 ·rw [if_pos rfl]
  have := foldB_inv (stepY t c) (PInv t c) t.zipIdx.reverse 0 _ (pinv_init t c) (fun j hj a ha he => least_steps hn ho hc j hj a ha he) hb
  simp only [List.length_reverse, List.length_zipIdx, Nat.zero_add] at this
  have h1 := (this.le w (fun i _ hi => hw i hi) (fun j hj => absurd hj (by omega))).1
  rw [Nat.sub_self] at h1
  simp only [sumN, Int.add_zero] at h1
  refine ⟨h1, ?_⟩
  have h2 := this.inv.hi
  change (leastS t c).1.all ≤ _ at h2
  have hf : far = 1099511627776 := rfl
  omega
end
end Go.Proofs.Ytlcnoldkekcifaa

/-
  Cuts: Fix.
-/
namespace Go.Proofs.Ytlcnoldkekcifaa
open Go.Ab
def fixC (t : List Part) (O : List Int) (i w : Nat) : Int := if i < O.length ∧ (w : Int) ≠ O.getD i 0 then far else awayC t i w
theorem e_fix1 (t : List Part) (h : tblOk t = true) (O : List Int) (hO : O.length ≤ 8) (d l l2 m : Nat) (i : Nat) (hi : i < t.length) (w : Nat) (hw : w < 31) (s : Stk) (hd : d < s.length)
 (h1 : sget s d l = some (.cell [.asl d m 1 O.length 0 O.length])) (h2 : sget s d l2 = some (.cell [.sl .no 6 (es cPart t)])) (h3 : sget s d m = some (.arr 1 (es cInt O))) (lab) :
 den T 80 [i64 i, i64 w, .ptr d l 0, .ptr d l2 0] lab s = some (i64 (fixC t O i w), s) := by
 have e1 : ¬ d = s.length := by omega
 have hA := fun (F : Ab.Loc) lab => e_awayC t h i hi w hw lab (F :: s)
 unfold fixC
 rw [den_fn t80 _ _ _ rfl]
 simp only [b80]
 by_cases h4 : i < O.length
 ·have h4' : (i : Int) < O.length := by omega
  have e2 : O.getD i 0 = O[i] := by simp [List.getD, h4]
  rw [e2]
  by_cases h5 : (w : Int) = O[i]
  ·simp (maxSteps := 1000000) (disch := first | omega | assumption | decide +kernel | (simp; done) | (simp; omega) | fail) [h1, h2, h3, h4, h4', ← h5, e1, hA]
  ·simp (maxSteps := 1000000) (disch := first | omega | assumption | decide +kernel | (simp; done) | (simp; omega) | fail) [h1, h2, h3, h4, h4', h5, e1, hA, far]
 ·have h4' : ¬ (i : Int) < O.length := by omega
  simp (maxSteps := 1000000) (disch := first | omega | assumption | decide +kernel | (simp; done) | (simp; omega) | fail) [h1, h2, h3, h4, h4', e1, hA]
theorem fix1_ok {t : List Part} (h : tblOk t = true) (O : List Int) (hO : O.length ≤ 8) (d l l2 m : Nat) (S : Stk) (hd : d < S.length)
 (h1 : sget S d l = some (.cell [.asl d m 1 O.length 0 O.length])) (h2 : sget S d l2 = some (.cell [.sl .no 6 (es cPart t)])) (h3 : sget S d m = some (.arr 1 (es cInt O))) :
 CostOk S 80 [] [.ptr d l 0, .ptr d l2 0] (fixC t O) t.length where
 call fr i w lab hi hw := e_fix1 t h O hO d l l2 m i hi w hw (fr ++ S) (by simp; omega) (by rw [sget_app _ _ _ _ hd]; exact h1) (by rw [sget_app _ _ _ _ hd]; exact h2) (by rw [sget_app _ _ _ _ hd]; exact h3) lab
 keep D keep hD := by
  have : ¬ d = D := by omega
  simp [dropR, this]
 keep1 D keep hD := by simp
 small i w hi hw hf := by
  unfold fixC at *
  have := awayC_small h i hi w hw
  split
  ·rename_i e; rw [if_pos e] at hf; exact absurd hf (by simp)
  ·simp only [M0]; omega
set_option maxHeartbeats 1000000 in
theorem e_Fix_l1 (t : List Part) (h : tblOk t = true) (O : List Int) (hO : O.length < 8) (n : Int) (v : Nat) (hv : v < 31) (hne : ∀ k, k < v → leastP t (fixC t (O ++ [(k : Int)])) ≠ n) (heq : leastP t (fixC t (O ++ [(v : Int)])) = n) (L K : Int) (s : Stk)  :
 Run T b39l1 [(4, .ptr s.length 64 0), (5, i64 n), (7, .ptr s.length 112 0), (18, i64 L), (19, i64 K)] ([(64, .cell [.sl .no 6 (es cPart t)]), (112, .cell [.asl s.length 114 1 (O.length + 1) 0 (O.length + 1)]), (114, .arr 1 (es cInt (O ++ [0])))] :: s) = some (.exit 2, [(4, .ptr s.length 64 0), (5, i64 n), (7, .ptr s.length 112 0), (18, i64 L), (19, i64 K), (28, .bool false)], [(64, .cell [.sl .no 6 (es cPart t)]), (112, .cell [.asl s.length 114 1 (O.length + 1) 0 (O.length + 1)]), (114, .arr 1 (es cInt (O ++ [(((List.range v).length : Nat) : Int)])))] :: s) := by
 have key := loop_fold (T := T) (live := [4, 5, 7, 18, 19]) (keep := [64, 112, 114, 176, 352, 368]) (b := d39l1) (List.range v) (fun _ _ => True) (fun _ _ => ()) (fun k (a : Unit) => [(4, .ptr s.length 64 0), (5, i64 n), (7, .ptr s.length 112 0), (18, i64 L), (19, i64 K)]) (fun k (a : Unit) => [(64, .cell [.sl .no 6 (es cPart t)]), (112, .cell [.asl s.length 114 1 (O.length + 1) 0 (O.length + 1)]), (114, .arr 1 (es cInt (O ++ [((k : Nat) : Int)])))] :: s) (fun (a : Unit) => (.exit 2, [(4, .ptr s.length 64 0), (5, i64 n), (7, .ptr s.length 112 0), (18, i64 L), (19, i64 K), (28, .bool false)], [(64, .cell [.sl .no 6 (es cPart t)]), (112, .cell [.asl s.length 114 1 (O.length + 1) 0 (O.length + 1)]), (114, .arr 1 (es cInt (O ++ [(((List.range v).length : Nat) : Int)])))] :: s)) (by simp) ?_ ?_ ?_ () (by simp) [(4, .ptr s.length 64 0), (5, i64 n), (7, .ptr s.length 112 0), (18, i64 L), (19, i64 K)] ([(64, .cell [.sl .no 6 (es cPart t)]), (112, .cell [.asl s.length 114 1 (O.length + 1) 0 (O.length + 1)]), (114, .arr 1 (es cInt (O ++ [0])))] :: s) (by simp) (by simp)
 ·exact key
 ·intro k a hk hi
  try simp only [List.length_range] at hk
  try simp only [List.getElem_range]
  have hL : ∀ (F : Ab.Loc) lab, Loc.get F 112 = some (.cell [.asl s.length 114 1 (O.length + 1) 0 (O.length + 1)]) → Loc.get F 64 = some (.cell [.sl .no 6 (es cPart t)]) → Loc.get F 114 = some (.arr 1 (es cInt (O ++ [(k : Int)]))) →
   den T 79 [.sl .no 6 (es cPart t), .fn 80 [] [.ptr s.length 112 0, .ptr s.length 64 0]] lab (F :: s) = some (i64 (leastP t (fixC t (O ++ [(k : Int)]))), F :: s) := fun F lab g1 g2 g3 =>
   e_least t (tblOk_len h) (tblOk_of h) (F :: s) (fix1_ok h (O ++ [(k : Int)]) (by simp; omega) s.length 112 64 114 (F :: s) (by simp) (by simp [g1]) (by simp [g2]) (by simp [g3])) rfl rfl lab
  have hk2 := hne k hk
  have q1 : IntKind.i64.wrap (O.length : Int) = O.length := wi _ (by omega) (by omega)
  have q2 : (O.length : Int) < (O.length : Int) + 1 := by omega
  have q3 : IntKind.i64.wrap ((k : Int) + 1) = (k : Int) + 1 := wi _ (by omega) (by omega)
  have q4 : (es cInt (O ++ [(k : Int)])).set O.length [i64 ((k : Int) + 1)] = es cInt (O ++ [(k : Int) + 1]) := by simp [es]
  have q5 : (O ++ [(k : Int)])[O.length]'(by simp) = (k : Int) := by simp
  simp (maxSteps := 1000000) (disch := first | omega | assumption | decide +kernel | (simp; done) | (simp; omega) | fail) [hL, hk2, q1, q2, q3, q4, q5]
 ·intro k a hk hi
  try simp only [List.length_range] at hk
  try simp only [List.getElem_range]
  try simp
 ·intro a hi
  have hL : ∀ (F : Ab.Loc) lab, Loc.get F 112 = some (.cell [.asl s.length 114 1 (O.length + 1) 0 (O.length + 1)]) → Loc.get F 64 = some (.cell [.sl .no 6 (es cPart t)]) → Loc.get F 114 = some (.arr 1 (es cInt (O ++ [(v : Int)]))) →
   den T 79 [.sl .no 6 (es cPart t), .fn 80 [] [.ptr s.length 112 0, .ptr s.length 64 0]] lab (F :: s) = some (i64 (leastP t (fixC t (O ++ [(v : Int)]))), F :: s) := fun F lab g1 g2 g3 =>
   e_least t (tblOk_len h) (tblOk_of h) (F :: s) (fix1_ok h (O ++ [(v : Int)]) (by simp; omega) s.length 112 64 114 (F :: s) (by simp) (by simp [g1]) (by simp [g2]) (by simp [g3])) rfl rfl lab
  simp only [List.length_range]
  simp (maxSteps := 1000000) (disch := first | omega | assumption | decide +kernel | (simp; done) | (simp; omega) | fail) [hL, heq]
end Go.Proofs.Ytlcnoldkekcifaa

/-
  Cuts: Fix, whole.
-/
namespace Go.Proofs.Ytlcnoldkekcifaa
open Go.Ab
theorem fixC_nil (t : List Part) : fixC t [] = awayC t := by funext i w; simp [fixC]
theorem fixC_snoc (t : List Part) (O : List Int) (v : Int) (i w : Nat) : fixC t (O ++ [v]) i w = if i = O.length ∧ (w : Int) ≠ v then far else fixC t O i w := by
 unfold fixC
 by_cases h1 : i < O.length
 ·have e : (O ++ [v]).getD i 0 = O.getD i 0 := by simp [List.getD, List.getElem?_append_left h1]
  rw [e, if_neg (c := i = O.length ∧ _) (by omega)]
  simp [h1, show i < O.length + 1 by omega]
 ·by_cases h2 : i = O.length
  ·subst h2
   have e : (O ++ [v]).getD O.length 0 = v := by simp [List.getD]
   rw [e]
   simp
  ·rw [if_neg (c := i = O.length ∧ _) (by omega), if_neg (by simp; omega), if_neg (by omega)]
theorem fixC_small {t : List Part} (h : tblOk t = true) (O : List Int) (i w : Nat) (hi : i < t.length) (hw : w < 31) (hf : fixC t O i w < far) : -M0 ≤ fixC t O i w ∧ fixC t O i w ≤ M0 := by
 unfold fixC at *
 have := awayC_small h i hi w hw
 split
 ·rename_i e; rw [if_pos e] at hf; exact absurd hf (by simp)
 ·simp only [M0]; omega
theorem costW_congr {t : List Part} {c c' : Nat → Nat → Int} {w : Nat → Nat} (h : ∀ i, i < t.length → c i (w i) = c' i (w i)) : ∀ m, m ≤ t.length → costW t c w m = costW t c' w m
 | 0, _ => rfl
 | m + 1, hm => by simp only [costW]; rw [costW_congr h m (by omega), h _ (by omega)]
theorem VAt.congr {t : List Part} {c c' : Nat → Nat → Int} {w : Nat → Nat} {i : Nat} (h : VAt t c w i) (e : c' i (w i) = c i (w i)) : VAt t c' w i := ⟨h.lt, by rw [e]; exact h.ok, h.lost⟩
theorem fix_next {t : List Part} (h : tblOk t = true) {O : List Int} {n : Int} (hO : O.length < t.length) (hn : leastP t (fixC t O) = n) (hf : n < far) : ∃ v : Nat, v < 31 ∧ leastP t (fixC t (O ++ [(v : Int)])) = n := by
 have hl := tblOk_len h
 have ho := tblOk_of h
 obtain ⟨w, h1, h2⟩ := leastP_ex hl ho (fixC_small h O) (by rw [hn]; exact hf)
 have hv := (h1 O.length hO).lt
 refine ⟨w O.length, hv, ?_⟩
 have e : ∀ i, i < t.length → fixC t (O ++ [(w O.length : Int)]) i (w i) = fixC t O i (w i) := fun i hi => by
  rw [fixC_snoc, if_neg]
  rintro ⟨rfl, h⟩; exact h rfl
 have k1 := leastP_le hl ho (fixC_small h (O ++ [(w O.length : Int)])) w (fun i hi => (h1 i hi).congr (e i hi))
 rw [costW_congr e _ (Nat.le_refl _), h2, hn] at k1
 obtain ⟨w', h3, h4⟩ := leastP_ex hl ho (fixC_small h (O ++ [(w O.length : Int)])) k1.2
 have e' : ∀ i, i < t.length → fixC t O i (w' i) = fixC t (O ++ [(w O.length : Int)]) i (w' i) := fun i hi => by
  have := (h3 i hi).ok
  rw [fixC_snoc] at this ⊢
  split at this
  ·exact absurd this (by simp)
  ·rename_i h; rw [if_neg h]
 have k2 := leastP_le hl ho (fixC_small h O) w' (fun i hi => (h3 i hi).congr (e' i hi))
 rw [costW_congr e' _ (Nat.le_refl _), h4, hn] at k2
 omega
def firstP (P : Nat → Bool) : Nat := (List.range 31).findIdx P
theorem firstP_spec {P : Nat → Bool} (h : ∃ v : Nat, v < 31 ∧ P v = true) : firstP P < 31 ∧ P (firstP P) = true ∧ ∀ k, k < firstP P → P k = false := by
 obtain ⟨v, hv, e⟩ := h
 have hlt : firstP P < (List.range 31).length := List.findIdx_lt_length_of_exists ⟨v, List.mem_range.2 hv, e⟩
 refine ⟨by simpa using hlt, ?_, fun k hk => ?_⟩
 ·have := List.findIdx_getElem (w := hlt)
  have e2 : (List.range 31)[List.findIdx P (List.range 31)]'hlt = List.findIdx P (List.range 31) := List.getElem_range hlt
  have e3 : P ((List.range 31)[List.findIdx P (List.range 31)]'hlt) = true := this
  exact (congrArg P e2).symm.trans e3
 ·have := List.not_of_lt_findIdx hk
  simpa using this
def fixV (t : List Part) (n : Int) (O : List Int) : Nat := firstP fun v => decide (leastP t (fixC t (O ++ [((v : Nat) : Int)])) = n)
theorem fixV_spec {t : List Part} {n : Int} {O : List Int} (h : ∃ v : Nat, v < 31 ∧ leastP t (fixC t (O ++ [(v : Int)])) = n) : fixV t n O < 31 ∧ leastP t (fixC t (O ++ [(fixV t n O : Int)])) = n ∧ ∀ k : Nat, k < fixV t n O → leastP t (fixC t (O ++ [(k : Int)])) ≠ n := by
 obtain ⟨v, hv, e⟩ := h
 have := firstP_spec (P := fun v => decide (leastP t (fixC t (O ++ [((v : Nat) : Int)])) = n)) ⟨v, hv, decide_eq_true e⟩
 change fixV t n O < 31 ∧ decide (leastP t (fixC t (O ++ [((fixV t n O : Nat) : Int)])) = n) = true ∧ ∀ k, k < fixV t n O → decide (leastP t (fixC t (O ++ [((k : Nat) : Int)])) = n) = false at this
 exact ⟨this.1, of_decide_eq_true this.2.1, fun k hk => of_decide_eq_false (this.2.2 k hk)⟩
def fixAll (t : List Part) (n : Int) : List Int := (List.range t.length).foldl (fun O _ => O ++ [(fixV t n O : Int)]) []
set_option maxHeartbeats 1000000 in
theorem e_Fix_l0 (t : List Part) (h : tblOk t = true) (n : Int) (hn0 : leastP t (awayC t) = n) (hf : n < far) (s : Stk)  :
 Run T b39l0 [(4, .ptr s.length 64 0), (5, i64 n), (7, .ptr s.length 112 0), (18, i64 t.length), (19, i64 0)] ([(64, .cell [.sl .no 6 (es cPart t)]), (112, .cell [.asl s.length 114 1 0 0 0]), (114, .arr 1 [])] :: s) = some (.exit 0, [(4, .ptr s.length 64 0), (5, i64 n), (7, .ptr s.length 112 0), (18, i64 t.length), (19, i64 ((List.range t.length).length : Nat)), (20, .bool false)], [(64, .cell [.sl .no 6 (es cPart t)]), (112, .cell [.asl s.length 114 1 (((List.range t.length).foldl (fun O _ => O ++ [(fixV t n O : Int)]) ([] : List Int))).length 0 (((List.range t.length).foldl (fun O _ => O ++ [(fixV t n O : Int)]) ([] : List Int))).length]), (114, .arr 1 (es cInt ((List.range t.length).foldl (fun O _ => O ++ [(fixV t n O : Int)]) ([] : List Int))))] :: s) := by
 have key := loop_fold (T := T) (live := [4, 5, 7, 18, 19]) (keep := [64, 112, 114, 176]) (b := d39l0) (List.range t.length) (fun k O => O.length = k ∧ leastP t (fixC t O) = n) (fun O _ => O ++ [(fixV t n O : Int)]) (fun k (a : List Int) => [(4, .ptr s.length 64 0), (5, i64 n), (7, .ptr s.length 112 0), (18, i64 t.length), (19, i64 (k : Nat))]) (fun k (a : List Int) => [(64, .cell [.sl .no 6 (es cPart t)]), (112, .cell [.asl s.length 114 1 (a).length 0 (a).length]), (114, .arr 1 (es cInt a))] :: s) (fun (a : List Int) => (.exit 0, [(4, .ptr s.length 64 0), (5, i64 n), (7, .ptr s.length 112 0), (18, i64 t.length), (19, i64 ((List.range t.length).length : Nat)), (20, .bool false)], [(64, .cell [.sl .no 6 (es cPart t)]), (112, .cell [.asl s.length 114 1 (a).length 0 (a).length]), (114, .arr 1 (es cInt a))] :: s)) (by simp) ?_ ?_ ?_ ([] : List Int) (⟨rfl, by rw [fixC_nil]; exact hn0⟩) [(4, .ptr s.length 64 0), (5, i64 n), (7, .ptr s.length 112 0), (18, i64 t.length), (19, i64 0)] ([(64, .cell [.sl .no 6 (es cPart t)]), (112, .cell [.asl s.length 114 1 0 0 0]), (114, .arr 1 [])] :: s) (by simp) (by simp)
 ·exact key
 ·intro k a hk hi
  try simp only [List.length_range] at hk
  try simp only [List.getElem_range]
  have hl := tblOk_len h
  have hk2 : (k : Int) < t.length := by omega
  obtain ⟨v1, v2, v3⟩ := fixV_spec (fix_next h (O := a) (by omega) hi.2 hf)
  have hl1 := e_Fix_l1 t h a (by omega) n (fixV t n a) v1 v3 v2 t.length k s
  simp only [List.length_range] at hl1
  have q1 : (a.length + 1) * 8 ≤ 140737488355328 := by omega
  have q2 : a.length + 1 < 140737488355328 := by omega
  have q3 : es cInt a ++ [[i64 0]] = es cInt (a ++ [0]) := by simp [es]
  have hak := hi.1
  simp (maxSteps := 1000000) (disch := first | omega | assumption | decide +kernel | (simp; done) | (simp; omega) | fail) [hk2, hk, hl1, appA, effK, q1, q2, q3, wk k (by omega)]
 ·intro k a hk hi
  try simp only [List.length_range] at hk
  try simp only [List.getElem_range]
  have hl := tblOk_len h
  obtain ⟨v1, v2, v3⟩ := fixV_spec (fix_next h (O := a) (by omega) hi.2 hf)
  exact ⟨by simp [hi.1], v2⟩
 ·intro a hi
  simp
end Go.Proofs.Ytlcnoldkekcifaa

/-
  Cuts: Fix, the function.
-/
namespace Go.Proofs.Ytlcnoldkekcifaa
open Go.Ab
theorem changeR_ok {t : List Part} {is : Bool} (h : (changeR t is).2 = 0) : tblOk t = true ∧ is = true ∧ (changeR t is).1 = leastP t (awayC t) ∧ leastP t (awayC t) < far := by
 unfold changeR at h ⊢
 unfold askE at h ⊢
 cases h1 : tblOk t
 ·simp [h1] at h
 ·cases h2 : is
  ·simp [h1, h2] at h
  ·simp only [h1, h2, if_true] at h ⊢
   split at h
   ·simp at h
   ·rename_i h3; rw [if_neg h3]; exact ⟨trivial, trivial, rfl, by omega⟩
def fixR (t : List Part) : List Int × Int := if (changeR t true).2 = 0 then (fixAll t (changeR t true).1, 0) else ([], (changeR t true).2)
theorem fixAll_length (t : List Part) (n : Int) : (fixAll t n).length = t.length := by
 have : ∀ k, ((List.range k).foldl (fun O _ => O ++ [(fixV t n O : Int)]) []).length = k := by
  intro k
  induction k with
  | zero => rfl
  | succ k ih => rw [List.range_succ, List.foldl_append]; simp [ih]
 exact this _
set_option maxHeartbeats 1000000 in
@[simp] theorem e_Fix (t : List Part) (lab s) : den T 39 [.sl .no 6 (es cPart t)] lab s = some (.tup [.sl .no 1 (es cInt (fixR t).1), i64 (fixR t).2], s) := by
 unfold fixR
 rw [den_fn t39 _ _ _ rfl]
 simp only [b39]
 by_cases h0 : (changeR t true).2 = 0
 ·obtain ⟨h1, _, h2, h3⟩ := changeR_ok h0
  have hl := tblOk_len h1
  have hl0 := e_Fix_l0 t h1 (changeR t true).1 h2.symm (by rw [h2]; exact h3) s
  rw [show (List.range t.length).foldl (fun O _ => O ++ [(fixV t (changeR t true).1 O : Int)]) [] = fixAll t (changeR t true).1 from rfl] at hl0
  simp only [List.length_range, fixAll_length] at hl0
  have hlen := fixAll_length t (changeR t true).1
  have htake : (fixAll t (changeR t true).1).take t.length = fixAll t (changeR t true).1 := List.take_of_length_le (by omega)
  simp (maxSteps := 1000000) (disch := first | omega | assumption | decide +kernel | (simp; done) | (simp; omega) | fail) [h0, hl0, hlen, htake]
 ·simp (maxSteps := 1000000) (disch := first | omega | assumption | decide +kernel | (simp; done) | (simp; omega) | fail) [h0]
end Go.Proofs.Ytlcnoldkekcifaa

/-
  Cuts: the examples of the chapter.
-/
namespace Go.Proofs.Ytlcnoldkekcifaa
open Go.Ab
def sameL (a b : List Int) : Bool := decide (a.length = b.length) && allB (fun k => decide (a.getD k 0 = b.getD k 0)) (List.range a.length)
theorem sameL_eq (a b : List Int) : sameL a b = decide (a = b) := by
 rw [Bool.eq_iff_iff]
 simp only [sameL, Bool.and_eq_true, decide_eq_true_eq, allB, List.all_eq_true, List.mem_range]
 constructor
 ·rintro ⟨h1, h2⟩
  refine List.ext_getElem h1 fun k hk hk2 => ?_
  have := h2 k hk
  simpa [List.getD, hk, hk2] using this
 ·rintro rfl; exact ⟨rfl, fun _ _ => rfl⟩
theorem e_Same_l (a b : List Int) (ha : a.length < 4611686018427387904) (hb : b.length = a.length) (s : Stk) : Run T b31l0 [(0, .sl .no 1 (es cInt a)), (1, .sl .no 1 (es cInt b)), (5, i64 0)] ([] :: s) =
 if allB (fun k => decide (a.getD k 0 = b.getD k 0)) (List.range a.length) = true then some (.exit 0, [(0, .sl .no 1 (es cInt a)), (1, .sl .no 1 (es cInt b)), (5, i64 a.length), (14, .bool false)], [] :: s) else some (.ret, [(4, .bool false)], [] :: s) := by
 refine (loop_all (List.range a.length) (fun k => decide (a.getD k 0 = b.getD k 0)) (fun k => [(0, .sl .no 1 (es cInt a)), (1, .sl .no 1 (es cInt b)), (5, i64 k)]) (fun _ => [] :: s) (.ret, [(4, .bool false)], [] :: s) (.exit 0, [(0, .sl .no 1 (es cInt a)), (1, .sl .no 1 (es cInt b)), (5, i64 a.length), (14, .bool false)], [] :: s) (by simp) (by simp) ?_ (by simp) _ _ (by simp) (by simp)).trans rfl
 intro k hk
 have hk : k < a.length := by simpa using hk
 have hk2 : k < b.length := by omega
 rw [List.getElem_range]
 have e0 : a.getD k 0 = a[k] := by simp [List.getD, hk]
 have e1 : b.getD k 0 = b[k] := by simp [List.getD, hk2]
 rw [e0, e1]
 by_cases h : a[k] = b[k] <;> simp (maxSteps := 1000000) (disch := first | omega | assumption | decide +kernel | (simp; done) | (simp; omega) | fail) [hk, hk2, h, wk k (by omega)]
@[simp] theorem e_Same2 (a b : List Int) (ha : a.length < 4611686018427387904) (hb : b.length < 4611686018427387904) (lab s) : den T 31 [.sl .no 1 (es cInt a), .sl .no 1 (es cInt b)] lab s = some (.bool (decide (a = b)), s) := by
 rw [← sameL_eq]
 rw [den_fn t31 _ _ _ rfl]
 simp only [b31]
 by_cases h : a.length = b.length
 ·have hl := e_Same_l a b ha h.symm
  have h' : (a.length : Int) = b.length := by omega
  cases h2 : allB (fun k => decide (a.getD k 0 = b.getD k 0)) (List.range a.length)
  ·have e : sameL a b = false := by unfold sameL; rw [h2]; simp
   rw [e]
   simp only [h2] at hl
   simp (maxSteps := 1000000) (disch := first | omega | assumption | decide +kernel | (simp; done) | (simp; omega) | fail) [h', hl]
  ·have e : sameL a b = true := by unfold sameL; rw [h2]; simp [h]
   rw [e]
   simp only [h2] at hl
   simp (maxSteps := 1000000) (disch := first | omega | assumption | decide +kernel | (simp; done) | (simp; omega) | fail) [h', hl]
 ·have h' : ¬ (a.length : Int) = b.length := by omega
  simp (maxSteps := 1000000) (disch := first | omega | assumption | decide +kernel | (simp; done) | (simp; omega) | fail) [h, h', sameL]
@[simp] theorem e_part (a b c d e f : Int) (lab s) : den T 98 [i64 a, i64 b, i64 c, i64 d, i64 e, i64 f] lab s = some (.agg [i64 a, i64 b, i64 c, i64 d, i64 e, i64 f], s) := by
 rw [den_fn t98 _ _ _ rfl]
 simp only [b98]
 simp (maxSteps := 1000000) (disch := first | omega | assumption | decide +kernel | (simp; done) | (simp; omega) | fail) []
def exT : List Part := [⟨-1, ⟨20, 24⟩, ⟨1, 3⟩, 2⟩, ⟨0, ⟨8, 12⟩, ⟨0, 2⟩, 3⟩, ⟨0, ⟨9, 10⟩, ⟨0, 0⟩, 4⟩, ⟨1, ⟨6, 7⟩, ⟨0, 0⟩, 6⟩, ⟨1, ⟨0, 30⟩, ⟨0, 0⟩, 1⟩]
def exU : List Part := [⟨-1, ⟨20, 24⟩, ⟨1, 3⟩, 2⟩, ⟨0, ⟨0, 5⟩, ⟨0, 2⟩, 3⟩, ⟨0, ⟨9, 10⟩, ⟨0, 0⟩, 4⟩, ⟨1, ⟨6, 7⟩, ⟨0, 0⟩, 6⟩, ⟨1, ⟨0, 30⟩, ⟨0, 0⟩, 1⟩]
theorem e_Example (lab) (F : Ab.Loc) (s : Stk) (hF : Loc.get F lab = none) : den T 60 [] lab (F :: s) = some (.tup [.sl .full 6 (es cPart exT), .sl (.own s.length lab) 6 (es cPart exU)], Loc.put F lab (.tok 5) :: s) := by
 have he := elems_cPart exU
 simp only [exU, exT, es, List.map_cons, List.map_nil, cPart] at he ⊢
 rw [den_fn t60 _ _ _ rfl]
 simp only [b60]
 simp (maxSteps := 1000000) (disch := first | omega | assumption | decide +kernel | (simp; done) | (simp; omega) | fail) [appmK_sl, he, hF]
end Go.Proofs.Ytlcnoldkekcifaa

/-
  Cuts: what the examples come to.
-/
namespace Go.Proofs.Ytlcnoldkekcifaa
open Go.Ab
theorem leastP_is {t : List Part} {c : Nat → Nat → Int} {n : Int} (hn : t.length ≤ 8) (ho : OfOk t) (hc : ∀ i w, i < t.length → w < 31 → c i w < far → -M0 ≤ c i w ∧ c i w ≤ M0) (w : Nat → Nat)
 (hw : ∀ i, i < t.length → VAt t c w i) (hcost : costW t c w t.length = n) (hlow : ∀ w', (∀ i, i < t.length → VAt t c w' i) → n ≤ costW t c w' t.length) : leastP t c = n := by
 obtain ⟨h1, h2⟩ := leastP_le hn ho hc w hw
 obtain ⟨w', h3, h4⟩ := leastP_ex hn ho hc h2
 have := hlow w' h3
 omega
theorem exU_ok : tblOk exU = true := by decide +kernel
theorem exU_parts {c w} (h : ∀ i, i < 5 → VAt exU c w i) : (w 0 < 31 ∧ w 1 < 31 ∧ w 2 < 31 ∧ w 3 < 31 ∧ w 4 < 31) ∧ (w 1 + w 2 + 1 ≤ w 0 ∧ w 0 ≤ w 1 + w 2 + 3) ∧ (w 3 + w 4 ≤ w 1 ∧ w 1 ≤ w 3 + w 4 + 2) := by
 obtain ⟨l, h1, h2⟩ := (h 0 (by omega)).lost (by decide +kernel)
 obtain ⟨m, h3, h4⟩ := (h 1 (by omega)).lost (by decide +kernel)
 simp only [exU, List.length_cons, List.length_nil, piecesW, List.getD_cons_zero, List.getD_cons_succ, within, Bool.and_eq_true, decide_eq_true_eq, List.getD] at h1 h2 h3 h4
 simp at h1 h2 h3 h4
 exact ⟨⟨(h 0 (by omega)).lt, (h 1 (by omega)).lt, (h 2 (by omega)).lt, (h 3 (by omega)).lt, (h 4 (by omega)).lt⟩, by omega, by omega⟩
theorem exU_cost (c w) : costW exU c w 5 = 0 + c 4 (w 4) + c 3 (w 3) + c 2 (w 2) + c 1 (w 1) + c 0 (w 0) := by simp [costW, exU]
theorem exU_of {c : Nat → Nat → Int} {w : Nat → Nat} (h1 : w 0 < 31 ∧ w 1 < 31 ∧ w 2 < 31 ∧ w 3 < 31 ∧ w 4 < 31) (h2 : w 1 + w 2 + 1 ≤ w 0 ∧ w 0 ≤ w 1 + w 2 + 3) (h3 : w 3 + w 4 ≤ w 1 ∧ w 1 ≤ w 3 + w 4 + 2) (hc : c 0 (w 0) < far ∧ c 1 (w 1) < far ∧ c 2 (w 2) < far ∧ c 3 (w 3) < far ∧ c 4 (w 4) < far) :
 ∀ i, i < 5 → VAt exU c w i := by
 have k2 : canCut exU ((2 : Nat) : Int) = false := by decide +kernel
 have k3 : canCut exU ((3 : Nat) : Int) = false := by decide +kernel
 have k4 : canCut exU ((4 : Nat) : Int) = false := by decide +kernel
 intro i hi
 match i, hi with
 | 0, _ => exact ⟨h1.1, hc.1, fun _ => ⟨w 0 - (w 1 + w 2), by simp [exU, piecesW]; omega, by simp [exU, within]; omega⟩⟩
 | 1, _ => exact ⟨h1.2.1, hc.2.1, fun _ => ⟨w 1 - (w 3 + w 4), by simp [exU, piecesW]; omega, by simp [exU, within]; omega⟩⟩
 | 2, _ => exact ⟨h1.2.2.1, hc.2.2.1, fun h => by rw [k2] at h; cases h⟩
 | 3, _ => exact ⟨h1.2.2.2.1, hc.2.2.2.1, fun h => by rw [k3] at h; cases h⟩
 | 4, _ => exact ⟨h1.2.2.2.2, hc.2.2.2.2, fun h => by rw [k4] at h; cases h⟩
theorem exT_ok : tblOk exT = true := by decide +kernel
theorem exT_parts {c w} (h : ∀ i, i < 5 → VAt exT c w i) : (w 0 < 31 ∧ w 1 < 31 ∧ w 2 < 31 ∧ w 3 < 31 ∧ w 4 < 31) ∧ (w 1 + w 2 + 1 ≤ w 0 ∧ w 0 ≤ w 1 + w 2 + 3) ∧ (w 3 + w 4 ≤ w 1 ∧ w 1 ≤ w 3 + w 4 + 2) := by
 obtain ⟨l, h1, h2⟩ := (h 0 (by omega)).lost (by decide +kernel)
 obtain ⟨m, h3, h4⟩ := (h 1 (by omega)).lost (by decide +kernel)
 simp only [exT, List.length_cons, List.length_nil, piecesW, List.getD_cons_zero, List.getD_cons_succ, within, Bool.and_eq_true, decide_eq_true_eq, List.getD] at h1 h2 h3 h4
 simp at h1 h2 h3 h4
 exact ⟨⟨(h 0 (by omega)).lt, (h 1 (by omega)).lt, (h 2 (by omega)).lt, (h 3 (by omega)).lt, (h 4 (by omega)).lt⟩, by omega, by omega⟩
theorem exT_cost (c w) : costW exT c w 5 = 0 + c 4 (w 4) + c 3 (w 3) + c 2 (w 2) + c 1 (w 1) + c 0 (w 0) := by simp [costW, exT]
theorem exT_of {c : Nat → Nat → Int} {w : Nat → Nat} (h1 : w 0 < 31 ∧ w 1 < 31 ∧ w 2 < 31 ∧ w 3 < 31 ∧ w 4 < 31) (h2 : w 1 + w 2 + 1 ≤ w 0 ∧ w 0 ≤ w 1 + w 2 + 3) (h3 : w 3 + w 4 ≤ w 1 ∧ w 1 ≤ w 3 + w 4 + 2) (hc : c 0 (w 0) < far ∧ c 1 (w 1) < far ∧ c 2 (w 2) < far ∧ c 3 (w 3) < far ∧ c 4 (w 4) < far) :
 ∀ i, i < 5 → VAt exT c w i := by
 have k2 : canCut exT ((2 : Nat) : Int) = false := by decide +kernel
 have k3 : canCut exT ((3 : Nat) : Int) = false := by decide +kernel
 have k4 : canCut exT ((4 : Nat) : Int) = false := by decide +kernel
 intro i hi
 match i, hi with
 | 0, _ => exact ⟨h1.1, hc.1, fun _ => ⟨w 0 - (w 1 + w 2), by simp [exT, piecesW]; omega, by simp [exT, within]; omega⟩⟩
 | 1, _ => exact ⟨h1.2.1, hc.2.1, fun _ => ⟨w 1 - (w 3 + w 4), by simp [exT, piecesW]; omega, by simp [exT, within]; omega⟩⟩
 | 2, _ => exact ⟨h1.2.2.1, hc.2.2.1, fun h => by rw [k2] at h; cases h⟩
 | 3, _ => exact ⟨h1.2.2.2.1, hc.2.2.2.1, fun h => by rw [k3] at h; cases h⟩
 | 4, _ => exact ⟨h1.2.2.2.2, hc.2.2.2.2, fun h => by rw [k4] at h; cases h⟩
end Go.Proofs.Ytlcnoldkekcifaa

/-
  Cuts: Change and Fix of the example.
-/
namespace Go.Proofs.Ytlcnoldkekcifaa
open Go.Ab
theorem fixC_eq {t O i w} (h : fixC t O i w < far) : (i < O.length → (w : Int) = O.getD i 0) ∧ fixC t O i w = awayC t i w := by
 unfold fixC at *
 split at h
 ·exact absurd h (by simp)
 ·rename_i h1
  rw [if_neg h1]
  refine ⟨fun h2 => ?_, rfl⟩
  apply Classical.byContradiction
  intro h3; exact h1 ⟨h2, h3⟩
theorem exU_away (w : Nat) : awayC exU 0 w = max (max 0 (20 - (w : Int))) (w - 24) ∧ awayC exU 1 w = max (max 0 (0 - (w : Int))) (w - 5) ∧ awayC exU 2 w = max (max 0 (9 - (w : Int))) (w - 10) ∧ awayC exU 3 w = max (max 0 (6 - (w : Int))) (w - 7) ∧ awayC exU 4 w = max (max 0 (0 - (w : Int))) (w - 30) := ⟨rfl, rfl, rfl, rfl, rfl⟩
theorem fix_parts {O : List Int} {w : Nat → Nat} (h : ∀ i, i < 5 → VAt exU (fixC exU O) w i) : (∀ i, i < 5 → i < O.length → (w i : Int) = O.getD i 0) ∧
 costW exU (fixC exU O) w 5 = max (max 0 (0 - (w 4 : Int))) (w 4 - 30) + max (max 0 (6 - (w 3 : Int))) (w 3 - 7) + max (max 0 (9 - (w 2 : Int))) (w 2 - 10) + max (max 0 (0 - (w 1 : Int))) (w 1 - 5) + max (max 0 (20 - (w 0 : Int))) (w 0 - 24) := by
 refine ⟨fun i hi => (fixC_eq (h i hi).ok).1, ?_⟩
 rw [exU_cost, (fixC_eq (h 0 (by omega)).ok).2, (fixC_eq (h 1 (by omega)).ok).2, (fixC_eq (h 2 (by omega)).ok).2, (fixC_eq (h 3 (by omega)).ok).2, (fixC_eq (h 4 (by omega)).ok).2,
  (exU_away _).1, (exU_away _).2.1, (exU_away _).2.2.1, (exU_away _).2.2.2.1, (exU_away _).2.2.2.2]
 omega
def exW (i : Nat) : Nat := [19, 6, 10, 6, 0].getD i 0
theorem fix_two (O : List Int) (hc : fixC exU O 0 19 < far ∧ fixC exU O 1 6 < far ∧ fixC exU O 2 10 < far ∧ fixC exU O 3 6 < far ∧ fixC exU O 4 0 < far) : leastP exU (fixC exU O) = 2 := by
 have hw : ∀ i, i < 5 → VAt exU (fixC exU O) exW i := exU_of (by decide) (by decide) (by decide) hc
 refine leastP_is (by decide) (tblOk_of exU_ok) (fixC_small exU_ok O) exW hw ?_ fun w' h' => ?_
 ·exact (fix_parts hw).2
 ·have h1 := exU_parts h'
  have h2 := (fix_parts h').2
  change 2 ≤ costW exU (fixC exU O) w' 5
  rw [h2]
  omega
theorem firstP_is {P : Nat → Bool} {v : Nat} (hv : v < 31) (h1 : P v = true) (h2 : ∀ k, k < v → P k = false) : firstP P = v := by
 obtain ⟨k1, k2, k3⟩ := firstP_spec (P := P) ⟨v, hv, h1⟩
 rcases Nat.lt_trichotomy (firstP P) v with h | h | h
 ·rw [h2 _ h] at k2; cases k2
 ·exact h
 ·rw [k3 _ h] at h1; cases h1
theorem fixV_is {O : List Int} {v : Nat} (hv : v < 31) (h1 : leastP exU (fixC exU (O ++ [(v : Int)])) = 2) (h2 : ∀ k, k < v → leastP exU (fixC exU (O ++ [(k : Int)])) ≠ 2) : fixV exU 2 O = v :=
 firstP_is hv (decide_eq_true h1) fun k hk => decide_eq_false (h2 k hk)
theorem fix_not {O : List Int} (h : ∀ w : Nat → Nat, (∀ i, i < 5 → VAt exU (fixC exU O) w i) → costW exU (fixC exU O) w 5 ≠ 2) : leastP exU (fixC exU O) ≠ 2 := by
 intro e
 obtain ⟨w, h1, h2⟩ := leastP_ex (by decide) (tblOk_of exU_ok) (fixC_small exU_ok O) (by rw [e]; decide)
 exact h w h1 (h2.trans e)
theorem ex_fix0 : fixV exU 2 [] = 19 := by
 refine fixV_is (by decide) (fix_two _ (by decide +kernel)) fun k hk => fix_not fun w hw => ?_
 have h1 := exU_parts hw
 obtain ⟨h2, h3⟩ := fix_parts hw
 rw [h3]
 have g0 := h2 0 (by omega)
 have g1 := h2 1 (by omega)
 have g2 := h2 2 (by omega)
 have g3 := h2 3 (by omega)
 have g4 := h2 4 (by omega)
 simp at g0 g1 g2 g3 g4
 omega
theorem ex_fix1 : fixV exU 2 [19] = 6 := by
 refine fixV_is (by decide) (fix_two _ (by decide +kernel)) fun k hk => fix_not fun w hw => ?_
 have h1 := exU_parts hw
 obtain ⟨h2, h3⟩ := fix_parts hw
 rw [h3]
 have g0 := h2 0 (by omega)
 have g1 := h2 1 (by omega)
 have g2 := h2 2 (by omega)
 have g3 := h2 3 (by omega)
 have g4 := h2 4 (by omega)
 simp at g0 g1 g2 g3 g4
 omega
theorem ex_fix2 : fixV exU 2 [19, 6] = 10 := by
 refine fixV_is (by decide) (fix_two _ (by decide +kernel)) fun k hk => fix_not fun w hw => ?_
 have h1 := exU_parts hw
 obtain ⟨h2, h3⟩ := fix_parts hw
 rw [h3]
 have g0 := h2 0 (by omega)
 have g1 := h2 1 (by omega)
 have g2 := h2 2 (by omega)
 have g3 := h2 3 (by omega)
 have g4 := h2 4 (by omega)
 simp at g0 g1 g2 g3 g4
 omega
theorem ex_fix3 : fixV exU 2 [19, 6, 10] = 6 := by
 refine fixV_is (by decide) (fix_two _ (by decide +kernel)) fun k hk => fix_not fun w hw => ?_
 have h1 := exU_parts hw
 obtain ⟨h2, h3⟩ := fix_parts hw
 rw [h3]
 have g0 := h2 0 (by omega)
 have g1 := h2 1 (by omega)
 have g2 := h2 2 (by omega)
 have g3 := h2 3 (by omega)
 have g4 := h2 4 (by omega)
 simp at g0 g1 g2 g3 g4
 omega
theorem ex_fix4 : fixV exU 2 [19, 6, 10, 6] = 0 := by
 refine fixV_is (by decide) (fix_two _ (by decide +kernel)) fun k hk => fix_not fun w hw => ?_
 have h1 := exU_parts hw
 obtain ⟨h2, h3⟩ := fix_parts hw
 rw [h3]
 have g0 := h2 0 (by omega)
 have g1 := h2 1 (by omega)
 have g2 := h2 2 (by omega)
 have g3 := h2 3 (by omega)
 have g4 := h2 4 (by omega)
 simp at g0 g1 g2 g3 g4
 omega
theorem ex_change : changeR exU true = (2, 0) := by
 have h : leastP exU (awayC exU) = 2 := by rw [← fixC_nil]; exact fix_two _ (by decide +kernel)
 simp [changeR, askE, exU_ok, h, far]
theorem ex_fix : fixR exU = ([19, 6, 10, 6, 0], 0) := by
 have h : fixAll exU 2 = [19, 6, 10, 6, 0] := by
  have e : List.range exU.length = [0, 1, 2, 3, 4] := by decide
  unfold fixAll
  rw [e]
  simp only [List.foldl_cons, List.foldl_nil, List.nil_append, ex_fix0, List.cons_append]
  rw [show ((19 : Nat) : Int) = 19 from rfl, ex_fix1, show ((6 : Nat) : Int) = 6 from rfl, ex_fix2, show ((10 : Nat) : Int) = 10 from rfl, ex_fix3, show ((6 : Nat) : Int) = 6 from rfl, ex_fix4]
  rfl
 simp [fixR, ex_change, h]
end Go.Proofs.Ytlcnoldkekcifaa
