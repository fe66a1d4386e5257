/-
  Cuts: types, valid tables, parts with pieces.
-/
import Derived.Test.YtlcnoldkekcifaaPtab
import Derived.Test.YtlcnoldkekcifaaAb8
set_option linter.unusedSimpArgs false
set_option linter.unusedVariables false
namespace Go.Proofs.Ytlcnoldkekcifaa
open Go.Ab
@[simp] theorem denV_fn (f first cap args lab s) : denV T (.fn f first cap) args lab s = den T f (first ++ args ++ cap) lab s := rfl
@[simp] theorem map_cInt (r : Ren) (l) : (es cInt l).map (V.mapAll r) = es cInt l := es_map _ _ (fun _ => by simp) _
@[simp] theorem strip_cInt (l) : (es cInt l).map V.stripAll = es cInt l := es_strip _ (fun _ => by simp) _
@[simp] theorem refs_cInt (own : Bool) (d : Nat) (l) : (es cInt l).flatMap (V.refsAll own d) = [] := es_refs _ _ _ (fun _ => by simp) _
@[simp] theorem elems_cInt (l) : elemsOk (es cInt l) 1 = true := elemsOk_es _ _ (fun _ => by simp) _
@[simp] theorem map_cSp (r : Ren) (l) : (es cSp l).map (V.mapAll r) = es cSp l := es_map _ _ (fun _ => by simp) _
@[simp] theorem strip_cSp (l) : (es cSp l).map V.stripAll = es cSp l := es_strip _ (fun _ => by simp) _
@[simp] theorem refs_cSp (own : Bool) (d : Nat) (l) : (es cSp l).flatMap (V.refsAll own d) = [] := es_refs _ _ _ (fun _ => by simp) _
@[simp] theorem elems_cSp (l) : elemsOk (es cSp l) 2 = true := elemsOk_es _ _ (fun _ => by simp) _
structure Part where
 of : Int
 weight : Sp
 waste : Sp
 pence : Int
 deriving DecidableEq, Inhabited
@[simp] def cPart (p : Part) : List V := [i64 p.of, i64 p.weight.lo, i64 p.weight.hi, i64 p.waste.lo, i64 p.waste.hi, i64 p.pence]
@[simp] theorem map_cPart (r : Ren) (l) : (es cPart l).map (V.mapAll r) = es cPart l := es_map _ _ (fun _ => by simp) _
@[simp] theorem strip_cPart (l) : (es cPart l).map V.stripAll = es cPart l := es_strip _ (fun _ => by simp) _
@[simp] theorem refs_cPart (own : Bool) (d : Nat) (l) : (es cPart l).flatMap (V.refsAll own d) = [] := es_refs _ _ _ (fun _ => by simp) _
@[simp] theorem elems_cPart (l) : elemsOk (es cPart l) 6 = true := elemsOk_es _ _ (fun _ => by simp) _
@[simp] theorem Part.eta (p : Part) : Part.mk p.of p.weight p.waste p.pence = p := rfl
def within (n lo hi : Int) : Bool := decide (lo ≤ n) && decide (n ≤ hi)
@[simp] theorem e_Within (n lo hi : Int) (lab s) : den T 43 [i64 n, i64 lo, i64 hi] lab s = some (.bool (within n lo hi), s) := by
 rw [den_fn t43 _ _ _ rfl]
 simp only [b43]
 by_cases h : lo ≤ n <;> simp [h, within]
@[simp] theorem e_within07 (n lo hi : Int) (lab s) : den T 59 [i64 n, i64 lo, i64 hi] lab s = some (.bool (within n lo hi), s) := by
 rw [den_fn t59 _ _ _ rfl]
 simp [b59]
@[simp] theorem e_withinC (n lo hi : Int) (lab s) : den T 94 [i64 n, i64 lo, i64 hi] lab s = some (.bool (within n lo hi), s) := by
 rw [den_fn t94 _ _ _ rfl]
 simp only [b94]
 by_cases h : lo ≤ n <;> simp [h, within]
def spanOk (s : Sp) : Bool := within s.hi 0 30 && within s.lo 0 s.hi
@[simp] theorem e_isSpan07 (x0 : Int) (x1 : Int) (lab s) : den T 97 [.agg [i64 x0, i64 x1]] lab s = some (.bool (spanOk (⟨x0, x1⟩ : Sp)), s) := by
 rw [den_fn t97 _ _ _ rfl]
 simp only [b97]
 cases h : within x1 0 30 <;> simp [h, spanOk]
theorem spanOk_alt (s : Sp) : spanOk s = (within s.lo 0 s.hi && decide (s.hi ≤ 30)) := by
 rw [Bool.eq_iff_iff]; simp only [spanOk, within, Bool.and_eq_true, decide_eq_true_eq]; omega
@[simp] theorem e_isSpanC (x0 : Int) (x1 : Int) (lab s) : den T 118 [.agg [i64 x0, i64 x1]] lab s = some (.bool (spanOk (⟨x0, x1⟩ : Sp)), s) := by
 rw [den_fn t118 _ _ _ rfl]
 simp only [b118]
 rw [spanOk_alt]
 cases h : within x0 0 x1 <;> simp [h]
def partOk (p : Part) (i : Nat) : Bool := within p.of (-1) ((i : Int) - 1) && spanOk p.weight && spanOk p.waste && within p.pence 0 99
def partsOk (t : List Part) : Bool := allB (fun x : Part × Nat => partOk x.1 x.2) t.zipIdx
def tblOk (t : List Part) : Bool := decide (t.length ≤ 8) && partsOk t
theorem e_Check07_l (t : List Part) (s : Stk) (hl : t.length ≤ 8) : ∃ g : Ab.Loc, Run T b58l0 [(0, .sl .no 6 (es cPart t)), (3, i64 0)] ([] :: s) =
 if partsOk t = true then some (.exit 0, [(0, .sl .no 6 (es cPart t)), (3, i64 t.length), (11, .bool false)], [] :: s) else some (.ret, [(2, i64 70)], g :: s) := by
 refine loop_all_g t.zipIdx (fun x : Part × Nat => partOk x.1 x.2) (fun k => [(0, .sl .no 6 (es cPart t)), (3, i64 k)]) (fun _ => [] :: s) (fun g : Ab.Loc => (.ret, [(2, i64 70)], g :: s)) _ (by simp) (by simp) ?_ (by simp) _ _ (by simp) (by simp)
 intro k hk
 have hk' : k < t.length := by simpa using hk
 simp only [List.getElem_zipIdx, Nat.zero_add]
 have e1 : IntKind.i64.wrap ((k : Int) - 1) = (k : Int) - 1 := wi _ (by omega) (by omega)
 refine ⟨[(64, .cell (cPart t[k]))], ?_⟩
 cases h0 : within t[k].of (-1) ((k : Int) - 1)
 ·simp (disch := first | omega | assumption | decide +kernel | (simp; done) | (simp; omega) | fail) [hk', h0, e1, wk k (by omega), partOk]
 cases h1 : spanOk t[k].weight
 ·simp (disch := first | omega | assumption | decide +kernel | (simp; done) | (simp; omega) | fail) [hk', h0, h1, e1, wk k (by omega), partOk]
 cases h2 : spanOk t[k].waste
 ·simp (disch := first | omega | assumption | decide +kernel | (simp; done) | (simp; omega) | fail) [hk', h0, h1, h2, e1, wk k (by omega), partOk]
 cases h3 : within t[k].pence 0 99 <;> simp (disch := first | omega | assumption | decide +kernel | (simp; done) | (simp; omega) | fail) [hk', h0, h1, h2, h3, e1, wk k (by omega), partOk]
@[simp] theorem e_Check07 (t : List Part) (lab s) : den T 58 [.sl .no 6 (es cPart t)] lab s = some (i64 (if tblOk t = true then 0 else 70), s) := by
 rw [den_fn t58 _ _ _ rfl]
 simp only [b58]
 by_cases h : t.length ≤ 8
 ·obtain ⟨g, hg⟩ := e_Check07_l t s h
  have h' : ¬ (8 : Int) < t.length := by omega
  cases h2 : partsOk t <;> simp (disch := first | omega | assumption | decide +kernel | (simp; done) | (simp; omega) | fail) [h, h', h2, hg, tblOk]
 ·have h' : (8 : Int) < t.length := by omega
  simp (disch := first | omega | assumption | decide +kernel | (simp; done) | (simp; omega) | fail) [h, h', tblOk]
theorem e_CheckC_l (t : List Part) (s : Stk) (hl : t.length ≤ 8) : ∃ g : Ab.Loc, Run T b102l0 [(8, .sl .no 6 (es cPart t)), (9, i64 t.length), (10, i64 0)] ([] :: s) =
 if partsOk t = true then some (.exit 0, [(8, .sl .no 6 (es cPart t)), (9, i64 t.length), (10, i64 t.length), (11, .bool false)], [] :: s) else some (.ret, [(2, i64 70)], g :: s) := by
 refine loop_all_g t.zipIdx (fun x : Part × Nat => partOk x.1 x.2) (fun k => [(8, .sl .no 6 (es cPart t)), (9, i64 t.length), (10, i64 k)]) (fun _ => [] :: s) (fun g : Ab.Loc => (.ret, [(2, i64 70)], g :: s)) _ (by simp) (by simp) ?_ (by simp) _ _ (by simp) (by simp)
 intro k hk
 have hk' : k < t.length := by simpa using hk
 simp only [List.getElem_zipIdx, Nat.zero_add]
 have e1 : IntKind.i64.wrap ((k : Int) - 1) = (k : Int) - 1 := wi _ (by omega) (by omega)
 refine ⟨[(64, .cell (cPart t[k]))], ?_⟩
 cases h0 : within t[k].of (-1) ((k : Int) - 1)
 ·simp (disch := first | omega | assumption | decide +kernel | (simp; done) | (simp; omega) | fail) [hk', h0, e1, wk k (by omega), partOk]
 cases h1 : spanOk t[k].weight
 ·simp (disch := first | omega | assumption | decide +kernel | (simp; done) | (simp; omega) | fail) [hk', h0, h1, e1, wk k (by omega), partOk]
 cases h2 : spanOk t[k].waste
 ·simp (disch := first | omega | assumption | decide +kernel | (simp; done) | (simp; omega) | fail) [hk', h0, h1, h2, e1, wk k (by omega), partOk]
 cases h3 : within t[k].pence 0 99 <;> simp (disch := first | omega | assumption | decide +kernel | (simp; done) | (simp; omega) | fail) [hk', h0, h1, h2, h3, e1, wk k (by omega), partOk]
@[simp] theorem e_CheckC (t : List Part) (lab s) : den T 102 [.sl .no 6 (es cPart t)] lab s = some (i64 (if tblOk t = true then 0 else 70), s) := by
 rw [den_fn t102 _ _ _ rfl]
 simp only [b102]
 by_cases h : t.length ≤ 8
 ·obtain ⟨g, hg⟩ := e_CheckC_l t s h
  have h' : ¬ (8 : Int) < t.length := by omega
  cases h2 : partsOk t <;> simp (disch := first | omega | assumption | decide +kernel | (simp; done) | (simp; omega) | fail) [h, h', h2, hg, tblOk]
 ·have h' : (8 : Int) < t.length := by omega
  simp (disch := first | omega | assumption | decide +kernel | (simp; done) | (simp; omega) | fail) [h, h', tblOk]
def askE (t : List Part) (is : Bool) : Int := if tblOk t = true then (if is = true then 0 else 1) else 70
@[simp] theorem e_ask07 (t : List Part) (is : Bool) (lab s) : den T 110 [.sl .no 6 (es cPart t), .bool is] lab s = some (i64 (askE t is), s) := by
 rw [den_fn t110 _ _ _ rfl]
 simp only [b110]
 cases h : tblOk t <;> cases is <;> simp (disch := first | omega | assumption | decide +kernel | (simp; done) | (simp; omega) | fail) [h, askE]
@[simp] theorem e_askC (t : List Part) (is : Bool) (lab s) : den T 67 [.sl .no 6 (es cPart t), .bool is] lab s = some (i64 (askE t is), s) := by
 rw [den_fn t67 _ _ _ rfl]
 simp only [b67]
 cases h : tblOk t <;> cases is <;> simp (disch := first | omega | assumption | decide +kernel | (simp; done) | (simp; omega) | fail) [h, askE]
def isPart (t : List Part) (n : Int) : Bool := within n 0 ((t.length : Int) - 1)
@[simp] theorem e_isPart07 (t : List Part) (n : Int) (hl : t.length < 4611686018427387904) (lab s) : den T 16 [.sl .no 6 (es cPart t), i64 n] lab s = some (.bool (isPart t n), s) := by
 rw [den_fn t16 _ _ _ rfl]
 simp only [b16]
 have e1 : IntKind.i64.wrap ((t.length : Int) - 1) = (t.length : Int) - 1 := wi _ (by omega) (by omega)
 simp (disch := first | omega | assumption | decide +kernel | (simp; done) | (simp; omega) | fail) [e1, isPart]
@[simp] theorem e_isPartC (t : List Part) (n : Int) (hl : t.length < 4611686018427387904) (lab s) : den T 62 [.sl .no 6 (es cPart t), i64 n] lab s = some (.bool (isPart t n), s) := by
 rw [den_fn t62 _ _ _ rfl]
 simp only [b62]
 have e1 : IntKind.i64.wrap ((t.length : Int) - 1) = (t.length : Int) - 1 := wi _ (by omega) (by omega)
 simp (disch := first | omega | assumption | decide +kernel | (simp; done) | (simp; omega) | fail) [e1, isPart]
def canCut (t : List Part) (n : Int) : Bool := anyB (fun p => decide (p.of = n)) t
theorem e_CanCut_l (t : List Part) (n : Int) (s : Stk) (hl : t.length < 4611686018427387904) :
 Run T b55l0 [(0, .sl .no 6 (es cPart t)), (1, i64 n), (5, i64 0)] ([] :: s) = if anyB (fun p => decide (p.of = n)) t = true then some (.ret, [(4, .bool true)], [] :: s) else some (.exit 0, [(0, .sl .no 6 (es cPart t)), (1, i64 n), (5, i64 t.length), (9, .bool false)], [] :: s) := by
 refine loop_any t (fun p => decide (p.of = n)) (fun k => [(0, .sl .no 6 (es cPart t)), (1, i64 n), (5, i64 k)]) (fun _ => [] :: s) _ _ (by simp) (by simp) ?_ (by simp) _ _ (by simp) (by simp)
 intro k hk
 by_cases h : t[k].of = n <;> simp [hk, h, wk k (by omega)]
@[simp] theorem e_CanCut (t : List Part) (n : Int) (hl : t.length < 4611686018427387904) (lab s) : den T 55 [.sl .no 6 (es cPart t), i64 n] lab s = some (.bool (canCut t n), s) := by
 rw [den_fn t55 _ _ _ rfl]
 simp only [b55]
 rw [canCut]
 cases hx : anyB (fun p => decide (p.of = n)) t <;> simp [e_CanCut_l, hl, hx]
@[simp] theorem e_canCut1 (p0 : Int) (p1 : Int) (p2 : Int) (p3 : Int) (p4 : Int) (p5 : Int) (n : Int) (d l : Nat) (lab) (s : Stk) (h : sget s d l = some (.cell [i64 n])) (hd : ¬ d = s.length) : den T 114 [.agg [i64 p0, i64 p1, i64 p2, i64 p3, i64 p4, i64 p5], .ptr d l 0] lab s = some (.bool (decide (p0 = n)), s) := by
 rw [den_fn t114 _ _ _ rfl]
 simp only [b114]
 simp (disch := first | omega | assumption | decide +kernel | (simp; done) | (simp; omega) | fail) [h, hd]
theorem e_IndexFunc_l (t : List Part) (n : Int) (d l : Nat) (s : Stk) (h : sget s d l = some (.cell [i64 n])) (hd : d < s.length) (hl : t.length < 4611686018427387904) :
 ∃ g : Nat, Run T b124l0 [(0, .sl .no 6 (es cPart t)), (1, .fn 114 [] [.ptr d l 0]), (7, i64 t.length), (8, i64 0)] ([] :: s) =
  if allB (fun p => !decide (p.of = n)) t = true then some (.exit 0, [(0, .sl .no 6 (es cPart t)), (1, .fn 114 [] [.ptr d l 0]), (7, i64 t.length), (8, i64 t.length), (9, .bool false)], [] :: s) else some (.ret, [(4, i64 (g : Nat))], [] :: s) := by
 have hd2 : ¬ d = s.length := by omega
 have hd3 : ¬ d = s.length + 1 := by omega
 have hc : ∀ (x0 : Int) (x1 : Int) (x2 : Int) (x3 : Int) (x4 : Int) (x5 : Int) lab, den T 114 [.agg [i64 x0, i64 x1, i64 x2, i64 x3, i64 x4, i64 x5], .ptr d l 0] lab ([] :: s) = some (.bool (decide (x0 = n)), [] :: s) := fun x0 x1 x2 x3 x4 x5 lab => e_canCut1 x0 x1 x2 x3 x4 x5 n d l lab ([] :: s) (by simp [hd2, h]) (by simp; omega)
 refine loop_all_g t (fun p => !decide (p.of = n)) (fun k => [(0, .sl .no 6 (es cPart t)), (1, .fn 114 [] [.ptr d l 0]), (7, i64 t.length), (8, i64 k)]) (fun _ => [] :: s) (fun g : Nat => (.ret, [(4, i64 (g : Nat))], [] :: s)) _ (by simp) (by simp [hd2]) ?_ (by simp) _ _ (by simp [hd2]) (by simp)
 intro k hk
 refine ⟨k, ?_⟩
 by_cases h2 : t[k].of = n
 ·simp (disch := first | omega | assumption | decide +kernel | (simp; done) | (simp; omega) | fail) [hk, hc, h2, hd2, hd3, wk k (by omega)]
 ·simp (disch := first | omega | assumption | decide +kernel | (simp; done) | (simp; omega) | fail) [hk, hc, h2, hd2, hd3, wk k (by omega)]
@[simp] theorem e_canCut (t : List Part) (n : Int) (hl : t.length < 4611686018427387904) (lab s) : den T 95 [.sl .no 6 (es cPart t), i64 n] lab s = some (.bool (canCut t n), s) := by
 have ha : canCut t n = !allB (fun p => !decide (p.of = n)) t := by simp only [canCut, anyB, allB, List.not_all_eq_any_not, Bool.not_not]
 have hi : ∀ s0 : Stk, ∀ d l : Nat, sget s0 d l = some (.cell [i64 n]) → d < s0.length → ∃ r : Int, (∀ lab, den T 124 [.sl .no 6 (es cPart t), .fn 114 [] [.ptr d l 0]] lab s0 = some (i64 r, s0)) ∧ (0 ≤ r ↔ canCut t n = true) := by
  intro s0 d l h hd
  obtain ⟨g, hg⟩ := e_IndexFunc_l t n d l s0 h hd hl
  have hd2 : ¬ d = s0.length := by omega
  rw [ha]
  refine ⟨if allB (fun p => !decide (p.of = n)) t = true then -1 else g, ?_, ?_⟩
  rotate_left
  ·cases allB (fun p => !decide (p.of = n)) t <;> simp
  intro lab
  rw [den_fn t124 _ _ _ rfl]
  simp only [b124]
  cases h : allB (fun p => !decide (p.of = n)) t <;> simp (disch := first | omega | assumption | decide +kernel | (simp; done) | (simp; omega) | fail) [hg, h, hd2]
 obtain ⟨r, hr, hi⟩ := hi ([] :: [(48, .cell [i64 n])] :: s) s.length 48 (by simp) (by simp; omega)
 rw [den_fn t95 _ _ _ rfl]
 simp only [b95]
 have hc : ∀ lab, den T 113 [.sl .no 6 (es cPart t), .fn 114 [] [.ptr s.length 48 0]] lab ([(48, .cell [i64 n])] :: s) = some (.bool (canCut t n), [(48, .cell [i64 n])] :: s) := by
  intro lab
  rw [den_fn t113 _ _ _ rfl]
  simp only [b113]
  by_cases h : 0 ≤ r
  ·simp (disch := first | omega | assumption | decide +kernel | (simp; done) | (simp; omega) | fail) [hr, h, hi.1 h]
  ·have : canCut t n = false := by cases hx : canCut t n; rfl; exact absurd (hi.2 hx) h
   simp (disch := first | omega | assumption | decide +kernel | (simp; done) | (simp; omega) | fail) [hr, h, this]
 simp (disch := first | omega | assumption | decide +kernel | (simp; done) | (simp; omega) | fail) [hc]
end Go.Proofs.Ytlcnoldkekcifaa

/-
  Cuts: rows of costs.
-/
namespace Go.Proofs.Ytlcnoldkekcifaa
open Go.Ab
def far : Int := 1099511627776
def rowV (l : List Int) : List V := l.map fun x => .int .i64 x
@[simp] theorem rowV_length (l : List Int) : (rowV l).length = l.length := by simp [rowV]
@[simp] theorem rowV_get (l : List Int) (k : Nat) : (rowV l)[k]? = l[k]?.map fun x => .int .i64 x := by simp [rowV]
@[simp] theorem rowV_getElem (l : List Int) (k : Nat) (h : k < (rowV l).length) : (rowV l)[k] = .int .i64 (l[k]'(by simpa using h)) := by simp [rowV]
@[simp] theorem rowV_set (l : List Int) (k : Nat) (x : Int) : (rowV l).set k (.int .i64 x) = rowV (l.set k x) := by simp [rowV, List.map_set]
@[simp] theorem rowV_map (r : Ren) (l : List Int) : V.mapAll r (rowV l) = rowV l := by
 induction l with
 | nil => rfl
 | cons x l ih => simp only [rowV, List.map_cons, V.mapAll, V.map] at ih ⊢; rw [ih]
@[simp] theorem rowV_strip (l : List Int) : V.stripAll (rowV l) = rowV l := by
 induction l with
 | nil => rfl
 | cons x l ih => simp only [rowV, List.map_cons, V.stripAll, V.strip] at ih ⊢; rw [ih]
@[simp] theorem rowV_pure (l : List Int) : V.pureAll (rowV l) = true := by
 induction l with
 | nil => rfl
 | cons x l ih => simp only [rowV, List.map_cons, V.pureAll, V.pure, Bool.true_and] at ih ⊢; exact ih
@[simp] theorem rowV_one (l : List Int) : V.oneAll (rowV l) = true := by
 induction l with
 | nil => rfl
 | cons x l ih => simp only [rowV, List.map_cons, V.oneAll, V.one, Bool.true_and] at ih ⊢; exact ih
@[simp] theorem rowV_elem (l : List Int) : V.elemAll (rowV l) = true := by
 induction l with
 | nil => rfl
 | cons x l ih => simp only [rowV, List.map_cons, V.elemAll, V.pure, V.one, Bool.true_and] at ih ⊢; exact ih
@[simp] theorem rowV_refs (own : Bool) (d : Nat) (l : List Int) : V.refsAll own d (rowV l) = [] := by
 induction l with
 | nil => rfl
 | cons x l ih => simp only [rowV, List.map_cons, V.refsAll, V.refs, List.nil_append] at ih ⊢; exact ih
@[simp] theorem rowV_down (d : Nat) (l : List Int) : V.downAll d (rowV l) = some (rowV l) := by
 induction l with
 | nil => rfl
 | cons x l ih => simp only [rowV, List.map_cons, V.downAll, V.down] at ih ⊢; rw [ih]
theorem rowV_take (l : List Int) (h : l.length = 31) : (rowV l).take 31 = rowV l := List.take_of_length_le (by simp [h])
theorem setAll_row (cs : List V) (l : List Int) (h : cs.length = l.length) : setAll cs 0 (rowV l) = rowV l := by
 rw [setAll_eq _ _ _ (by simp [h])]
 simp [h]
def zeroR : List Int := List.replicate 31 0
@[simp] theorem zeroR_length : zeroR.length = 31 := by decide +kernel
@[simp] theorem zeros31 : ([i64 0, i64 0, i64 0, i64 0, i64 0, i64 0, i64 0, i64 0, i64 0, i64 0, i64 0, i64 0, i64 0, i64 0, i64 0, i64 0, i64 0, i64 0, i64 0, i64 0, i64 0, i64 0, i64 0, i64 0, i64 0, i64 0, i64 0, i64 0, i64 0, i64 0, i64 0] : List V) = rowV zeroR := rfl
@[simp] theorem agg_cells (cs : List V) : V.cells (.agg cs) = cs := rfl
theorem fold_set {α : Type} (n : Nat) (h : Nat → α → α) (r0 : List α) (d : α) (hr : n ≤ r0.length) : (List.range n).foldl (fun r w => r.set w (h w (r.getD w d))) r0 = (List.range n).map (fun w => h w (r0.getD w d)) ++ r0.drop n := by
 induction n with
 | zero => simp
 | succ n ih =>
   rw [List.range_succ, List.foldl_append, ih (by omega)]
   simp only [List.foldl_cons, List.foldl_nil]
   have hl : ∀ f : Nat → α, ((List.range n).map f).length = n := fun f => by simp
   have hd : r0.drop n = r0.getD n d :: r0.drop (n + 1) := by
    rw [List.drop_eq_getElem_cons (by omega)]
    simp [List.getD, List.getElem?_eq_getElem (show n < r0.length by omega)]
   have hg : (((List.range n).map fun w => h w (r0.getD w d)) ++ r0.drop n).getD n d = r0.getD n d := by
    simp only [List.getD]
    rw [List.getElem?_append_right (by rw [hl]; omega), hl, Nat.sub_self, hd]
    simp
   rw [hg, List.set_append_right _ _ (by rw [hl]; omega), hl, Nat.sub_self, hd, List.set_cons_zero]
   simp
def farR : List Int := List.replicate 31 far
@[simp] theorem farR_length : farR.length = 31 := by decide +kernel
def nothingR : List Int := 0 :: List.replicate 30 far
theorem e_nothing_l  (s : Stk)  :
 Run T b107l0 [(0, .ptr s.length 0 0), (2, i64 0)] ([(0, .cell (rowV zeroR))] :: s) = some (.exit 0, [(0, .ptr s.length 0 0), (2, i64 ((List.range 31).length : Nat)), (3, .bool false)], [(0, .cell (rowV ((List.range 31).foldl (fun r (k : Nat) => r.set k far) zeroR)))] :: s) := by
 have key := loop_fold (T := T) (live := [0, 2]) (keep := [0]) (b := d107l0) (List.range 31) (fun _ r => r.length = 31) (fun r (k : Nat) => r.set k far) (fun k (a : List Int) => [(0, .ptr s.length 0 0), (2, i64 (k : Nat))]) (fun k (a : List Int) => [(0, .cell (rowV a))] :: s) (fun (a : List Int) => (.exit 0, [(0, .ptr s.length 0 0), (2, i64 ((List.range 31).length : Nat)), (3, .bool false)], [(0, .cell (rowV a))] :: s)) (by simp) ?_ ?_ ?_ zeroR (by simp) [(0, .ptr s.length 0 0), (2, i64 0)] ([(0, .cell (rowV zeroR))] :: s) (by simp) (by simp)
 ·exact key
 ·intro k a hk hi
  try simp only [List.length_range] at hk
  try simp only [List.getElem_range]
  have hk2 : (k : Int) < 31 := by omega
  have hk3 : ¬ 30 < k := by omega
  simp (disch := first | omega | assumption | decide +kernel | (simp; done) | (simp; omega) | fail) [hk, hk2, hk3, hi, far, wk k (by omega)]
 ·intro k a hk hi
  try simp only [List.length_range] at hk
  try simp only [List.getElem_range]
  simp [hi]
 ·intro a hi
  simp
theorem nothing_fold : (List.range 31).foldl (fun r (k : Nat) => r.set k far) zeroR = farR := by decide +kernel
@[simp] theorem e_nothing (lab s) : den T 107 [] lab s = some (.agg (rowV nothingR), s) := by
 rw [den_fn t107 _ _ _ rfl]
 simp only [b107]
 have h := e_nothing_l s
 rw [nothing_fold] at h
 simp only [List.length_range] at h
 have h2 : farR.set 0 0 = nothingR := by decide +kernel
 have h3 : nothingR.length = 31 := by decide +kernel
 simp (disch := first | omega | assumption | decide +kernel | (simp; done) | (simp; omega) | fail) [h, h2, h3, rowV_take, setAll_row]
end Go.Proofs.Ytlcnoldkekcifaa

/-
  Cuts: rows together; the least of a row.
-/
namespace Go.Proofs.Ytlcnoldkekcifaa
open Go.Ab
def plus1 (c d : List Int) (v : Nat) (out : List Int) (w : Nat) : List Int := if c.getD v 0 < far ∧ d.getD w 0 < far then out.set (v + w) (min (out.getD (v + w) 0) (c.getD v 0 + d.getD w 0)) else out
def plusRow (c d : List Int) (out : List Int) (v : Nat) : List Int := (List.range (31 - v)).foldl (plus1 c d v) out
def plusR (c d : List Int) : List Int := (List.range 31).foldl (plusRow c d) farR
@[simp] theorem plus1_length (c d v out w) : (plus1 c d v out w).length = out.length := by unfold plus1; split <;> simp
theorem foldl_length {α : Type} (f : List Int → α → List Int) (h : ∀ r x, (f r x).length = r.length) : ∀ (l : List α) (r : List Int), (l.foldl f r).length = r.length
 | [], r => rfl
 | x :: l, r => by rw [List.foldl_cons, foldl_length f h l, h]
@[simp] theorem plusRow_length (c d out v) : (plusRow c d out v).length = out.length := foldl_length _ (fun r x => plus1_length c d v r x) _ _
@[simp] theorem plusR_length (c d) : (plusR c d).length = 31 := (foldl_length _ (fun r x => plusRow_length c d r x) _ _).trans farR_length
structure Row (c : List Int) : Prop where
 len : c.length = 31
 lo : ∀ k, k < 31 → -far ≤ c.getD k 0
 hi : ∀ k, k < 31 → c.getD k 0 ≤ far
theorem at' {c : List Int} (k : Nat) (hk : k < c.length) : ∀ h, c[k]'h = c.getD k 0 := fun h => by simp [List.getD, List.getElem?_eq_getElem hk]
theorem Row.at {c : List Int} (h : Row c) (k : Nat) (hk : k < 31) : c[k]? = some (c.getD k 0) := by
 have := h.len
 simp [List.getD, List.getElem?_eq_getElem (show k < c.length by omega)]
set_option maxHeartbeats 1000000 in
theorem e_plus_l1 (c d : List Int) (hc : Row c) (hd : Row d) (out : List Int) (ho : out.length = 31) (v : Nat) (hv : v < 31) (s : Stk)  :
 Run T b108l1 [(2, .ptr s.length 32 0), (3, .ptr s.length 48 0), (4, .ptr s.length 64 0), (5, .ptr s.length 80 0), (6, i64 v), (10, i64 v), (16, i64 ((31 - v : Nat) : Int)), (17, i64 0)] ([(32, .cell (rowV c)), (48, .cell (rowV d)), (64, .cell (rowV zeroR)), (80, .cell (rowV out))] :: s) = some (.exit 2, [(2, .ptr s.length 32 0), (3, .ptr s.length 48 0), (4, .ptr s.length 64 0), (5, .ptr s.length 80 0), (6, i64 v), (10, i64 v), (16, i64 ((31 - v : Nat) : Int)), (17, i64 ((List.range (31 - v)).length : Nat)), (18, .bool false)], [(32, .cell (rowV c)), (48, .cell (rowV d)), (64, .cell (rowV zeroR)), (80, .cell (rowV ((List.range (31 - v)).foldl (plus1 c d v) out)))] :: s) := by
 have key := loop_fold (T := T) (live := [2, 3, 4, 5, 6, 10, 16, 17]) (keep := [32, 48, 64, 80, 128]) (b := d108l1) (List.range (31 - v)) (fun _ r => r.length = 31) (plus1 c d v) (fun k (a : List Int) => [(2, .ptr s.length 32 0), (3, .ptr s.length 48 0), (4, .ptr s.length 64 0), (5, .ptr s.length 80 0), (6, i64 v), (10, i64 v), (16, i64 ((31 - v : Nat) : Int)), (17, i64 (k : Nat))]) (fun k (a : List Int) => [(32, .cell (rowV c)), (48, .cell (rowV d)), (64, .cell (rowV zeroR)), (80, .cell (rowV a))] :: s) (fun (a : List Int) => (.exit 2, [(2, .ptr s.length 32 0), (3, .ptr s.length 48 0), (4, .ptr s.length 64 0), (5, .ptr s.length 80 0), (6, i64 v), (10, i64 v), (16, i64 ((31 - v : Nat) : Int)), (17, i64 ((List.range (31 - v)).length : Nat)), (18, .bool false)], [(32, .cell (rowV c)), (48, .cell (rowV d)), (64, .cell (rowV zeroR)), (80, .cell (rowV a))] :: s)) (by simp) ?_ ?_ ?_ out (ho) [(2, .ptr s.length 32 0), (3, .ptr s.length 48 0), (4, .ptr s.length 64 0), (5, .ptr s.length 80 0), (6, i64 v), (10, i64 v), (16, i64 ((31 - v : Nat) : Int)), (17, i64 0)] ([(32, .cell (rowV c)), (48, .cell (rowV d)), (64, .cell (rowV zeroR)), (80, .cell (rowV out))] :: s) (by simp) (by simp)
 ·exact key
 ·intro k a hk hi
  try simp only [List.length_range] at hk
  try simp only [List.getElem_range]
  have hk2 : (k : Int) < ((31 - v : Nat) : Int) := by omega
  have q1 : (k : Int) < 31 := by omega
  have q2 : (v : Int) < 31 := by omega
  have q3 : (v : Int) + (k : Int) < 31 := by omega
  have q4 : (0 : Int) ≤ (v : Int) + (k : Int) := by omega
  have q5 : IntKind.i64.wrap ((v : Int) + (k : Int)) = (v : Int) + (k : Int) := wi _ (by omega) (by omega)
  have q6 : ((v : Int) + (k : Int)).toNat = v + k := by omega
  have q7 : ¬ 30 < v + k := by omega
  have c1 := hc.at v hv
  have c1' := at' (c := c) v (by have := hc.len; omega)
  have c2 := hc.lo v hv
  have c3 := hc.hi v hv
  have d1 := hd.at k (by omega)
  have d1' := at' (c := d) k (by have := hd.len; omega)
  have d2 := hd.lo k (by omega)
  have d3 := hd.hi k (by omega)
  have o1 : a[v + k]? = some (a.getD (v + k) 0) := by simp [List.getD, List.getElem?_eq_getElem (show v + k < a.length by omega)]
  have o1' := at' (c := a) (v + k) (by omega)
  obtain ⟨x, hx⟩ : ∃ x, x = c.getD v 0 := ⟨_, rfl⟩
  obtain ⟨y, hy⟩ : ∃ y, y = d.getD k 0 := ⟨_, rfl⟩
  obtain ⟨z, hz⟩ : ∃ z, z = a.getD (v + k) 0 := ⟨_, rfl⟩
  have e1 : plus1 c d v a k = if x < far ∧ y < far then a.set (v + k) (min z (x + y)) else a := by rw [hx, hy, hz]; rfl
  rw [e1]
  rw [← hx] at c1 c1' c2 c3
  rw [← hy] at d1 d1' d2 d3
  rw [← hz] at o1 o1'
  clear hx hy hz e1
  have w1 : IntKind.i64.wrap (x + y) = x + y := wi _ (by simp only [far] at *; omega) (by simp only [far] at *; omega)
  by_cases h1 : x < 1099511627776
  ·by_cases h2 : y < 1099511627776
   ·simp (disch := first | omega | assumption | decide +kernel | (simp; done) | (simp; omega) | fail) [run_drawnK, hk2, q1, q2, q3, q4, q5, q6, q7, c1, d1, o1, c1', d1', o1', w1, h1, h2, hi, far, wk k (by omega)]
   ·simp (disch := first | omega | assumption | decide +kernel | (simp; done) | (simp; omega) | fail) [hk2, q1, q2, c1, d1, c1', d1', h1, h2, hi, far, wk k (by omega)]
  ·simp (disch := first | omega | assumption | decide +kernel | (simp; done) | (simp; omega) | fail) [hk2, q1, q2, c1, d1, c1', d1', h1, hi, far, wk k (by omega)]
 ·intro k a hk hi
  try simp only [List.length_range] at hk
  try simp only [List.getElem_range]
  simp [hi]
 ·intro a hi
  simp
set_option maxHeartbeats 1000000 in
theorem e_plus_l0 (c d : List Int) (hc : Row c) (hd : Row d) (s : Stk)  :
 Run T b108l0 [(2, .ptr s.length 32 0), (3, .ptr s.length 48 0), (4, .ptr s.length 64 0), (5, .ptr s.length 80 0), (10, i64 0)] ([(32, .cell (rowV c)), (48, .cell (rowV d)), (64, .cell (rowV zeroR)), (80, .cell (rowV farR))] :: s) = some (.exit 0, [(2, .ptr s.length 32 0), (3, .ptr s.length 48 0), (4, .ptr s.length 64 0), (5, .ptr s.length 80 0), (10, i64 ((List.range 31).length : Nat)), (11, .bool false)], [(32, .cell (rowV c)), (48, .cell (rowV d)), (64, .cell (rowV zeroR)), (80, .cell (rowV ((List.range 31).foldl (plusRow c d) farR)))] :: s) := by
 have key := loop_fold (T := T) (live := [2, 3, 4, 5, 10]) (keep := [32, 48, 64, 80, 128]) (b := d108l0) (List.range 31) (fun _ r => r.length = 31) (plusRow c d) (fun k (a : List Int) => [(2, .ptr s.length 32 0), (3, .ptr s.length 48 0), (4, .ptr s.length 64 0), (5, .ptr s.length 80 0), (10, i64 (k : Nat))]) (fun k (a : List Int) => [(32, .cell (rowV c)), (48, .cell (rowV d)), (64, .cell (rowV zeroR)), (80, .cell (rowV a))] :: s) (fun (a : List Int) => (.exit 0, [(2, .ptr s.length 32 0), (3, .ptr s.length 48 0), (4, .ptr s.length 64 0), (5, .ptr s.length 80 0), (10, i64 ((List.range 31).length : Nat)), (11, .bool false)], [(32, .cell (rowV c)), (48, .cell (rowV d)), (64, .cell (rowV zeroR)), (80, .cell (rowV a))] :: s)) (by simp) ?_ ?_ ?_ farR (by simp) [(2, .ptr s.length 32 0), (3, .ptr s.length 48 0), (4, .ptr s.length 64 0), (5, .ptr s.length 80 0), (10, i64 0)] ([(32, .cell (rowV c)), (48, .cell (rowV d)), (64, .cell (rowV zeroR)), (80, .cell (rowV farR))] :: s) (by simp) (by simp)
 ·exact key
 ·intro k a hk hi
  try simp only [List.length_range] at hk
  try simp only [List.getElem_range]
  have hk2 : (k : Int) < 31 := by omega
  have q1 : IntKind.i64.wrap (31 - (k : Int)) = 31 - (k : Int) := wi _ (by omega) (by omega)
  have q2 : (31 - (k : Int)).toNat = 31 - k := by omega
  have q3 : (0 : Int) ≤ 31 - (k : Int) ∧ 31 - (k : Int) ≤ 31 := by omega
  have h := e_plus_l1 c d hc hd a hi k hk s
  simp only [List.length_range] at h
  have q4 : ¬ 31 < (k : Int) := by omega
  simp (disch := first | omega | assumption | decide +kernel | (simp; done) | (simp; omega) | fail) [hk2, q1, q2, q3, q4, h, plusRow, wk k (by omega)]
 ·intro k a hk hi
  try simp only [List.length_range] at hk
  try simp only [List.getElem_range]
  simp [hi]
 ·intro a hi
  simp
@[simp] theorem e_plus (c d : List Int) (hc : Row c) (hd : Row d) (lab s) : den T 108 [.agg (rowV c), .agg (rowV d)] lab s = some (.agg (rowV (plusR c d)), s) := by
 rw [den_fn t108 _ _ _ rfl]
 simp only [b108]
 have h := e_plus_l0 c d hc hd s
 simp only [List.length_range] at h
 have h2 : nothingR.length = 31 := by decide +kernel
 have h3 : nothingR.set 0 1099511627776 = farR := by decide +kernel
 have e : (List.range 31).foldl (plusRow c d) farR = plusR c d := rfl
 rw [e] at h
 simp (disch := first | omega | assumption | decide +kernel | (simp; done) | (simp; omega) | fail) [h, h2, h3, rowV_take, setAll_row]
def minR (c : List Int) : Int := (List.range 30).foldl (fun m k => min m (c.getD (k + 1) 0)) (c.getD 0 0)
theorem e_Min_l (c : List Int) (hc : Row c) (d l : Nat) (s : Stk) (h : sget s d l = some (.cell (rowV c))) (hd : d < s.length) (m0 : Int) :
 Run T b109l0 [(0, .csl (.ptr d l 0) 31), (3, i64 m0), (4, i64 1)] ([] :: s) = some (.exit 0, [(0, .csl (.ptr d l 0) 31), (3, i64 ((List.range 30).foldl (fun m k => min m (c.getD (k + 1) 0)) m0)), (4, i64 31), (15, .bool false)], [] :: s) := by
 have hd2 : ¬ d = s.length := by omega
 refine (loop_fold (List.range 30) (fun _ _ => True) (fun m k => min m (c.getD (k + 1) 0)) (fun k m => [(0, .csl (.ptr d l 0) 31), (3, i64 m), (4, i64 ((k : Int) + 1))]) (fun _ _ => [] :: s) (fun m => (.exit 0, [(0, .csl (.ptr d l 0) 31), (3, i64 m), (4, i64 31), (15, .bool false)], [] :: s)) (by simp) ?_ (by simp) ?_ m0 trivial _ _ (by simp [hd2]) (by simp))
 ·intro k m hk _
  simp only [List.length_range] at hk
  simp only [List.getElem_range]
  have q1 : (k : Int) + 1 < 31 := by omega
  have q2 : ((k : Int) + 1).toNat = k + 1 := by omega
  have q3 : (0 : Int) ≤ (k : Int) + 1 := by omega
  have c1 := hc.at (k + 1) (by omega)
  have c1' := at' (c := c) (k + 1) (by have := hc.len; omega)
  have w1 : IntKind.i64.wrap ((k : Int) + 1 + 1) = (k : Int) + 1 + 1 := wi _ (by omega) (by omega)
  generalize c.getD (k + 1) 0 = x at c1 c1' ⊢
  simp (disch := first | omega | assumption | decide +kernel | (simp; done) | (simp; omega) | fail) [hd2, h, q1, q2, q3, c1, c1', w1]
 ·intro m _
  simp (disch := first | omega | assumption | decide +kernel | (simp; done) | (simp; omega) | fail) [hd2]
@[simp] theorem e_Min (c : List Int) (hc : Row c) (d l : Nat) (lab) (s : Stk) (h : sget s d l = some (.cell (rowV c))) (hd : d < s.length) : den T 109 [.csl (.ptr d l 0) 31] lab s = some (i64 (minR c), s) := by
 have hd2 : ¬ d = s.length := by omega
 rw [den_fn t109 _ _ _ rfl]
 simp only [b109]
 have h1 := e_Min_l c hc d l s h hd (c.getD 0 0)
 have c1 := hc.at 0 (by omega)
 have c1' := at' (c := c) 0 (by have := hc.len; omega)
 have e : (List.range 30).foldl (fun m k => min m (c.getD (k + 1) 0)) (c.getD 0 0) = minR c := rfl
 rw [e] at h1
 generalize c.getD 0 0 = x at c1 c1' h1
 simp (disch := first | omega | assumption | decide +kernel | (simp; done) | (simp; omega) | fail) [hd2, h, h1, c1, c1']
end Go.Proofs.Ytlcnoldkekcifaa

/-
  Cuts: what rows together are; the least of a row; rows with a cost.
-/
namespace Go.Proofs.Ytlcnoldkekcifaa
open Go.Ab
theorem plus1_spec (c d : List Int) : ∀ (L : List (Nat × Nat)) (o : List Int), o.length = 31 → (∀ x ∈ L, x.1 + x.2 < 31) →
 (∀ s, (L.foldl (fun o x => plus1 c d x.1 o x.2) o).getD s 0 ≤ o.getD s 0 ∧ (∀ x ∈ L, x.1 + x.2 = s → c.getD x.1 0 < far → d.getD x.2 0 < far → (L.foldl (fun o x => plus1 c d x.1 o x.2) o).getD s 0 ≤ c.getD x.1 0 + d.getD x.2 0) ∧
   ((L.foldl (fun o x => plus1 c d x.1 o x.2) o).getD s 0 = o.getD s 0 ∨ ∃ x ∈ L, x.1 + x.2 = s ∧ c.getD x.1 0 < far ∧ d.getD x.2 0 < far ∧ (L.foldl (fun o x => plus1 c d x.1 o x.2) o).getD s 0 = c.getD x.1 0 + d.getD x.2 0))
 | [], o, _, _, s => ⟨Int.le_refl _, by simp, .inl rfl⟩
 | y :: L, o, ho, hL, s => by
   have ih := plus1_spec c d L (plus1 c d y.1 o y.2) (by simp [ho]) (fun x hx => hL x (by simp [hx])) s
   have hy := hL y (by simp)
   rw [List.foldl_cons]
   generalize L.foldl (fun o x => plus1 c d x.1 o x.2) (plus1 c d y.1 o y.2) = r at ih ⊢
   obtain ⟨h1, h2, h3⟩ := ih
   by_cases hc : c.getD y.1 0 < far ∧ d.getD y.2 0 < far
   ·have e : (plus1 c d y.1 o y.2).getD s 0 = if y.1 + y.2 = s then min (o.getD s 0) (c.getD y.1 0 + d.getD y.2 0) else o.getD s 0 := by
     unfold plus1
     rw [if_pos hc]
     simp only [List.getD, List.getElem?_set]
     by_cases e : y.1 + y.2 = s
     ·subst e; simp [ho, hy]
     ·simp [e]
    rw [e] at h1 h3
    by_cases es : y.1 + y.2 = s
    ·rw [if_pos es] at h1 h3
     refine ⟨by omega, fun x hx => ?_, ?_⟩
     ·rcases List.mem_cons.1 hx with rfl | hx
      ·intro _ _ _; omega
      ·exact h2 x hx
     ·rcases h3 with h3 | ⟨x, hx, h4⟩
      ·by_cases hm : o.getD s 0 ≤ c.getD y.1 0 + d.getD y.2 0
       ·exact .inl (by omega)
       ·exact .inr ⟨y, by simp, es, hc.1, hc.2, by omega⟩
      ·exact .inr ⟨x, by simp [hx], h4⟩
    ·rw [if_neg es] at h1 h3
     refine ⟨h1, fun x hx => ?_, ?_⟩
     ·rcases List.mem_cons.1 hx with rfl | hx
      ·intro e'; exact absurd e' es
      ·exact h2 x hx
     ·rcases h3 with h3 | ⟨x, hx, h4⟩
      ·exact .inl h3
      ·exact .inr ⟨x, by simp [hx], h4⟩
   ·have e : plus1 c d y.1 o y.2 = o := by unfold plus1; rw [if_neg hc]
    rw [e] at h1 h3
    refine ⟨h1, fun x hx => ?_, ?_⟩
    ·rcases List.mem_cons.1 hx with rfl | hx
     ·intro _ a b; exact absurd ⟨a, b⟩ hc
     ·exact h2 x hx
    ·rcases h3 with h3 | ⟨x, hx, h4⟩
     ·exact .inl h3
     ·exact .inr ⟨x, by simp [hx], h4⟩
def pairs31 : List (Nat × Nat) := (List.range 31).flatMap fun v => (List.range (31 - v)).map fun w => (v, w)
theorem plusR_pairs (c d : List Int) : plusR c d = pairs31.foldl (fun o x => plus1 c d x.1 o x.2) farR := by
 have : ∀ (L : List Nat) (o : List Int), L.foldl (plusRow c d) o = (L.flatMap fun v => (List.range (31 - v)).map fun w => (v, w)).foldl (fun o x => plus1 c d x.1 o x.2) o := by
  intro L
  induction L with
  | nil => intro o; rfl
  | cons v L ih =>
    intro o
    rw [List.foldl_cons, ih, List.flatMap_cons, List.foldl_append, List.foldl_map]
    rfl
 exact this _ _
theorem mem_pairs31 {v w : Nat} : (v, w) ∈ pairs31 ↔ v + w < 31 := by
 simp only [pairs31, List.mem_flatMap, List.mem_map, List.mem_range, Prod.mk.injEq]
 constructor
 ·rintro ⟨a, h1, b, h2, rfl, rfl⟩; omega
 ·intro h; exact ⟨v, by omega, w, by omega, rfl, rfl⟩
theorem rep_get {n s : Nat} {x : Int} (h : s < n) : (List.replicate n x).getD s 0 = x := by
 rw [List.getD, List.getElem?_replicate, if_pos h]; rfl
theorem farR_get (s : Nat) (h : s < 31) : farR.getD s 0 = far := rep_get h
theorem plusR_le {c d : List Int} {v w : Nat} (h : v + w < 31) (hc : c.getD v 0 < far) (hd : d.getD w 0 < far) : (plusR c d).getD (v + w) 0 ≤ c.getD v 0 + d.getD w 0 := by
 rw [plusR_pairs]
 exact (plus1_spec c d pairs31 farR farR_length (fun x hx => mem_pairs31.1 hx) (v + w)).2.1 (v, w) (mem_pairs31.2 h) rfl hc hd
theorem plusR_eq (c d : List Int) {s : Nat} (h : s < 31) : (plusR c d).getD s 0 = far ∨ ∃ v w, v + w = s ∧ c.getD v 0 < far ∧ d.getD w 0 < far ∧ (plusR c d).getD s 0 = c.getD v 0 + d.getD w 0 := by
 rw [plusR_pairs]
 rcases (plus1_spec c d pairs31 farR farR_length (fun x hx => mem_pairs31.1 hx) s).2.2 with h1 | ⟨x, _, h2⟩
 ·exact .inl (by rw [h1, farR_get s h])
 ·exact .inr ⟨x.1, x.2, h2⟩
theorem fold_min {α : Type} (f : α → Int) : ∀ (l : List α) (m : Int), l.foldl (fun m x => min m (f x)) m ≤ m ∧ (∀ x ∈ l, l.foldl (fun m x => min m (f x)) m ≤ f x) ∧ (l.foldl (fun m x => min m (f x)) m = m ∨ ∃ x ∈ l, l.foldl (fun m x => min m (f x)) m = f x)
 | [], m => ⟨Int.le_refl _, by simp, .inl rfl⟩
 | y :: l, m => by
   rw [List.foldl_cons]
   have ih := fold_min f l (min m (f y))
   generalize l.foldl (fun m x => min m (f x)) (min m (f y)) = r at ih ⊢
   obtain ⟨h1, h2, h3⟩ := ih
   refine ⟨by omega, fun x hx => ?_, ?_⟩
   ·rcases List.mem_cons.1 hx with rfl | hx
    ·omega
    ·exact h2 x hx
   ·rcases h3 with h3 | ⟨x, hx, h4⟩
    ·by_cases hm : m ≤ f y
     ·exact .inl (by omega)
     ·exact .inr ⟨y, by simp, by omega⟩
    ·exact .inr ⟨x, by simp [hx], h4⟩
theorem minR_le (c : List Int) {w : Nat} (h : w < 31) : minR c ≤ c.getD w 0 := by
 have := fold_min (fun k => c.getD (k + 1) 0) (List.range 30) (c.getD 0 0)
 cases w with
 | zero => exact this.1
 | succ w => exact this.2.1 w (by simp; omega)
theorem minR_eq (c : List Int) : ∃ w, w < 31 ∧ minR c = c.getD w 0 := by
 have := (fold_min (fun k => c.getD (k + 1) 0) (List.range 30) (c.getD 0 0)).2.2
 rcases this with h | ⟨k, hk, h⟩
 ·exact ⟨0, by omega, h⟩
 ·exact ⟨k + 1, by simp at hk; omega, h⟩
def costR (f : Nat → Int) (own : List Int) : List Int := (List.range 31).map fun w => if f w < far ∧ own.getD w 0 < far then own.getD w 0 + f w else far
@[simp] theorem costR_length (f own) : (costR f own).length = 31 := by simp [costR]
theorem range_get (g : Nat → Int) {w : Nat} (h : w < 31) : ((List.range 31).map g).getD w 0 = g w := by
 rw [List.getD, List.getElem?_map, List.getElem?_range h]; rfl
theorem costR_get (f own) {w : Nat} (h : w < 31) : (costR f own).getD w 0 = if f w < far ∧ own.getD w 0 < far then own.getD w 0 + f w else far := range_get _ h
def lostR (s : Sp) : List Int := (List.range 31).map fun (w : Nat) => if within w s.lo s.hi = true then 0 else far
@[simp] theorem lostR_length (s) : (lostR s).length = 31 := by simp [lostR]
theorem lostR_get (s : Sp) {w : Nat} (h : w < 31) : (lostR s).getD w 0 = if within w s.lo s.hi = true then 0 else far := range_get _ h
theorem zeroR_get (w : Nat) : zeroR.getD w 0 = 0 := by
 by_cases h : w < 31
 ·exact rep_get h
 ·have : zeroR.length ≤ w := by rw [zeroR_length]; omega
  simp [List.getD, List.getElem?_eq_none this]
theorem nothingR_get {w : Nat} (h : w < 31) : nothingR.getD w 0 = if w = 0 then 0 else far := by
 cases w with
 | zero => rfl
 | succ w =>
   have : nothingR.getD (w + 1) 0 = (List.replicate 30 far).getD w 0 := rfl
   rw [this, rep_get (by omega)]; simp
structure RowB (X : Int) (c : List Int) : Prop where
 len : c.length = 31
 is : ∀ k, k < 31 → c.getD k 0 = far ∨ -X ≤ c.getD k 0 ∧ c.getD k 0 ≤ X
theorem RowB.row {X c} (h : RowB X c) (hX : X ≤ far) : Row c :=
 ⟨h.len, fun k hk => by have := h.is k hk; simp only [far] at *; omega, fun k hk => by have := h.is k hk; simp only [far] at *; omega⟩
theorem RowB.small {X c} (h : RowB X c) {k : Nat} (hk : k < 31) (hf : c.getD k 0 < far) : -X ≤ c.getD k 0 ∧ c.getD k 0 ≤ X := by
 rcases h.is k hk with e | e
 ·omega
 ·exact e
theorem RowB.mono {X Y c} (h : RowB X c) (hX : X ≤ Y) : RowB Y c := ⟨h.len, fun k hk => by have := h.is k hk; omega⟩
theorem RowB.plus {X Y c d} (h : RowB X c) (k : RowB Y d) : RowB (X + Y) (plusR c d) := by
 refine ⟨by simp, fun s hs => ?_⟩
 rcases plusR_eq c d hs with e | ⟨v, w, hvw, h1, h2, e⟩
 ·exact .inl e
 ·rw [e]; have := h.small (k := v) (by omega) h1; have := k.small (k := w) (by omega) h2; right; omega
theorem RowB.cost {X M c} {f : Nat → Int} (h : RowB X c) (hf : ∀ w, w < 31 → f w < far → -M ≤ f w ∧ f w ≤ M) : RowB (X + M) (costR f c) := by
 refine ⟨by simp, fun w hw => ?_⟩
 rw [costR_get _ _ hw]
 split
 ·rename_i hc
  have := h.small hw hc.2; have := hf w hw hc.1; right; omega
 ·exact .inl rfl
theorem rowB_lost (s : Sp) : RowB 0 (lostR s) := by
 refine ⟨by simp, fun w hw => ?_⟩
 rw [lostR_get s hw]; split
 ·right; omega
 ·exact .inl rfl
theorem rowB_zero : RowB 0 zeroR := ⟨zeroR_length, fun w _ => by rw [zeroR_get]; right; omega⟩
theorem rowB_nothing : RowB 0 nothingR := by
 refine ⟨by decide +kernel, fun w hw => ?_⟩
 rw [nothingR_get hw]; split
 ·right; omega
 ·exact .inl rfl
theorem minR_B {X c} (h : RowB X c) : minR c = far ∨ -X ≤ minR c ∧ minR c ≤ X := by
 obtain ⟨w, hw, e⟩ := minR_eq c
 rw [e]; exact h.is w hw
end Go.Proofs.Ytlcnoldkekcifaa

/-
  Cuts: the program's least: its loops.
-/
namespace Go.Proofs.Ytlcnoldkekcifaa
open Go.Ab
@[simp] theorem ne2 (n : Nat) : (n = n + 1 + 1) = False := by simp; omega
@[simp] theorem ne2b (n : Nat) : (n = n + 2) = False := by simp
abbrev M0 : Int := 3000
structure CostOk (S : Stk) (f : FuncId) (fst cap : List V) (c : Nat → Nat → Int) (n : Nat) : Prop where
 call : ∀ (fr : Stk) (i w : Nat) (lab : Nat), i < n → w < 31 → den T f (fst ++ i64 i :: i64 w :: cap) lab (fr ++ S) = some (i64 (c i w), fr ++ S)
 keep : ∀ D keep, S.length ≤ D → V.mapAll (dropR D keep) cap = cap
 keep1 : ∀ D keep, S.length ≤ D → V.mapAll (dropR D keep) fst = fst
 small : ∀ i w, i < n → w < 31 → c i w < far → -M0 ≤ c i w ∧ c i w ≤ M0
def lost1 (p : Sp) (r : List Int) (k : Nat) : List Int := if within k p.lo p.hi = true then (r.set k far).set k 0 else r.set k far
theorem lost_fold (p : Sp) : (List.range 31).foldl (lost1 p) zeroR = lostR p := by
 have h := fold_set 31 (fun (w : Nat) (_ : Int) => if within w p.lo p.hi = true then (0 : Int) else far) zeroR 0 (by rw [zeroR_length]; exact Nat.le_refl _)
 have e : (lost1 p) = fun r (w : Nat) => r.set w (if within w p.lo p.hi = true then (0 : Int) else far) := by
  funext r w; unfold lost1; split <;> simp
 rw [e, h]
 have : zeroR.drop 31 = [] := List.drop_eq_nil_of_le (by rw [zeroR_length]; exact Nat.le_refl _)
 rw [this]; simp [lostR]
set_option maxHeartbeats 1000000 in
theorem e_least_l1 (p : Part) (i : Nat) (L : Ab.Loc) (s : Stk)  :
 Run T b79l1 [(3, .ptr s.length 48 0), (4, .ptr s.length 64 0), (5, .ptr s.length 80 0), (7, .ptr s.length 112 0), (8, i64 i), (9, .ptr (s.length + 1 + 1) 144 0), (10, .ptr (s.length + 1 + 1) 160 0), (11, .ptr (s.length + 1 + 1) 176 0), (36, i64 0)] ([(144, .cell (cPart p)), (160, .cell (rowV zeroR)), (176, .cell (rowV zeroR))] :: [] :: L :: s) = some (.exit 4, [(3, .ptr s.length 48 0), (4, .ptr s.length 64 0), (5, .ptr s.length 80 0), (7, .ptr s.length 112 0), (8, i64 i), (9, .ptr (s.length + 1 + 1) 144 0), (10, .ptr (s.length + 1 + 1) 160 0), (11, .ptr (s.length + 1 + 1) 176 0), (36, i64 ((List.range 31).length : Nat)), (37, .bool false)], [(144, .cell (cPart p)), (160, .cell (rowV zeroR)), (176, .cell (rowV ((List.range 31).foldl (lost1 p.waste) zeroR)))] :: [] :: L :: s) := by
 have key := loop_fold (T := T) (live := [3, 4, 5, 7, 8, 9, 10, 11, 36]) (keep := [32, 48, 64, 80, 112, 144, 160, 176, 288, 416, 480, 560, 912, 1024, 1504, 1552]) (b := d79l1) (List.range 31) (fun _ r => r.length = 31) (lost1 p.waste) (fun k (a : List Int) => [(3, .ptr s.length 48 0), (4, .ptr s.length 64 0), (5, .ptr s.length 80 0), (7, .ptr s.length 112 0), (8, i64 i), (9, .ptr (s.length + 1 + 1) 144 0), (10, .ptr (s.length + 1 + 1) 160 0), (11, .ptr (s.length + 1 + 1) 176 0), (36, i64 (k : Nat))]) (fun k (a : List Int) => [(144, .cell (cPart p)), (160, .cell (rowV zeroR)), (176, .cell (rowV a))] :: [] :: L :: s) (fun (a : List Int) => (.exit 4, [(3, .ptr s.length 48 0), (4, .ptr s.length 64 0), (5, .ptr s.length 80 0), (7, .ptr s.length 112 0), (8, i64 i), (9, .ptr (s.length + 1 + 1) 144 0), (10, .ptr (s.length + 1 + 1) 160 0), (11, .ptr (s.length + 1 + 1) 176 0), (36, i64 ((List.range 31).length : Nat)), (37, .bool false)], [(144, .cell (cPart p)), (160, .cell (rowV zeroR)), (176, .cell (rowV a))] :: [] :: L :: s)) (by simp) ?_ ?_ ?_ zeroR (by simp) [(3, .ptr s.length 48 0), (4, .ptr s.length 64 0), (5, .ptr s.length 80 0), (7, .ptr s.length 112 0), (8, i64 i), (9, .ptr (s.length + 1 + 1) 144 0), (10, .ptr (s.length + 1 + 1) 160 0), (11, .ptr (s.length + 1 + 1) 176 0), (36, i64 0)] ([(144, .cell (cPart p)), (160, .cell (rowV zeroR)), (176, .cell (rowV zeroR))] :: [] :: L :: s) (by simp) (by simp)
 ·exact key
 ·intro k a hk hi
  try simp only [List.length_range] at hk
  try simp only [List.getElem_range]
  have hk2 : (k : Int) < 31 := by omega
  have hk3 : ¬ 30 < k := by omega
  have hk4 : k ≤ 30 := by omega
  cases h : within k p.waste.lo p.waste.hi <;> simp (disch := first | omega | assumption | decide +kernel | (simp; done) | (simp; omega) | fail) [hk2, hk3, hk4, hi, h, lost1, far, wk k (by omega)]
 ·intro k a hk hi
  try simp only [List.length_range] at hk
  try simp only [List.getElem_range]
  unfold lost1; split <;> simp [hi]
 ·intro a hi
  simp
def own1 (c : Nat → Int) (r : List Int) (w : Nat) : List Int := r.set w (if c w < far ∧ r.getD w 0 < far then r.getD w 0 + c w else far)
theorem own_fold (c : Nat → Int) (r : List Int) (h : r.length = 31) : (List.range 31).foldl (own1 c) r = costR c r := by
 have := fold_set 31 (fun (w : Nat) (x : Int) => if c w < far ∧ x < far then x + c w else far) r 0 (by omega)
 rw [List.drop_eq_nil_of_le (by omega), List.append_nil] at this
 exact this
theorem own1_length (c r w) : (own1 c r w).length = r.length := by simp [own1]
theorem own1_other (c r) {w w' : Nat} (h : w' ≠ w) : (own1 c r w).getD w' 0 = r.getD w' 0 := by
 simp only [own1, List.getD, List.getElem?_set]
 rw [if_neg (fun e => h e.symm)]
set_option maxHeartbeats 1000000 in
theorem e_least_l2a {f : FuncId} {fst cap : List V} {c : Nat → Nat → Int} {n : Nat} (p : Part) (i : Nat) (hi0 : i < n) (L : Ab.Loc) (r0 q : List Int) {X : Int} (hX : X + M0 ≤ far) (hX0 : 0 ≤ X) (hr : RowB X r0) (hL : Loc.get L 48 = some (.cell [.fn f fst cap])) (s : Stk) (hc : CostOk s f fst cap c n) :
 Run T b79l2 [(3, .ptr s.length 48 0), (4, .ptr s.length 64 0), (5, .ptr s.length 80 0), (7, .ptr s.length 112 0), (8, i64 i), (9, .ptr (s.length + 1 + 1) 144 0), (10, .ptr (s.length + 1 + 1) 160 0), (58, i64 0)] ([(144, .cell (cPart p)), (160, .cell (rowV r0))] :: [] :: L :: s) = some (.exit 6, [(3, .ptr s.length 48 0), (4, .ptr s.length 64 0), (5, .ptr s.length 80 0), (7, .ptr s.length 112 0), (8, i64 i), (9, .ptr (s.length + 1 + 1) 144 0), (10, .ptr (s.length + 1 + 1) 160 0), (58, i64 ((List.range 31).length : Nat)), (59, .bool false)], [(144, .cell (cPart p)), (160, .cell (rowV ((List.range 31).foldl (own1 (c i)) r0)))] :: [] :: L :: s) := by
 have key := loop_fold (T := T) (live := [3, 4, 5, 7, 8, 9, 10, 58]) (keep := [32, 48, 64, 80, 112, 144, 160, 176, 288, 416, 480, 560, 768, 912, 1504, 1552]) (b := d79l2) (List.range 31) (fun k r => r.length = 31 ∧ ∀ w, k ≤ w → r.getD w 0 = r0.getD w 0) (own1 (c i)) (fun k (a : List Int) => [(3, .ptr s.length 48 0), (4, .ptr s.length 64 0), (5, .ptr s.length 80 0), (7, .ptr s.length 112 0), (8, i64 i), (9, .ptr (s.length + 1 + 1) 144 0), (10, .ptr (s.length + 1 + 1) 160 0), (58, i64 (k : Nat))]) (fun k (a : List Int) => [(144, .cell (cPart p)), (160, .cell (rowV a))] :: [] :: L :: s) (fun (a : List Int) => (.exit 6, [(3, .ptr s.length 48 0), (4, .ptr s.length 64 0), (5, .ptr s.length 80 0), (7, .ptr s.length 112 0), (8, i64 i), (9, .ptr (s.length + 1 + 1) 144 0), (10, .ptr (s.length + 1 + 1) 160 0), (58, i64 ((List.range 31).length : Nat)), (59, .bool false)], [(144, .cell (cPart p)), (160, .cell (rowV a))] :: [] :: L :: s)) (by simp) ?_ ?_ ?_ r0 (⟨hr.len, fun _ _ => rfl⟩) [(3, .ptr s.length 48 0), (4, .ptr s.length 64 0), (5, .ptr s.length 80 0), (7, .ptr s.length 112 0), (8, i64 i), (9, .ptr (s.length + 1 + 1) 144 0), (10, .ptr (s.length + 1 + 1) 160 0), (58, i64 0)] ([(144, .cell (cPart p)), (160, .cell (rowV r0))] :: [] :: L :: s) (by simp) (by simp)
 ·exact key
 ·intro k a hk hi
  try simp only [List.length_range] at hk
  try simp only [List.getElem_range]
  obtain ⟨h1, h3⟩ := hi
  have hk2 : (k : Int) < 31 := by omega
  have hk3 : ¬ 30 < k := by omega
  have hk4 : k ≤ 30 := by omega
  have hcall := fun (fr0 : Ab.Loc) lab => hc.call [fr0, [], L] i k lab hi0 hk
  simp only [List.cons_append, List.nil_append] at hcall
  have hs := hc.small i k hi0 hk
  have a1 : a[k]? = some (a.getD k 0) := by simp [List.getD, List.getElem?_eq_getElem (show k < a.length by omega)]
  have a1' := at' (c := a) k (by omega)
  have hb := hr.is k hk
  have e1 : own1 (c i) a k = a.set k (if c i k < far ∧ a.getD k 0 < far then a.getD k 0 + c i k else far) := rfl
  rw [e1]
  rw [← h3 k (Nat.le_refl _)] at hb
  generalize a.getD k 0 = x at a1 a1' hb ⊢
  generalize c i k = y at hcall hs ⊢
  by_cases y1 : y < 1099511627776
  ·by_cases x1 : x < 1099511627776
   ·have w1 : IntKind.i64.wrap (x + y) = x + y := by
     have := hs y1
     refine wi _ ?_ ?_ <;> (simp only [far] at *; omega)
    simp (disch := first | omega | assumption | decide +kernel | (simp; done) | (simp; omega) | fail) [hk2, hk3, hk4, h1, hcall, hL, a1, a1', y1, x1, w1, far, wk k (by omega)]
   ·simp (disch := first | omega | assumption | decide +kernel | (simp; done) | (simp; omega) | fail) [hk2, hk3, hk4, h1, hcall, hL, a1, a1', y1, x1, far, wk k (by omega)]
  ·simp (disch := first | omega | assumption | decide +kernel | (simp; done) | (simp; omega) | fail) [hk2, hk3, hk4, h1, hcall, hL, a1, a1', y1, far, wk k (by omega)]
 ·intro k a hk hi
  try simp only [List.length_range] at hk
  try simp only [List.getElem_range]
  refine ⟨by simp [own1_length, hi.1], fun w hw => ?_⟩
  rw [own1_other _ _ (by omega), hi.2 w (by omega)]
 ·intro a hi
  simp
set_option maxHeartbeats 1000000 in
theorem e_least_l2b {f : FuncId} {fst cap : List V} {c : Nat → Nat → Int} {n : Nat} (p : Part) (i : Nat) (hi0 : i < n) (L : Ab.Loc) (r0 q : List Int) {X : Int} (hX : X + M0 ≤ far) (hX0 : 0 ≤ X) (hr : RowB X r0) (hL : Loc.get L 48 = some (.cell [.fn f fst cap])) (s : Stk) (hc : CostOk s f fst cap c n) :
 Run T b79l2 [(3, .ptr s.length 48 0), (4, .ptr s.length 64 0), (5, .ptr s.length 80 0), (7, .ptr s.length 112 0), (8, i64 i), (9, .ptr (s.length + 1 + 1) 144 0), (10, .ptr (s.length + 1 + 1) 160 0), (58, i64 0)] ([(144, .cell (cPart p)), (160, .cell (rowV r0)), (176, .cell (rowV q))] :: [] :: L :: s) = some (.exit 6, [(3, .ptr s.length 48 0), (4, .ptr s.length 64 0), (5, .ptr s.length 80 0), (7, .ptr s.length 112 0), (8, i64 i), (9, .ptr (s.length + 1 + 1) 144 0), (10, .ptr (s.length + 1 + 1) 160 0), (58, i64 ((List.range 31).length : Nat)), (59, .bool false)], [(144, .cell (cPart p)), (160, .cell (rowV ((List.range 31).foldl (own1 (c i)) r0))), (176, .cell (rowV q))] :: [] :: L :: s) := by
 have key := loop_fold (T := T) (live := [3, 4, 5, 7, 8, 9, 10, 58]) (keep := [32, 48, 64, 80, 112, 144, 160, 176, 288, 416, 480, 560, 768, 912, 1504, 1552]) (b := d79l2) (List.range 31) (fun k r => r.length = 31 ∧ ∀ w, k ≤ w → r.getD w 0 = r0.getD w 0) (own1 (c i)) (fun k (a : List Int) => [(3, .ptr s.length 48 0), (4, .ptr s.length 64 0), (5, .ptr s.length 80 0), (7, .ptr s.length 112 0), (8, i64 i), (9, .ptr (s.length + 1 + 1) 144 0), (10, .ptr (s.length + 1 + 1) 160 0), (58, i64 (k : Nat))]) (fun k (a : List Int) => [(144, .cell (cPart p)), (160, .cell (rowV a)), (176, .cell (rowV q))] :: [] :: L :: s) (fun (a : List Int) => (.exit 6, [(3, .ptr s.length 48 0), (4, .ptr s.length 64 0), (5, .ptr s.length 80 0), (7, .ptr s.length 112 0), (8, i64 i), (9, .ptr (s.length + 1 + 1) 144 0), (10, .ptr (s.length + 1 + 1) 160 0), (58, i64 ((List.range 31).length : Nat)), (59, .bool false)], [(144, .cell (cPart p)), (160, .cell (rowV a)), (176, .cell (rowV q))] :: [] :: L :: s)) (by simp) ?_ ?_ ?_ r0 (⟨hr.len, fun _ _ => rfl⟩) [(3, .ptr s.length 48 0), (4, .ptr s.length 64 0), (5, .ptr s.length 80 0), (7, .ptr s.length 112 0), (8, i64 i), (9, .ptr (s.length + 1 + 1) 144 0), (10, .ptr (s.length + 1 + 1) 160 0), (58, i64 0)] ([(144, .cell (cPart p)), (160, .cell (rowV r0)), (176, .cell (rowV q))] :: [] :: L :: s) (by simp) (by simp)
 ·exact key
 ·intro k a hk hi
  try simp only [List.length_range] at hk
  try simp only [List.getElem_range]
  obtain ⟨h1, h3⟩ := hi
  have hk2 : (k : Int) < 31 := by omega
  have hk3 : ¬ 30 < k := by omega
  have hk4 : k ≤ 30 := by omega
  have hcall := fun (fr0 : Ab.Loc) lab => hc.call [fr0, [], L] i k lab hi0 hk
  simp only [List.cons_append, List.nil_append] at hcall
  have hs := hc.small i k hi0 hk
  have a1 : a[k]? = some (a.getD k 0) := by simp [List.getD, List.getElem?_eq_getElem (show k < a.length by omega)]
  have a1' := at' (c := a) k (by omega)
  have hb := hr.is k hk
  have e1 : own1 (c i) a k = a.set k (if c i k < far ∧ a.getD k 0 < far then a.getD k 0 + c i k else far) := rfl
  rw [e1]
  rw [← h3 k (Nat.le_refl _)] at hb
  generalize a.getD k 0 = x at a1 a1' hb ⊢
  generalize c i k = y at hcall hs ⊢
  by_cases y1 : y < 1099511627776
  ·by_cases x1 : x < 1099511627776
   ·have w1 : IntKind.i64.wrap (x + y) = x + y := by
     have := hs y1
     refine wi _ ?_ ?_ <;> (simp only [far] at *; omega)
    simp (disch := first | omega | assumption | decide +kernel | (simp; done) | (simp; omega) | fail) [hk2, hk3, hk4, h1, hcall, hL, a1, a1', y1, x1, w1, far, wk k (by omega)]
   ·simp (disch := first | omega | assumption | decide +kernel | (simp; done) | (simp; omega) | fail) [hk2, hk3, hk4, h1, hcall, hL, a1, a1', y1, x1, far, wk k (by omega)]
  ·simp (disch := first | omega | assumption | decide +kernel | (simp; done) | (simp; omega) | fail) [hk2, hk3, hk4, h1, hcall, hL, a1, a1', y1, far, wk k (by omega)]
 ·intro k a hk hi
  try simp only [List.length_range] at hk
  try simp only [List.getElem_range]
  refine ⟨by simp [own1_length, hi.1], fun w hw => ?_⟩
  rw [own1_other _ _ (by omega), hi.2 w (by omega)]
 ·intro a hi
  simp
end Go.Proofs.Ytlcnoldkekcifaa

/-
  Cuts: the program's least: a round.
-/
namespace Go.Proofs.Ytlcnoldkekcifaa
open Go.Ab
@[simp] theorem map_rowV (r : Ren) (l) : (es rowV l).map (V.mapAll r) = es rowV l := es_map _ _ (fun _ => by simp) _
@[simp] theorem strip_rowV (l) : (es rowV l).map V.stripAll = es rowV l := es_strip _ (fun _ => by simp) _
@[simp] theorem es_set_row (l : List (List Int)) (i : Nat) (r : List Int) : (es rowV l).set i (rowV r) = es rowV (l.set i r) := by simp [es, List.map_set]
def ownR (t : List Part) (c : Nat → Nat → Int) (P : List (List Int)) (p : Part) (i : Nat) : List Int := costR (c i) (if canCut t i = true then plusR (P.getD i []) (lostR p.waste) else zeroR)
@[simp] theorem ownR_length (t c P p i) : (ownR t c P p i).length = 31 := by simp [ownR]
structure Rows (X : Int) (n : Nat) (P : List (List Int)) : Prop where
 len : P.length = n
 row : ∀ j, j < n → RowB X (P.getD j [])
theorem Rows.at {X n P} (h : Rows X n P) {j : Nat} (hj : j < n) : P[j]? = some (P.getD j []) := by
 have := h.len
 simp [List.getD, List.getElem?_eq_getElem (show j < P.length by omega)]
theorem ats {P : List (List Int)} {j : Nat} (hj : j < P.length) : ∀ h, P[j]'h = P.getD j [] := fun h => by simp [List.getD, List.getElem?_eq_getElem hj]
theorem ownR_B {t c P p i} {X : Int} {n : Nat} (h : Rows X n P) (hi : i < n) (hX : 0 ≤ X) (hc : ∀ w, w < 31 → c i w < far → -M0 ≤ c i w ∧ c i w ≤ M0) : RowB (X + M0) (ownR t c P p i) := by
 unfold ownR
 refine RowB.cost ?_ hc
 split
 ·have := (h.row i hi).plus (rowB_lost p.waste)
  simpa using this
 ·exact rowB_zero.mono (by omega)
structure LeastF (L : Ab.Loc) (D : Nat) (t : List Part) (f : FuncId) (fst cap : List V) (P : List (List Int)) (all : Int) : Prop where
 h32 : Loc.get L 32 = some (.cell [.sl .no 6 (es cPart t)])
 h48 : Loc.get L 48 = some (.cell [.fn f fst cap])
 h64 : ∃ r, Loc.get L 64 = some (.cell [i64 r])
 h80 : Loc.get L 80 = some (.cell [.asl D 288 31 t.length 0 t.length])
 h288 : Loc.get L 288 = some (.arr 31 (es rowV P))
 h112 : Loc.get L 112 = some (.cell [i64 all])
def roundEx (own : List Int) (p : Part) : Ex := if p.of = -1 ∧ far ≤ minR own then .ret else .normal
def roundL (L : Ab.Loc) (P : List (List Int)) (all : Int) (own : List Int) (p : Part) : Ab.Loc :=
 if p.of = -1 then (if far ≤ minR own then L.put 64 (.cell [i64 far]) else L.put 112 (.cell [i64 (all + minR own)]))
 else L.put 288 (.arr 31 (es rowV (P.set p.of.toNat (plusR (P.getD p.of.toNat []) own))))
set_option maxHeartbeats 8000000 in
theorem e_round_top (t : List Part) {f : FuncId} {fst cap : List V} {c : Nat → Nat → Int} (hn : t.length ≤ 8) (p : Part) (i : Nat) (hi : i < t.length) (hp : p.of = -1) (L : Ab.Loc) (P : List (List Int)) (all : Int) {X : Int} (hX : X + M0 + X ≤ far) (hX0 : 0 ≤ X) (hP : Rows X t.length P)
 (s : Stk) (hc : CostOk s f fst cap c t.length) (hL : LeastF L s.length t f fst cap P all) (hall : -4000000000000000000 ≤ all ∧ all ≤ 4000000000000000000) :
 ∃ e2 fr2, Run T b79l4 [(2, .ptr s.length 32 0), (3, .ptr s.length 48 0), (4, .ptr s.length 64 0), (5, .ptr s.length 80 0), (7, .ptr s.length 112 0), (8, i64 i), (9, .ptr (s.length + 1 + 1) 144 0)] ([(144, .cell (cPart p))] :: [] :: L :: s) =
  some (roundEx (ownR t c P p i) p, e2, fr2 :: [] :: roundL L P all (ownR t c P p i) p :: s) := by
 obtain ⟨o, wt, ws, pc⟩ := p
 have hof : o = -1 := hp
 subst hof
 obtain ⟨h32, h48, ⟨r64, h64⟩, h80, h288, h112⟩ := hL
 have hM : X + M0 ≤ far := by have : M0 = 3000 := rfl; omega
 have hPl := hP.len
 have hq := hP.row i hi
 have q1 := hP.at hi
 have q2 := ats (P := P) (j := i) (by omega)
 have hown := ownR_B (t := t) (p := ⟨-1, wt, ws, pc⟩) hP hi hX0 (hc.small i · hi)
 have i1 : (i : Int) < t.length := by omega
 have hb : RowB X (if canCut t i = true then plusR (P.getD i []) (lostR ws) else zeroR) := by
  split
  ·have := hq.plus (rowB_lost ws); simpa using this
  ·exact rowB_zero.mono hX0
 have hl1 := e_least_l1 ⟨-1, wt, ws, pc⟩ i L s
 rw [lost_fold] at hl1
 have h2a := e_least_l2a ⟨-1, wt, ws, pc⟩ i hi L _ [] hM hX0 hb h48 s hc
 have h2b := e_least_l2b ⟨-1, wt, ws, pc⟩ i hi L _ (lostR ws) hM hX0 hb h48 s hc
 rw [own_fold _ _ hb.len] at h2a h2b
 have eo : costR (c i) (if canCut t i = true then plusR (P.getD i []) (lostR ws) else zeroR) = ownR t c P ⟨-1, wt, ws, pc⟩ i := rfl
 rw [eo] at h2a h2b
 simp only [List.length_range, cPart] at hl1 h2a h2b
 have hol := ownR_length t c P ⟨-1, wt, ws, pc⟩ i
 have hrow : Row (ownR t c P ⟨-1, wt, ws, pc⟩ i) := hown.row hM
 have hql := hq.len
 have hqr : Row (P.getD i []) := hq.row (by have : M0 = 3000 := rfl; omega)
 have hlr : Row (lostR ws) := (rowB_lost ws).row (by decide +kernel)
 have hmin := minR_B hown
 generalize ownR t c P ⟨-1, wt, ws, pc⟩ i = own at hown h2a h2b hol hrow hmin ⊢
 have w1 : IntKind.i64.wrap (all + minR own) = all + minR own := by
  have : M0 = 3000 := rfl
  refine wi _ ?_ ?_ <;> (simp only [far] at *; omega)
 generalize P.getD i [] = q at *
 have hz : Row zeroR := rowB_zero.row (by decide +kernel)
 cases hcc : canCut t i
 ·simp only [hcc, Bool.false_eq_true, if_false, if_true] at h2a
  have hm := fun lab => e_Min own hrow (s.length + 1 + 1) 160 lab ([(144, .cell (cPart ⟨-1, wt, ws, pc⟩)), (160, .cell (rowV own))] :: [] :: L :: s) (by simp) (by simp only [List.length_cons]; omega)
  simp only [cPart] at hm
  by_cases hmn : far ≤ minR own
  ·have hmn' : (1099511627776 : Int) ≤ minR own := hmn
   simp only [roundEx, roundL, hmn, if_true, and_self]
   refine ⟨[(4, .ptr s.length 64 0)], [(144, .cell (cPart ⟨-1, wt, ws, pc⟩)), (160, .cell (rowV own))], ?_⟩
   simp only [b79l4]
   simp (maxSteps := 1000000) (disch := first | omega | assumption | decide +kernel | (simp; done) | (simp; omega) | fail) [run_drawnK, h32, h48, h64, h80, h288, h112, hcc,  h2a, hm, hmn', hrow, hol, hPl, i1, rowV_take, setAll_row, far]
  ·have hmn' : ¬ (1099511627776 : Int) ≤ minR own := hmn
   have hmn2 : minR own < (1099511627776 : Int) := by omega
   simp only [roundEx, roundL, hmn, if_true, if_false, and_false]
   refine ⟨[(4, .ptr s.length 64 0), (7, .ptr s.length 112 0)], [(144, .cell (cPart ⟨-1, wt, ws, pc⟩)), (160, .cell (rowV own))], ?_⟩
   simp only [b79l4]
   simp (maxSteps := 1000000) (disch := first | omega | assumption | decide +kernel | (simp; done) | (simp; omega) | fail) [run_drawnK, h32, h48, h64, h80, h288, h112, hcc,  h2a, hm, hmn', hmn2, hrow, hol, hPl, i1, rowV_take, setAll_row, w1]
 ·simp only [hcc, Bool.false_eq_true, if_false, if_true] at h2b
  have hm := fun lab => e_Min own hrow (s.length + 1 + 1) 160 lab ([(144, .cell (cPart ⟨-1, wt, ws, pc⟩)), (160, .cell (rowV own)), (176, .cell (rowV (lostR ws)))] :: [] :: L :: s) (by simp) (by simp only [List.length_cons]; omega)
  simp only [cPart] at hm
  by_cases hmn : far ≤ minR own
  ·have hmn' : (1099511627776 : Int) ≤ minR own := hmn
   simp only [roundEx, roundL, hmn, if_true, and_self]
   refine ⟨[(4, .ptr s.length 64 0)], [(144, .cell (cPart ⟨-1, wt, ws, pc⟩)), (160, .cell (rowV own)), (176, .cell (rowV (lostR ws)))], ?_⟩
   simp only [b79l4]
   simp (maxSteps := 1000000) (disch := first | omega | assumption | decide +kernel | (simp; done) | (simp; omega) | fail) [run_drawnK, h32, h48, h64, h80, h288, h112, hcc, hl1, q1, q2, hqr, hlr, hql, h2b, hm, hmn', hrow, hol, hPl, i1, rowV_take, setAll_row, far]
  ·have hmn' : ¬ (1099511627776 : Int) ≤ minR own := hmn
   have hmn2 : minR own < (1099511627776 : Int) := by omega
   simp only [roundEx, roundL, hmn, if_true, if_false, and_false]
   refine ⟨[(4, .ptr s.length 64 0), (7, .ptr s.length 112 0)], [(144, .cell (cPart ⟨-1, wt, ws, pc⟩)), (160, .cell (rowV own)), (176, .cell (rowV (lostR ws)))], ?_⟩
   simp only [b79l4]
   simp (maxSteps := 1000000) (disch := first | omega | assumption | decide +kernel | (simp; done) | (simp; omega) | fail) [run_drawnK, h32, h48, h64, h80, h288, h112, hcc, hl1, q1, q2, hqr, hlr, hql, h2b, hm, hmn', hmn2, hrow, hol, hPl, i1, rowV_take, setAll_row, w1]
set_option maxHeartbeats 8000000 in
theorem e_round_in (t : List Part) {f : FuncId} {fst cap : List V} {c : Nat → Nat → Int} (hn : t.length ≤ 8) (p : Part) (i : Nat) (hi : i < t.length) (hof : ¬ p.of = -1) (hp : 0 ≤ p.of ∧ p.of < t.length) (L : Ab.Loc) (P : List (List Int)) (all : Int) {X : Int} (hX : X + M0 + X ≤ far) (hX0 : 0 ≤ X) (hP : Rows X t.length P)
 (s : Stk) (hc : CostOk s f fst cap c t.length) (hL : LeastF L s.length t f fst cap P all) (hall : -4000000000000000000 ≤ all ∧ all ≤ 4000000000000000000) :
 ∃ e2 fr2, Run T b79l4 [(2, .ptr s.length 32 0), (3, .ptr s.length 48 0), (4, .ptr s.length 64 0), (5, .ptr s.length 80 0), (7, .ptr s.length 112 0), (8, i64 i), (9, .ptr (s.length + 1 + 1) 144 0)] ([(144, .cell (cPart p))] :: [] :: L :: s) =
  some (roundEx (ownR t c P p i) p, e2, fr2 :: [] :: roundL L P all (ownR t c P p i) p :: s) := by
 obtain ⟨h32, h48, ⟨r64, h64⟩, h80, h288, h112⟩ := hL
 have hM : X + M0 ≤ far := by have : M0 = 3000 := rfl; omega
 have hPl := hP.len
 have hq := hP.row i hi
 have q1 := hP.at hi
 have q2 := ats (P := P) (j := i) (by omega)
 have hown := ownR_B (t := t) (p := p) hP hi hX0 (hc.small i · hi)
 have i1 : (i : Int) < t.length := by omega
 have hb : RowB X (if canCut t i = true then plusR (P.getD i []) (lostR p.waste) else zeroR) := by
  split
  ·have := hq.plus (rowB_lost p.waste); simpa using this
  ·exact rowB_zero.mono hX0
 have hl1 := e_least_l1 p i L s
 rw [lost_fold] at hl1
 have h2a := e_least_l2a p i hi L _ [] hM hX0 hb h48 s hc
 have h2b := e_least_l2b p i hi L _ (lostR p.waste) hM hX0 hb h48 s hc
 rw [own_fold _ _ hb.len] at h2a h2b
 have eo : costR (c i) (if canCut t i = true then plusR (P.getD i []) (lostR p.waste) else zeroR) = ownR t c P p i := rfl
 rw [eo] at h2a h2b
 simp only [List.length_range, cPart] at hl1 h2a h2b
 have hol := ownR_length t c P p i
 have hrow : Row (ownR t c P p i) := hown.row hM
 have hql := hq.len
 have hqr : Row (P.getD i []) := hq.row (by have : M0 = 3000 := rfl; omega)
 have hlr : Row (lostR p.waste) := (rowB_lost p.waste).row (by decide +kernel)
 have hmin := minR_B hown
 generalize ownR t c P p i = own at hown h2a h2b hol hrow hmin ⊢
 have w1 : IntKind.i64.wrap (all + minR own) = all + minR own := by
  have : M0 = 3000 := rfl
  refine wi _ ?_ ?_ <;> (simp only [far] at *; omega)
 have hr2 : ∃ q', P[p.of.toNat]? = some q' ∧ (∀ h, P[p.of.toNat]'h = q') ∧ Row q' ∧ q'.length = 31 ∧ P.getD p.of.toNat [] = q' := by
  have hj : p.of.toNat < t.length := by omega
  exact ⟨_, hP.at hj, ats (by omega), (hP.row _ hj).row (by have : M0 = 3000 := rfl; omega), (hP.row _ hj).len, rfl⟩
 generalize P.getD i [] = q at *
 have hz : Row zeroR := rowB_zero.row (by decide +kernel)
 obtain ⟨q', r1, r2, r3, r4, r5⟩ := hr2
 have j1 : p.of < t.length := by omega
 have j2 : 0 ≤ p.of := by omega
 have j3 : p.of.toNat < t.length := by omega
 cases hcc : canCut t i
 ·simp only [hcc, Bool.false_eq_true, if_false, if_true] at h2a
  simp only [roundEx, roundL, hof, if_false, false_and, r5]
  refine ⟨[(4, .ptr s.length 64 0), (7, .ptr s.length 112 0)], [(144, .cell (cPart p)), (160, .cell (rowV own))], ?_⟩
  simp only [b79l4]
  simp (maxSteps := 1000000) (disch := first | omega | assumption | decide +kernel | (simp; done) | (simp; omega) | fail) [run_drawnK, h32, h48, h64, h80, h288, h112, hcc,  h2a, hof, hrow, hol, hPl, i1, j1, j2, j3, r1, r2, r3, r4, rowV_take, setAll_row]
 ·simp only [hcc, Bool.false_eq_true, if_false, if_true] at h2b
  simp only [roundEx, roundL, hof, if_false, false_and, r5]
  refine ⟨[(4, .ptr s.length 64 0), (7, .ptr s.length 112 0)], [(144, .cell (cPart p)), (160, .cell (rowV own)), (176, .cell (rowV (lostR p.waste)))], ?_⟩
  simp only [b79l4]
  simp (maxSteps := 1000000) (disch := first | omega | assumption | decide +kernel | (simp; done) | (simp; omega) | fail) [run_drawnK, h32, h48, h64, h80, h288, h112, hcc, hl1, q1, q2, hqr, hlr, hql, h2b, hof, hrow, hol, hPl, i1, j1, j2, j3, r1, r2, r3, r4, rowV_take, setAll_row]
end Go.Proofs.Ytlcnoldkekcifaa

/-
  Cuts: the program's least.
-/
namespace Go.Proofs.Ytlcnoldkekcifaa
open Go.Ab
theorem e_Backward (t : List Part) (lab : Nat) (loc : Ab.Loc) (s : Stk) (h : loc.get lab = none) : den T 93 [.sl .no 6 (es cPart t)] lab (loc :: s) = some (.fn 112 [] [.ptr s.length lab 0], loc.put lab (.cell [.sl .no 6 (es cPart t)]) :: s) := by
 rw [den_fn t93 _ _ _ rfl]
 simp only [b93]
 simp (disch := first | omega | assumption | decide +kernel | (simp; done) | (simp; omega) | fail) [h, dedup, newLab, idxOf]
set_option maxHeartbeats 1000000 in
theorem e_back1 {bl : Nat} (t : List Part) (hn : t.length < 4611686018427387904) {σ : Type} (l : Nat) (Sf : Stk) (Lf : σ → Ab.Loc) (I : Nat → σ → Prop) (Y : σ → Part × Nat → σ × Bool) (h480 : ∀ a, Loc.get (Lf a) bl = some (.cell [.sl .no 6 (es cPart t)]))
 (hy : ∀ k a (hk : k < t.length), I k a → (∀ lab, denV T (.yld Sf.length l) [i64 ((t.length - 1 - k : Nat) : Int), .agg (cPart t[t.length - 1 - k])] lab ([] :: Lf a :: Sf) = some (.bool (Y a (t[t.length - 1 - k], t.length - 1 - k)).2, [] :: Lf (Y a (t[t.length - 1 - k], t.length - 1 - k)).1 :: Sf)) ∧
   ((Y a (t[t.length - 1 - k], t.length - 1 - k)).2 = true → I (k + 1) (Y a (t[t.length - 1 - k], t.length - 1 - k)).1)) (a : σ) (h0 : I 0 a) (lab : Nat) :
 den T 112 [.yld Sf.length l, .ptr Sf.length bl 0] lab (Lf a :: Sf) = some (.tup [], Lf (foldB Y t.zipIdx.reverse a).1 :: Sf) := by
 have hel : ∀ k (hk : k < t.zipIdx.reverse.length), t.zipIdx.reverse[k] = (t[t.length - 1 - k]'(by simp at hk; omega), t.length - 1 - k) := by
  intro k hk
  simp only [List.length_reverse, List.length_zipIdx] at hk
  simp only [List.getElem_reverse, List.getElem_zipIdx, List.length_zipIdx, Nat.zero_add]
 have key := loop_list_e (T := T) (live := [0, 1, 3]) (keep := []) (b := d112l0) (γ := Nat) t.zipIdx.reverse I (fun k _ => [(0, .yld Sf.length l), (1, .ptr Sf.length bl 0), (3, i64 ((t.length : Int) - 1 - k))]) (fun _ a => [] :: Lf a :: Sf) Y (fun (g : Nat) a => (.ret, [(0, .yld Sf.length l), (1, .ptr Sf.length bl 0), (3, i64 ((t.length : Int) - 1 - g)), (18, .bool true)], [] :: Lf a :: Sf))
  (fun a => (.exit 0, [(0, .yld Sf.length l), (1, .ptr Sf.length bl 0), (3, i64 (-1)), (8, .bool false)], [] :: Lf a :: Sf)) (by simp) (by simp) ?_ ?_ a h0 [(0, .yld Sf.length l), (1, .ptr Sf.length bl 0), (3, i64 ((t.length : Int) - 1))] ([] :: Lf a :: Sf) (by simp) (by simp)
 ·obtain ⟨_, hg⟩ := key
  change Run T b112l0 _ _ = _ at hg
  have w1 : IntKind.i64.wrap ((t.length : Int) - 1) = (t.length : Int) - 1 := wi _ (by omega) (by omega)
  generalize foldB Y t.zipIdx.reverse a = q at hg ⊢
  obtain ⟨a', bb⟩ := q
  rw [den_fn t112 _ _ _ rfl]
  simp only [b112]
  cases bb <;> simp (disch := first | omega | assumption | decide +kernel | (simp; done) | (simp; omega) | fail) [h480, w1, hg]
 ·intro k a hk hi
  have hk' : k < t.length := by simpa using hk
  obtain ⟨h1, h2⟩ := hy k a hk' hi
  rw [hel k hk]
  have q1 : (k : Int) ≤ (t.length : Int) - 1 := by omega
  have q2 : ((t.length : Int) - 1 - k).toNat = t.length - 1 - k := by omega
  have q3 : ((t.length - 1 - k : Nat) : Int) = (t.length : Int) - 1 - k := by omega
  have q4 : IntKind.i64.wrap ((t.length : Int) - 1 - k - 1) = (t.length : Int) - 1 - ((k : Int) + 1) := by rw [wi _ (by omega) (by omega)]; omega
  have q5 : t[t.length - 1 - k]? = some t[t.length - 1 - k] := List.getElem?_eq_getElem _
  rw [q3] at h1
  simp only [cPart] at h1
  generalize Y a (t[t.length - 1 - k], t.length - 1 - k) = y at h1 h2 ⊢
  obtain ⟨a', bb⟩ := y
  refine ⟨fun hb => ⟨?_, h2 hb⟩, fun hb => ⟨k, ?_⟩⟩
  ·dsimp only at hb h1 ⊢
   subst hb
   simp (disch := first | omega | assumption | decide +kernel | (simp; done) | (simp; omega) | fail) [h480, h1, q1, q2, q4, q5]
  ·dsimp only at hb h1 ⊢
   subst hb
   simp (disch := first | omega | assumption | decide +kernel | (simp; done) | (simp; omega) | fail) [h480, h1, q1, q2, q4, q5]
 ·intro a hi
  have q1 : (t.length : Int) - 1 - ((t.zipIdx.reverse.length : Nat) : Int) = -1 := by simp; omega
  rw [q1]
  simp
structure LS where
 P : List (List Int)
 all : Int
 res : Int
 fin : Bool
def stepY (t : List Part) (c : Nat → Nat → Int) (a : LS) (x : Part × Nat) : LS × Bool :=
 if x.1.of = -1 then
  (if far ≤ minR (ownR t c a.P x.1 x.2) then ({ a with res := far, fin := true }, false) else ({ a with all := a.all + minR (ownR t c a.P x.1 x.2) }, true))
 else ({ a with P := a.P.set x.1.of.toNat (plusR (a.P.getD x.1.of.toNat []) (ownR t c a.P x.1 x.2)) }, true)
def leastS (t : List Part) (c : Nat → Nat → Int) : LS × Bool := foldB (stepY t c) t.zipIdx.reverse ⟨List.replicate t.length nothingR, 0, 0, false⟩
def leastP (t : List Part) (c : Nat → Nat → Int) : Int := if (leastS t c).2 = true then (leastS t c).1.all else far
def XX (k : Nat) : Int := (2 ^ k - 1) * M0
theorem XX_succ (k : Nat) : XX (k + 1) = XX k + (XX k + M0) := by simp only [XX, M0, Int.pow_succ]; omega
theorem XX_le {k : Nat} (h : k ≤ 8) : 0 ≤ XX k ∧ XX k ≤ 765000 := by
 have : k = 0 ∨ k = 1 ∨ k = 2 ∨ k = 3 ∨ k = 4 ∨ k = 5 ∨ k = 6 ∨ k = 7 ∨ k = 8 := by omega
 rcases this with rfl | rfl | rfl | rfl | rfl | rfl | rfl | rfl | rfl <;> decide
def OfOk (t : List Part) : Prop := ∀ i (h : i < t.length), t[i].of = -1 ∨ 0 ≤ t[i].of ∧ t[i].of < i
structure LInv (t : List Part) (k : Nat) (a : LS) : Prop where
 rows : Rows (XX k) t.length a.P
 lo : -(k * 768000) ≤ a.all
 hi : a.all ≤ k * 768000
 fin : a.fin = false
theorem LInv.step {t : List Part} {c : Nat → Nat → Int} {k : Nat} {a : LS} (h : LInv t k a) (hk : k < t.length) (hn : t.length ≤ 8) (ho : OfOk t) (hc : ∀ i w, i < t.length → w < 31 → c i w < far → -M0 ≤ c i w ∧ c i w ≤ M0) (i : Nat) (hi : i < t.length)
 (hs : (stepY t c a (t[i], i)).2 = true) : LInv t (k + 1) (stepY t c a (t[i], i)).1 := by
 have hX := XX_le (k := k) (by omega)
 have hown := ownR_B (t := t) (p := t[i]) h.rows hi hX.1 (hc i · hi)
 have hmin := minR_B hown
 have hM : M0 = 3000 := rfl
 have hup : Rows (XX (k + 1)) t.length a.P := ⟨h.rows.len, fun j hj => (h.rows.row j hj).mono (by rw [XX_succ]; omega)⟩
 have h1 := h.lo
 have h2 := h.hi
 by_cases e : t[i].of = -1
 ·by_cases e2 : far ≤ minR (ownR t c a.P t[i] i)
  ·have es : stepY t c a (t[i], i) = ({ a with res := far, fin := true }, false) := by simp only [stepY]; rw [if_pos e, if_pos e2]
   rw [es] at hs; cases hs
  ·have es : stepY t c a (t[i], i) = ({ a with all := a.all + minR (ownR t c a.P t[i] i) }, true) := by simp only [stepY]; rw [if_pos e, if_neg e2]
   rw [es]
   generalize minR (ownR t c a.P t[i] i) = m at hmin e2 ⊢
   have hf : far = 1099511627776 := rfl
   exact ⟨hup, by push_cast; omega, by push_cast; omega, h.fin⟩
 ·have es : stepY t c a (t[i], i) = ({ a with P := a.P.set t[i].of.toNat (plusR (a.P.getD t[i].of.toNat []) (ownR t c a.P t[i] i)) }, true) := by simp only [stepY]; rw [if_neg e]
  rw [es]
  refine ⟨⟨by simp [h.rows.len], fun j hj => ?_⟩, by push_cast; omega, by push_cast; omega, h.fin⟩
  simp only [List.getD, List.getElem?_set]
  split
  ·rename_i ej
   subst ej
   have hlt : t[i].of.toNat < a.P.length := by rw [h.rows.len]; exact hj
   simp only [hlt, if_true, Option.getD_some]
   rw [XX_succ]
   exact (h.rows.row _ hj).plus hown
  ·exact hup.row j hj
def leastE (D : Nat) : Env := [(2, .ptr D 32 0), (3, .ptr D 48 0), (4, .ptr D 64 0), (5, .ptr D 80 0), (7, .ptr D 112 0), (30, .fn 112 [] [.ptr D 480 0])]
def leastLp (D : Nat) (x : LoopState) (y : Option Ex) : Entry := .loop [31, 32] b79l3 b79l4 (leastE D) x y
def leastL (D : Nat) (t : List Part) (f : FuncId) (fst cap : List V) (a : LS) (e : Entry) : Ab.Loc :=
 [(32, .cell [.sl .no 6 (es cPart t)]), (48, .cell [.fn f fst cap]), (64, .cell [i64 a.res]), (288, .arr 31 (es rowV a.P)), (80, .cell [.asl D 288 31 t.length 0 t.length]), (112, .cell [i64 a.all]), (480, .cell [.sl .no 6 (es cPart t)]), (20231, e)]
theorem leastL_F (D t f fst cap a e) : LeastF (leastL D t f fst cap a e) D t f fst cap a.P a.all := ⟨rfl, rfl, ⟨_, rfl⟩, rfl, rfl, rfl⟩
end Go.Proofs.Ytlcnoldkekcifaa

/-
  Cuts: the program's least, whole.
-/
namespace Go.Proofs.Ytlcnoldkekcifaa
open Go.Ab
def leastEnt (D : Nat) (a : LS) : Entry := if a.fin = true then leastLp D .done (some .ret) else leastLp D .ready none
def leastSt (D : Nat) (t : List Part) (f : FuncId) (fst cap : List V) (a : LS) : Ab.Loc := leastL D t f fst cap a (leastEnt D a)
set_option maxHeartbeats 1000000 in
theorem least_yield (t : List Part) {f : FuncId} {fst cap : List V} {c : Nat → Nat → Int} (hn : t.length ≤ 8) (ho : OfOk t) (s : Stk) (hc : CostOk s f fst cap c t.length) (k : Nat) (hk : k ≤ 7) (a : LS) (h : LInv t k a) (i : Nat) (hi : i < t.length) (lab : Nat) :
 denV T (.yld s.length 20231) [i64 i, .agg (cPart t[i])] lab ([] :: leastSt s.length t f fst cap a :: s) = some (.bool (stepY t c a (t[i], i)).2, [] :: leastSt s.length t f fst cap (stepY t c a (t[i], i)).1 :: s) := by
 have hX := XX_le (k := k) (by omega)
 have hf : far = 1099511627776 := rfl
 have hM : M0 = 3000 := rfl
 have hfin := h.fin
 have h1 := h.lo
 have h2 := h.hi
 have hoi := ho i hi
 have hown := ownR_B (t := t) (p := t[i]) h.rows hi hX.1 (hc.small i · hi)
 have top : ∀ (en : Entry), sget ([] :: leastL s.length t f fst cap a en :: s) s.length 20231 = some en := fun en => by
  rw [sget_cons, if_neg (by simp only [List.length_cons]; omega), sget_cons, if_pos rfl]; rfl
 have put : ∀ (b : LS) (en en' : Entry), sput ([] :: leastL s.length t f fst cap b en :: s) s.length 20231 en' = [] :: leastL s.length t f fst cap b en' :: s := fun b en en' => by
  rw [sput_cons, if_neg (by simp only [List.length_cons]; omega), sput_cons, if_pos rfl]; rfl
 obtain ⟨e2, fr2, hB⟩ : ∃ e2 fr2, Run T b79l4 [(2, .ptr s.length 32 0), (3, .ptr s.length 48 0), (4, .ptr s.length 64 0), (5, .ptr s.length 80 0), (7, .ptr s.length 112 0), (8, i64 i), (9, .ptr (s.length + 1 + 1) 144 0)]
  ([(144, .cell (cPart t[i]))] :: [] :: leastL s.length t f fst cap a (leastLp s.length .busy none) :: s) = some (roundEx (ownR t c a.P t[i] i) t[i], e2, fr2 :: [] :: roundL (leastL s.length t f fst cap a (leastLp s.length .busy none)) a.P a.all (ownR t c a.P t[i] i) t[i] :: s) := by
  by_cases e : t[i].of = -1
  ·exact e_round_top t hn t[i] i hi e _ a.P a.all (by omega) hX.1 h.rows s hc (leastL_F ..) ⟨by omega, by omega⟩
  ·exact e_round_in t hn t[i] i hi e (by omega) _ a.P a.all (by omega) hX.1 h.rows s hc (leastL_F ..) ⟨by omega, by omega⟩
 have e0 : leastSt s.length t f fst cap a = leastL s.length t f fst cap a (leastLp s.length .ready none) := by simp only [leastSt, leastEnt, hfin]; rfl
 rw [e0]
 have hA : Run T b79l3 (bindEnv [31, 32] [i64 i, .agg (cPart t[i])] (leastE s.length)) ([] :: [] :: leastL s.length t f fst cap a (leastLp s.length .ready none) :: s) =
  some (.normal, [(2, .ptr s.length 32 0), (3, .ptr s.length 48 0), (4, .ptr s.length 64 0), (5, .ptr s.length 80 0), (7, .ptr s.length 112 0), (8, i64 i), (9, .ptr (s.length + 1 + 1) 144 0)], [(144, .cell (cPart t[i]))] :: [] :: leastL s.length t f fst cap a (leastLp s.length .ready none) :: s) := by
  generalize t[i] = p
  generalize leastL s.length t f fst cap a (leastLp s.length .ready none) = L
  simp [b79l3, leastE, bindEnv]
 generalize hg : ownR t c a.P t[i] i = own at hB hown
 have main : ∀ (ex : Ex) (L3 : LS) , roundEx own t[i] = ex → roundL (leastL s.length t f fst cap a (leastLp s.length .busy none)) a.P a.all own t[i] = leastL s.length t f fst cap L3 (leastLp s.length .busy none) →
  denV T (.yld s.length 20231) [i64 i, .agg (cPart t[i])] lab ([] :: leastL s.length t f fst cap a (leastLp s.length .ready none) :: s) = some (.bool (yldB ex), [] :: leastL s.length t f fst cap L3 (yldE [31, 32] b79l3 b79l4 (leastE s.length) ex) :: s) := by
  intro ex L3 he hL
  rw [he, hL] at hB
  have := yld_run (T := T) (d := s.length) (l := 20231) (args := [i64 i, .agg (cPart t[i])]) (lab := lab) (ps := [31, 32]) (A := b79l3) (B := b79l4) (env := leastE s.length) (ex := ex) (st := .busy) (p := none)
   (s := [] :: leastL s.length t f fst cap a (leastLp s.length .ready none) :: s) (s3 := [] :: leastL s.length t f fst cap L3 (leastLp s.length .busy none) :: s) (top _) rfl hA (by simp only [List.length_cons]; omega) (e2 := e2) (fr2 := fr2) (by rw [put]; exact hB) (by
    rw [sget_cons, if_neg (by simp only [List.length_cons]; omega), sget_cons, if_pos rfl]; rfl)
  rw [this, put]
 by_cases e : t[i].of = -1
 ·by_cases e3 : far ≤ minR own
  ·have es : stepY t c a (t[i], i) = ({ a with res := far, fin := true }, false) := by simp only [stepY, hg]; rw [if_pos e, if_pos e3]
   rw [es, main .ret { a with res := far } (by simp [roundEx, e, e3]) (by simp only [roundL, e, e3, if_true]; rfl)]
   rfl
  ·have es : stepY t c a (t[i], i) = ({ a with all := a.all + minR own }, true) := by simp only [stepY, hg]; rw [if_pos e, if_neg e3]
   rw [es, main .normal { a with all := a.all + minR own } (by simp [roundEx, e3]) (by simp only [roundL, e, e3, if_true, if_false]; rfl)]
   simp only [yldB, yldE, leastSt, leastEnt, hfin]
   rfl
 ·have es : stepY t c a (t[i], i) = ({ a with P := a.P.set t[i].of.toNat (plusR (a.P.getD t[i].of.toNat []) own) }, true) := by simp only [stepY, hg]; rw [if_neg e]
  rw [es, main .normal { a with P := a.P.set t[i].of.toNat (plusR (a.P.getD t[i].of.toNat []) own) } (by simp [roundEx, e]) (by simp only [roundL, e, if_false]; rfl)]
  simp only [yldB, yldE, leastSt, leastEnt, hfin]
  rfl
set_option maxHeartbeats 1000000 in
theorem e_least_l0 (t : List Part) (f : FuncId) (fst cap : List V) (n : Nat) (hn : n ≤ 8) (s : Stk) (hcap : ∀ keep, V.mapAll (dropR s.length keep) cap = cap) (hcap1 : ∀ keep, V.mapAll (dropR s.length keep) fst = fst) :
 Run T b79l0 [(2, .ptr s.length 32 0), (3, .ptr s.length 48 0), (4, .ptr s.length 64 0), (5, .ptr s.length 80 0), (20, i64 n), (21, i64 0)] ([(32, .cell [.sl .no 6 (es cPart t)]), (48, .cell [.fn f fst cap]), (64, .cell [i64 0]), (288, .arr 31 (es rowV (List.replicate n zeroR))), (80, .cell [.asl s.length 288 31 n 0 n])] :: s) = some (.exit 0, [(2, .ptr s.length 32 0), (3, .ptr s.length 48 0), (4, .ptr s.length 64 0), (5, .ptr s.length 80 0), (20, i64 n), (21, i64 ((List.range n).length : Nat)), (22, .bool false)], [(32, .cell [.sl .no 6 (es cPart t)]), (48, .cell [.fn f fst cap]), (64, .cell [i64 0]), (288, .arr 31 (es rowV ((List.range n).foldl (fun P (k : Nat) => P.set k nothingR) (List.replicate n zeroR)))), (80, .cell [.asl s.length 288 31 n 0 n])] :: s) := by
 have key := loop_fold (T := T) (live := [2, 3, 4, 5, 20, 21]) (keep := [32, 48, 64, 80, 112, 144, 160, 176, 288, 480, 560, 768, 912, 1024, 1504, 1552]) (b := d79l0) (List.range n) (fun _ P => P.length = n ∧ ∀ j, j < n → (P.getD j []).length = 31) (fun P (k : Nat) => P.set k nothingR) (fun k (a : List (List Int)) => [(2, .ptr s.length 32 0), (3, .ptr s.length 48 0), (4, .ptr s.length 64 0), (5, .ptr s.length 80 0), (20, i64 n), (21, i64 (k : Nat))]) (fun k (a : List (List Int)) => [(32, .cell [.sl .no 6 (es cPart t)]), (48, .cell [.fn f fst cap]), (64, .cell [i64 0]), (288, .arr 31 (es rowV a)), (80, .cell [.asl s.length 288 31 n 0 n])] :: s) (fun (a : List (List Int)) => (.exit 0, [(2, .ptr s.length 32 0), (3, .ptr s.length 48 0), (4, .ptr s.length 64 0), (5, .ptr s.length 80 0), (20, i64 n), (21, i64 ((List.range n).length : Nat)), (22, .bool false)], [(32, .cell [.sl .no 6 (es cPart t)]), (48, .cell [.fn f fst cap]), (64, .cell [i64 0]), (288, .arr 31 (es rowV a)), (80, .cell [.asl s.length 288 31 n 0 n])] :: s)) (by simp) ?_ ?_ ?_ (List.replicate n zeroR) (⟨by simp, fun j hj => by rw [List.getD, List.getElem?_replicate, if_pos hj]; exact zeroR_length⟩) [(2, .ptr s.length 32 0), (3, .ptr s.length 48 0), (4, .ptr s.length 64 0), (5, .ptr s.length 80 0), (20, i64 n), (21, i64 0)] ([(32, .cell [.sl .no 6 (es cPart t)]), (48, .cell [.fn f fst cap]), (64, .cell [i64 0]), (288, .arr 31 (es rowV (List.replicate n zeroR))), (80, .cell [.asl s.length 288 31 n 0 n])] :: s) (by simp [hcap, hcap1]) (by simp [hcap, hcap1])
 ·exact key
 ·intro k a hk hi
  try simp only [List.length_range] at hk
  try simp only [List.getElem_range]
  have hk2 : (k : Int) < n := by omega
  have q1 : a[k]? = some (a.getD k []) := by simp [List.getD, List.getElem?_eq_getElem (show k < a.length by omega)]
  have q2 := ats (P := a) (j := k) (by omega)
  have q3 : (a.getD k []).length = 31 := hi.2 k hk
  have q4 : nothingR.length = 31 := by decide +kernel
  have q5 := hi.1
  generalize a.getD k [] = q at q1 q2 q3
  simp (maxSteps := 1000000) (disch := first | omega | assumption | decide +kernel | (simp; done) | (simp; omega) | fail) [run_drawnK, hcap, hcap1, hk2, hk, q1, q2, q3, q4, q5, setAll_row, wk k (by omega)]
 ·intro k a hk hi
  try simp only [List.length_range] at hk
  try simp only [List.getElem_range]
  refine ⟨by simp [hi.1], fun j hj => ?_⟩
  simp only [List.getD, List.getElem?_set]
  split
  ·rename_i e; subst e; rw [if_pos (by omega)]; decide +kernel
  ·exact hi.2 j hj
 ·intro a hi
  simp
theorem init_fold (n : Nat) : (List.range n).foldl (fun (P : List (List Int)) (k : Nat) => P.set k nothingR) (List.replicate n zeroR) = List.replicate n nothingR := by
 have := fold_set n (fun _ (_ : List Int) => nothingR) (List.replicate n zeroR) [] (by simp)
 rw [this]
 simp only [List.drop_replicate, Nat.sub_self, List.replicate_zero, List.append_nil]
 exact List.eq_replicate_iff.2 ⟨by simp, fun b hb => by simp at hb; exact hb.2.symm⟩
theorem leastS_inv (t : List Part) (c : Nat → Nat → Int) : (leastS t c).1.fin = !(leastS t c).2 ∧ ((leastS t c).2 = false → (leastS t c).1.res = far) := by
 have key : ∀ (l : List (Part × Nat)) (a : LS), a.fin = false → (foldB (stepY t c) l a).1.fin = !(foldB (stepY t c) l a).2 ∧ ((foldB (stepY t c) l a).2 = false → (foldB (stepY t c) l a).1.res = far) := by
  intro l
  induction l with
  | nil => intro a h; exact ⟨h, fun e => by cases e⟩
  | cons x l ih =>
    intro a h
    simp only [foldB]
    split
    ·rename_i hs
     refine ih _ ?_
     unfold stepY at hs ⊢
     split at hs
     ·rename_i e
      split at hs
      ·cases hs
      ·rename_i e2; rw [if_pos e, if_neg e2]; exact h
     ·rename_i e; rw [if_neg e]; exact h
    ·rename_i hs
     unfold stepY at hs ⊢
     split at hs
     ·rename_i e
      split at hs
      ·rename_i e2; rw [if_pos e, if_pos e2]; exact ⟨rfl, fun _ => rfl⟩
      ·exact absurd rfl hs
     ·exact absurd rfl hs
 exact key _ _ rfl
set_option maxHeartbeats 2000000 in
theorem e_least (t : List Part) {f : FuncId} {fst cap : List V} {c : Nat → Nat → Int} (hn : t.length ≤ 8) (ho : OfOk t) (s : Stk) (hc : CostOk s f fst cap c t.length) (hstr : V.stripAll cap = cap) (hstr1 : V.stripAll fst = fst) (lab) : den T 79 [.sl .no 6 (es cPart t), .fn f fst cap] lab s = some (i64 (leastP t c), s) := by
 have hcap : ∀ keep, V.mapAll (dropR s.length keep) cap = cap := fun keep => hc.keep s.length keep (Nat.le_refl _)
 have hcap1 : ∀ keep, V.mapAll (dropR s.length keep) fst = fst := fun keep => hc.keep1 s.length keep (Nat.le_refl _)
 have h0 := e_least_l0 t f fst cap t.length hn s hcap hcap1
 rw [init_fold] at h0
 simp only [List.length_range] at h0
 have hinit : LInv t 0 ⟨List.replicate t.length nothingR, 0, 0, false⟩ := ⟨⟨by simp, fun j hj => by rw [List.getD, List.getElem?_replicate, if_pos hj]; exact rowB_nothing⟩, by simp, by simp, rfl⟩
 have hb := fun lab => e_back1 (bl := 480) t (by omega) 20231 s (leastSt s.length t f fst cap) (fun k a => LInv t k a) (stepY t c) (fun a => rfl) (fun k a hk hi => by
  have hi2 : t.length - 1 - k < t.length := by omega
  exact ⟨fun lab => least_yield t hn ho s hc k (by omega) a hi (t.length - 1 - k) hi2 lab, fun hs => hi.step hk hn ho hc.small (t.length - 1 - k) hi2 hs⟩) ⟨List.replicate t.length nothingR, 0, 0, false⟩ hinit lab
 have e1 : foldB (stepY t c) t.zipIdx.reverse ⟨List.replicate t.length nothingR, 0, 0, false⟩ = leastS t c := rfl
 rw [e1] at hb
 have hfin := leastS_inv t c
 unfold leastP
 simp only [leastSt, leastEnt, leastL, leastLp, leastE, Bool.false_eq_true, if_false] at hb
 generalize leastS t c = q at hb hfin ⊢
 obtain ⟨⟨P, all, res, fin⟩, b⟩ := q
 obtain ⟨f1, f2⟩ := hfin
 dsimp only at f1 f2 hb ⊢
 have hB := fun lab loc s h => e_Backward t lab loc s h
 have l1 : (t.length : Int) < 140737488355328 := by omega
 have l2 : (t.length : Int) * 248 ≤ 140737488355328 := by omega
 have l3 : List.replicate t.length (rowV zeroR) = es rowV (List.replicate t.length zeroR) := by simp [es]
 rw [den_fn t79 _ _ _ rfl]
 simp only [b79]
 cases b
 ·have f3 := f2 rfl
  simp only [f1, f3, Bool.not_false, if_true] at hb
  simp (maxSteps := 1000000) (disch := first | omega | assumption | decide +kernel | (simp; done) | (simp; omega) | fail) [run_drawnK, h0, hb, hB, hcap, hcap1, hstr, hstr1, l1, l2, l3, far]
 ·simp only [f1, Bool.not_true, Bool.false_eq_true, if_false] at hb
  simp (maxSteps := 1000000) (disch := first | omega | assumption | decide +kernel | (simp; done) | (simp; omega) | fail) [run_drawnK, h0, hb, hB, hcap, hcap1, hstr, hstr1, l1, l2, l3, far]
end Go.Proofs.Ytlcnoldkekcifaa

/-
  Cuts: costs of truths; between.
-/
namespace Go.Proofs.Ytlcnoldkekcifaa
open Go.Ab
structure EachOk (S : Stk) (f : FuncId) (fst cap : List V) (e : Nat → Int) (n : Nat) : Prop where
 call : ∀ (fr : Stk) (i : Nat) (lab : Nat), i < n → den T f (fst ++ i64 i :: cap) lab (fr ++ S) = some (i64 (e i), fr ++ S)
 keep : ∀ D keep, S.length ≤ D → V.mapAll (dropR D keep) cap = cap
 keep1 : ∀ D keep, S.length ≤ D → V.mapAll (dropR D keep) fst = fst
 small : ∀ i, i < n → -100 ≤ e i ∧ e i ≤ 100
theorem EachOk.up {S : Stk} {f fst cap e n} (h : EachOk S f fst cap e n) (F : Ab.Loc) : EachOk (F :: S) f fst cap e n :=
 ⟨fun fr i lab hi => by have := h.call (fr ++ [F]) i lab hi; simpa using this, fun D keep hD => h.keep D keep (by simp at hD; omega), fun D keep hD => h.keep1 D keep (by simp at hD; omega), h.small⟩
theorem CostOk.up {S : Stk} {f fst cap c n} (h : CostOk S f fst cap c n) (F : Ab.Loc) : CostOk (F :: S) f fst cap c n :=
 ⟨fun fr i w lab hi hw => by have := h.call (fr ++ [F]) i w lab hi hw; simpa using this, fun D keep hD => h.keep D keep (by simp at hD; omega), fun D keep hD => h.keep1 D keep (by simp at hD; omega), h.small⟩
def truthC (t : List Part) (c : Nat → Nat → Int) (i w : Nat) : Int := if within w (t.getD i default).weight.lo (t.getD i default).weight.hi = true then c i w else far
theorem e_truth1 (t : List Part) {f : FuncId} {fst cap : List V} {c : Nat → Nat → Int} (d l1 l2 : Nat) (i w : Nat) (hi : i < t.length) (hl : t.length < 4611686018427387904) (s : Stk) (hd : d < s.length)
 (h1 : sget s d l1 = some (.cell [.sl .no 6 (es cPart t)])) (h2 : sget s d l2 = some (.cell [.fn f fst cap]))
 (hc : ∀ (F : Ab.Loc) (lab), den T f (fst ++ i64 i :: i64 w :: cap) lab (F :: s) = some (i64 (c i w), F :: s)) (lab) :
 den T 125 [i64 i, i64 w, .ptr d l1 0, .ptr d l2 0] lab s = some (i64 (truthC t c i w), s) := by
 have hd2 : ¬ d = s.length := by omega
 have e : t.getD i default = t[i] := by simp [List.getD, hi]
 unfold truthC; rw [e]
 rw [den_fn t125 _ _ _ rfl]
 simp only [b125]
 cases h : within w t[i].weight.lo t[i].weight.hi <;> simp (maxSteps := 1000000) (disch := first | omega | assumption | decide +kernel | (simp; done) | (simp; omega) | fail) [h, h1, h2, hd2, hi, hc, far]
theorem sget_app (fr S : Stk) (d l : Nat) (h : d < S.length) : sget (fr ++ S) d l = sget S d l := by
 induction fr with
 | nil => rfl
 | cons F fr ih => rw [List.cons_append, sget_cons, if_neg (by simp; omega), ih]
theorem truth_ok (t : List Part) {f : FuncId} {fst cap : List V} {c : Nat → Nat → Int} (d l1 l2 : Nat) (hl : t.length < 4611686018427387904) (S : Stk) (hd : d < S.length)
 (h1 : sget S d l1 = some (.cell [.sl .no 6 (es cPart t)])) (h2 : sget S d l2 = some (.cell [.fn f fst cap])) (hc : CostOk S f fst cap c t.length) :
 CostOk S 125 [] [.ptr d l1 0, .ptr d l2 0] (truthC t c) t.length where
 call fr i w lab hi hw := e_truth1 t d l1 l2 i w hi hl (fr ++ S) (by simp; omega) (by rw [sget_app _ _ _ _ hd]; exact h1) (by rw [sget_app _ _ _ _ hd]; exact h2)
  (fun F lab => by have := hc.call (F :: fr) i w lab hi hw; simpa using this) lab
 keep D keep hD := by
  have : ¬ d = D := by omega
  simp [dropR, this]
 keep1 D keep hD := by simp
 small i w hi hw := by
  unfold truthC; split
  ·exact hc.small i w hi hw
  ·intro h; exact absurd h (by simp)
theorem e_bet1 {f : FuncId} {fst cap : List V} {e : Nat → Int} {n : Nat} (d l : Nat) (i w : Nat) (hi : i < n) (hw : w < 31) (s : Stk) (hd : d < s.length) (h1 : sget s d l = some (.cell [.fn f fst cap])) (hs : -100 ≤ e i ∧ e i ≤ 100)
 (hc : ∀ (F : Ab.Loc) (lab), den T f (fst ++ i64 i :: cap) lab (F :: s) = some (i64 (e i), F :: s)) (lab) :
 den T 116 [i64 i, i64 w, .ptr d l 0] lab s = some (i64 (e i * w), s) := by
 have hd2 : ¬ d = s.length := by omega
 have b1 : -100 * 31 ≤ e i * w := by
  have : e i * (w : Int) ≥ -100 * w := Int.mul_le_mul_of_nonneg_right hs.1 (by omega)
  omega
 have b2 : e i * w ≤ 100 * 31 := by
  have : e i * (w : Int) ≤ 100 * w := Int.mul_le_mul_of_nonneg_right hs.2 (by omega)
  omega
 have w1 : IntKind.i64.wrap (e i * w) = e i * w := wi _ (by omega) (by omega)
 have w2 : IntKind.i64.wrap (-(e i * w)) = -(e i * w) := wi _ (by omega) (by omega)
 have w3 : IntKind.i64.wrap (-e i) = -e i := wi _ (by omega) (by omega)
 rw [den_fn t116 _ _ _ rfl]
 simp only [b116]
 simp (maxSteps := 1000000) (disch := first | omega | assumption | decide +kernel | (simp; done) | (simp; omega) | fail) [h1, hd2, hc, w1, w2, w3, Int.neg_mul]
theorem bet1_ok {f : FuncId} {fst cap : List V} {e : Nat → Int} {n : Nat} (d l : Nat) (S : Stk) (hd : d < S.length) (h1 : sget S d l = some (.cell [.fn f fst cap])) (hc : EachOk S f fst cap e n) :
 CostOk S 116 [] [.ptr d l 0] (fun i w => e i * w) n where
 call fr i w lab hi hw := e_bet1 d l i w hi hw (fr ++ S) (by simp; omega) (by rw [sget_app _ _ _ _ hd]; exact h1) (hc.small i hi)
  (fun F lab => by have := hc.call (F :: fr) i lab hi; simpa using this) lab
 keep D keep hD := by
  have : ¬ d = D := by omega
  simp [dropR, this]
 keep1 D keep hD := by simp
 small i w hi hw _ := by
  have hs := hc.small i hi
  have b1 : e i * (w : Int) ≥ -100 * w := Int.mul_le_mul_of_nonneg_right hs.1 (by omega)
  have b2 : e i * (w : Int) ≤ 100 * w := Int.mul_le_mul_of_nonneg_right hs.2 (by omega)
  simp only [Int.neg_mul, M0]
  omega
theorem e_bet2 {f : FuncId} {fst cap : List V} {e : Nat → Int} {n : Nat} (d l : Nat) (i w : Nat) (hi : i < n) (hw : w < 31) (s : Stk) (hd : d < s.length) (h1 : sget s d l = some (.cell [.fn f fst cap])) (hs : -100 ≤ e i ∧ e i ≤ 100)
 (hc : ∀ (F : Ab.Loc) (lab), den T f (fst ++ i64 i :: cap) lab (F :: s) = some (i64 (e i), F :: s)) (lab) :
 den T 117 [i64 i, i64 w, .ptr d l 0] lab s = some (i64 (-e i * w), s) := by
 have hd2 : ¬ d = s.length := by omega
 have b1 : -100 * 31 ≤ e i * w := by
  have : e i * (w : Int) ≥ -100 * w := Int.mul_le_mul_of_nonneg_right hs.1 (by omega)
  omega
 have b2 : e i * w ≤ 100 * 31 := by
  have : e i * (w : Int) ≤ 100 * w := Int.mul_le_mul_of_nonneg_right hs.2 (by omega)
  omega
 have w1 : IntKind.i64.wrap (e i * w) = e i * w := wi _ (by omega) (by omega)
 have w2 : IntKind.i64.wrap (-(e i * w)) = -(e i * w) := wi _ (by omega) (by omega)
 have w3 : IntKind.i64.wrap (-e i) = -e i := wi _ (by omega) (by omega)
 rw [den_fn t117 _ _ _ rfl]
 simp only [b117]
 simp (maxSteps := 1000000) (disch := first | omega | assumption | decide +kernel | (simp; done) | (simp; omega) | fail) [h1, hd2, hc, w1, w2, w3, Int.neg_mul]
theorem bet2_ok {f : FuncId} {fst cap : List V} {e : Nat → Int} {n : Nat} (d l : Nat) (S : Stk) (hd : d < S.length) (h1 : sget S d l = some (.cell [.fn f fst cap])) (hc : EachOk S f fst cap e n) :
 CostOk S 117 [] [.ptr d l 0] (fun i w => -e i * w) n where
 call fr i w lab hi hw := e_bet2 d l i w hi hw (fr ++ S) (by simp; omega) (by rw [sget_app _ _ _ _ hd]; exact h1) (hc.small i hi)
  (fun F lab => by have := hc.call (F :: fr) i lab hi; simpa using this) lab
 keep D keep hD := by
  have : ¬ d = D := by omega
  simp [dropR, this]
 keep1 D keep hD := by simp
 small i w hi hw _ := by
  have hs := hc.small i hi
  have b1 : e i * (w : Int) ≥ -100 * w := Int.mul_le_mul_of_nonneg_right hs.1 (by omega)
  have b2 : e i * (w : Int) ≤ 100 * w := Int.mul_le_mul_of_nonneg_right hs.2 (by omega)
  simp only [Int.neg_mul, M0]
  omega
end Go.Proofs.Ytlcnoldkekcifaa

/-
  Cuts: between.
-/
namespace Go.Proofs.Ytlcnoldkekcifaa
open Go.Ab
def lowP (t : List Part) (e : Nat → Int) : Int := leastP t (truthC t fun i w => e i * w)
def highP (t : List Part) (e : Nat → Int) : Int := leastP t (truthC t fun i w => -e i * w)
theorem foldB_inv {A B : Type} (f : A → B → A × Bool) (Inv : Nat → A → Prop) : ∀ (l : List B) (k : Nat) (a : A), Inv k a → (∀ j (hj : j < l.length) a, Inv (k + j) a → (f a l[j]).2 = true → Inv (k + j + 1) (f a l[j]).1) →
 (foldB f l a).2 = true → Inv (k + l.length) (foldB f l a).1
 | [], k, a, h, _, _ => h
 | x :: l, k, a, h, hs, hb => by
   simp only [foldB] at hb ⊢
   by_cases e : (f a x).2 = true
   ·rw [if_pos e] at hb ⊢
    have h1 := hs 0 (by simp) a h e
    have := foldB_inv f Inv l (k + 1) (f a x).1 h1 (fun j hj a ha he => by
     have := hs (j + 1) (by simpa using hj) a (by simpa [Nat.add_assoc, Nat.add_comm 1] using ha) (by simpa using he)
     simpa [Nat.add_assoc, Nat.add_comm 1] using this) hb
    simpa [Nat.add_assoc, Nat.add_comm 1] using this
   ·rw [if_neg e] at hb
    exact absurd hb e
theorem leastP_small (t : List Part) (c : Nat → Nat → Int) (hn : t.length ≤ 8) (ho : OfOk t) (hc : ∀ i w, i < t.length → w < 31 → c i w < far → -M0 ≤ c i w ∧ c i w ≤ M0) :
 leastP t c = far ∨ -6144000 ≤ leastP t c ∧ leastP t c ≤ 6144000 := by
 unfold leastP
 split
 ·rename_i hb
  right
  have := foldB_inv (stepY t c) (LInv t) t.zipIdx.reverse 0 ⟨List.replicate t.length nothingR, 0, 0, false⟩ ⟨⟨by simp, fun j hj => by rw [List.getD, List.getElem?_replicate, if_pos hj]; exact rowB_nothing⟩, by simp, by simp, rfl⟩
   (fun j hj a ha he => by
     have hj' : j < t.length := by simpa using hj
     have e : t.zipIdx.reverse[j] = (t[t.length - 1 - j], t.length - 1 - j) := by simp [List.getElem_reverse]
     rw [Nat.zero_add] at ha ⊢
     rw [e] at he ⊢
     exact ha.step hj' hn ho hc _ _ he) hb
  have h1 := this.lo
  have h2 := this.hi
  simp only [List.length_reverse, List.length_zipIdx, Nat.zero_add] at h1 h2
  unfold leastS
  omega
 ·left; rfl
theorem e_truth (t : List Part) (g : FuncId) (d l : Nat) (F : Ab.Loc) (s : Stk) (hd : d ≤ s.length) (lab : Nat) (h1 : Loc.get F lab = none) (h2 : Loc.get F (lab + 1000) = none) :
 den T 115 [.sl .no 6 (es cPart t), .fn g [] [.ptr d l 0]] lab (F :: s) = some (.fn 125 [] [.ptr s.length lab 0, .ptr s.length (lab + 1000) 0], (Loc.put (Loc.put F lab (.cell [.sl .no 6 (es cPart t)])) (lab + 1000) (.cell [.fn g [] [.ptr d l 0]])) :: s) := by
 have hd2 : ¬ d = s.length + 1 := by omega
 rw [den_fn t115 _ _ _ rfl]
 simp only [b115]
 simp (maxSteps := 1000000) (disch := first | omega | assumption | decide +kernel | (simp; done) | (simp; omega) | fail) [hd2, h1, h2]
theorem bet_small {e : Nat → Int} {n : Nat} (h : ∀ i, i < n → -100 ≤ e i ∧ e i ≤ 100) (i w : Nat) (hi : i < n) (hw : w < 31) : (-M0 ≤ e i * w ∧ e i * w ≤ M0) ∧ (-M0 ≤ -e i * w ∧ -e i * w ≤ M0) := by
 have hs := h i hi
 have b1 : e i * (w : Int) ≥ -100 * w := Int.mul_le_mul_of_nonneg_right hs.1 (by omega)
 have b2 : e i * (w : Int) ≤ 100 * w := Int.mul_le_mul_of_nonneg_right hs.2 (by omega)
 simp only [Int.neg_mul, M0]
 omega
theorem truthC_small {t : List Part} {c : Nat → Nat → Int} {i w : Nat} (h : -M0 ≤ c i w ∧ c i w ≤ M0) (hf : truthC t c i w < far) : -M0 ≤ truthC t c i w ∧ truthC t c i w ≤ M0 := by
 unfold truthC at *
 split
 ·exact h
 ·rename_i e; rw [if_neg e] at hf; exact absurd hf (by simp)
theorem e_between (t : List Part) {f : FuncId} {fst cap : List V} {e : Nat → Int} (hn : t.length ≤ 8) (ho : OfOk t) (s : Stk) (hc : EachOk s f fst cap e t.length) (hstr : V.stripAll cap = cap) (hstr1 : V.stripAll fst = fst) (lab) :
 den T 99 [.sl .no 6 (es cPart t), .fn f fst cap] lab s = some (.tup [.agg [i64 (lowP t e), i64 (-highP t e)], .bool (decide (lowP t e < far))], s) := by
 have hL : ∀ (F : Ab.Loc) (lab), Loc.get F 176 = some (.cell [.sl .no 6 (es cPart t)]) → Loc.get F 1176 = some (.cell [.fn 116 [] [.ptr s.length 48 0]]) → Loc.get F 48 = some (.cell [.fn f fst cap]) →
  den T 79 [.sl .no 6 (es cPart t), .fn 125 [] [.ptr s.length 176 0, .ptr s.length 1176 0]] lab (F :: s) = some (i64 (lowP t e), F :: s) := by
  intro F lab g1 g2 g3
  exact e_least t hn ho (F :: s) (truth_ok t s.length 176 1176 (by omega) (F :: s) (by simp) (by simp [g1]) (by simp [g2]) (bet1_ok s.length 48 (F :: s) (by simp) (by simp [g3]) (hc.up F))) rfl rfl lab
 have hH : ∀ (F : Ab.Loc) (lab), Loc.get F 256 = some (.cell [.sl .no 6 (es cPart t)]) → Loc.get F 1256 = some (.cell [.fn 117 [] [.ptr s.length 48 0]]) → Loc.get F 48 = some (.cell [.fn f fst cap]) →
  den T 79 [.sl .no 6 (es cPart t), .fn 125 [] [.ptr s.length 256 0, .ptr s.length 1256 0]] lab (F :: s) = some (i64 (highP t e), F :: s) := by
  intro F lab g1 g2 g3
  exact e_least t hn ho (F :: s) (truth_ok t s.length 256 1256 (by omega) (F :: s) (by simp) (by simp [g1]) (by simp [g2]) (bet2_ok s.length 48 (F :: s) (by simp) (by simp [g3]) (hc.up F))) rfl rfl lab
 have hb1 := leastP_small t (truthC t fun i w => e i * w) hn ho (fun i w hi hw => truthC_small (bet_small hc.small i w hi hw).1)
 have hb2 := leastP_small t (truthC t fun i w => -e i * w) hn ho (fun i w hi hw => truthC_small (bet_small hc.small i w hi hw).2)
 change lowP t e = far ∨ -6144000 ≤ lowP t e ∧ lowP t e ≤ 6144000 at hb1
 change highP t e = far ∨ -6144000 ≤ highP t e ∧ highP t e ≤ 6144000 at hb2
 have w1 : IntKind.i64.wrap (-highP t e) = -highP t e := wi _ (by simp only [far] at hb2; omega) (by simp only [far] at hb2; omega)
 rw [den_fn t99 _ _ _ rfl]
 simp only [b99]
 simp (maxSteps := 1000000) (disch := first | omega | assumption | decide +kernel | (simp; done) | (simp; omega) | fail) [w1, far, hL, hH, e_truth, hstr, hstr1]
 rfl
theorem tblOk_len {t : List Part} (h : tblOk t = true) : t.length ≤ 8 := by simp only [tblOk, Bool.and_eq_true, decide_eq_true_eq] at h; exact h.1
theorem tblOk_part {t : List Part} (h : tblOk t = true) (i : Nat) (hi : i < t.length) : partOk t[i] i = true := by
 simp only [tblOk, Bool.and_eq_true, partsOk, allB, List.all_eq_true] at h
 exact h.2 (t[i], i) (by rw [List.mem_zipIdx_iff_getElem?]; simp [hi])
theorem tblOk_of {t : List Part} (h : tblOk t = true) : OfOk t := by
 intro i hi
 have := tblOk_part h i hi
 simp only [partOk, Bool.and_eq_true, within, decide_eq_true_eq] at this
 omega
def spanR (t : List Part) (is : Bool) (e : Nat → Int) : (Sp × Int) := if askE t is = 0 then (if lowP t e < far then (⟨lowP t e, -highP t e⟩, 0) else (⟨0, 0⟩, 3)) else (⟨0, 0⟩, askE t is)
theorem e_span (t : List Part) (is : Bool) {f : FuncId} {fst cap : List V} {e : Nat → Int} (s : Stk) (hc : EachOk s f fst cap e t.length) (hstr : V.stripAll cap = cap) (hstr1 : V.stripAll fst = fst) (lab) :
 den T 61 [.sl .no 6 (es cPart t), .bool is, .fn f fst cap] lab s = some (.tup [.agg [i64 (spanR t is e).1.lo, i64 (spanR t is e).1.hi], i64 (spanR t is e).2], s) := by
 unfold spanR askE
 rw [den_fn t61 _ _ _ rfl]
 simp only [b61]
 by_cases h : tblOk t = true
 ·have hB : ∀ (F : Ab.Loc) (lab), den T 99 [.sl .no 6 (es cPart t), .fn f fst cap] lab (F :: s) = some (.tup [.agg [i64 (lowP t e), i64 (-highP t e)], .bool (decide (lowP t e < far))], F :: s) :=
   fun F lab => e_between t (tblOk_len h) (tblOk_of h) (F :: s) (hc.up F) hstr hstr1 lab
  cases is
  ·simp (maxSteps := 1000000) (disch := first | omega | assumption | decide +kernel | (simp; done) | (simp; omega) | fail) [h, askE]
  ·by_cases h2 : lowP t e < far
   ·simp (maxSteps := 1000000) (disch := first | omega | assumption | decide +kernel | (simp; done) | (simp; omega) | fail) [h, askE, hB, hstr, hstr1, h2]
   ·simp (maxSteps := 1000000) (disch := first | omega | assumption | decide +kernel | (simp; done) | (simp; omega) | fail) [h, askE, hB, hstr, hstr1, h2]
 ·have h' : tblOk t = false := by simpa using h
  simp (maxSteps := 1000000) (disch := first | omega | assumption | decide +kernel | (simp; done) | (simp; omega) | fail) [h', askE]
end Go.Proofs.Ytlcnoldkekcifaa

/-
  Cuts: Weight, Lost, Whole.
-/
namespace Go.Proofs.Ytlcnoldkekcifaa
open Go.Ab
theorem part_at {t : List Part} {i : Nat} (hi : i < t.length) : t.getD i default = t[i] := by simp [List.getD, hi]
def weightE (n : Int) (i : Nat) : Int := if (i : Int) = n then 1 else 0
theorem e_Weight1 (n : Int) (d l i : Nat) (hi : i < 9000000000000000000) (s : Stk) (hd : d < s.length) (h1 : sget s d l = some (.cell [i64 n])) (lab) :
 den T 63 [i64 i, .ptr d l 0] lab s = some (i64 (weightE n i), s) := by
 have hd2 : ¬ d = s.length := by omega
 rw [den_fn t63 _ _ _ rfl]
 simp only [b63]
 by_cases h : (i : Int) = n <;> simp (maxSteps := 1000000) (disch := first | omega | assumption | decide +kernel | (simp; done) | (simp; omega) | fail) [h1, hd2, h, weightE]
theorem weight_ok (n : Int) (d l N : Nat) (hN : N ≤ 8) (S : Stk) (hd : d < S.length) (h1 : sget S d l = some (.cell [i64 n])) : EachOk S 63 [] [.ptr d l 0] (weightE n) N where
 call fr i lab hi := e_Weight1 n d l i (by omega) (fr ++ S) (by simp; omega) (by rw [sget_app _ _ _ _ hd]; exact h1) lab
 keep D keep hD := by
  have : ¬ d = D := by omega
  simp [dropR, this]
 keep1 D keep hD := by simp
 small i hi := by unfold weightE; split <;> omega
theorem e_span' (t : List Part) (is : Bool) {f : FuncId} {fst cap : List V} {e : Nat → Int} (s : Stk) (hc : t.length ≤ 8 → EachOk s f fst cap e t.length) (hstr : V.stripAll cap = cap) (hstr1 : V.stripAll fst = fst) (lab) :
 den T 61 [.sl .no 6 (es cPart t), .bool is, .fn f fst cap] lab s = some (.tup [.agg [i64 (spanR t is e).1.lo, i64 (spanR t is e).1.hi], i64 (spanR t is e).2], s) := by
 by_cases h : tblOk t = true
 ·exact e_span t is s (hc (tblOk_len h)) hstr hstr1 lab
 ·have h' : tblOk t = false := by simpa using h
  unfold spanR askE
  rw [den_fn t61 _ _ _ rfl]
  simp only [b61]
  simp (maxSteps := 1000000) (disch := first | omega | assumption | decide +kernel | (simp; done) | (simp; omega) | fail) [h', askE]
@[simp] theorem e_Weight (t : List Part) (n : Int) (hl : t.length < 4611686018427387904) (lab s) :
 den T 18 [.sl .no 6 (es cPart t), i64 n] lab s = some (.tup [.agg [i64 (spanR t (isPart t n) (weightE n)).1.lo, i64 (spanR t (isPart t n) (weightE n)).1.hi], i64 (spanR t (isPart t n) (weightE n)).2], s) := by
 have hS : ∀ (F : Ab.Loc) (lab), Loc.get F 48 = some (.cell [i64 n]) → den T 61 [.sl .no 6 (es cPart t), .bool (isPart t n), .fn 63 [] [.ptr s.length 48 0]] lab (F :: s) = some (.tup [.agg [i64 (spanR t (isPart t n) (weightE n)).1.lo, i64 (spanR t (isPart t n) (weightE n)).1.hi], i64 (spanR t (isPart t n) (weightE n)).2], F :: s) := fun F lab g =>
  e_span' t _ (F :: s) (fun h => weight_ok n s.length 48 t.length h (F :: s) (by simp) (by simp [g])) rfl rfl lab
 rw [den_fn t18 _ _ _ rfl]
 simp only [b18]
 simp (maxSteps := 1000000) (disch := first | omega | assumption | decide +kernel | (simp; done) | (simp; omega) | fail) [hS]
end Go.Proofs.Ytlcnoldkekcifaa

/-
  Cuts: away, change, Changed.
-/
namespace Go.Proofs.Ytlcnoldkekcifaa
open Go.Ab
def awayS (s : Sp) (w : Int) : Int := max (max 0 (s.lo - w)) (w - s.hi)
def awayC (t : List Part) (i w : Nat) : Int := awayS (t.getD i default).weight w
theorem tblOk_w {t : List Part} (h : tblOk t = true) (i : Nat) (hi : i < t.length) : 0 ≤ t[i].weight.lo ∧ t[i].weight.lo ≤ t[i].weight.hi ∧ t[i].weight.hi ≤ 30 ∧ 0 ≤ t[i].waste.lo ∧ t[i].waste.lo ≤ t[i].waste.hi ∧ t[i].waste.hi ≤ 30 ∧ 0 ≤ t[i].pence ∧ t[i].pence ≤ 99 := by
 have := tblOk_part h i hi
 simp only [partOk, Bool.and_eq_true, within, spanOk, decide_eq_true_eq] at this
 omega
theorem e_away07 (x0 : Int) (x1 : Int) (w : Int) (hx : 0 ≤ x0 ∧ x0 ≤ 100) (hx1 : 0 ≤ x1 ∧ x1 ≤ 100) (hw : 0 ≤ w ∧ w ≤ 100) (lab s) : den T 82 [.agg [i64 x0, i64 x1], i64 w] lab s = some (i64 (awayS (⟨x0, x1⟩ : Sp) w), s) := by
 have w1 : IntKind.i64.wrap (x0 - w) = x0 - w := wi _ (by omega) (by omega)
 have w2 : IntKind.i64.wrap (w - x1) = w - x1 := wi _ (by omega) (by omega)
 rw [den_fn t82 _ _ _ rfl]
 simp only [b82]
 simp (maxSteps := 1000000) (disch := first | omega | assumption | decide +kernel | (simp; done) | (simp; omega) | fail) [w1, w2, awayS]
theorem e_awayC (t : List Part) (h : tblOk t = true) (i : Nat) (hi : i < t.length) (w : Nat) (hw : w < 31) (lab s) : den T 81 [.sl .no 6 (es cPart t), i64 i, i64 w] lab s = some (i64 (awayC t i w), s) := by
 have hb := tblOk_w h i hi
 have hn := tblOk_len h
 have w1 : IntKind.i64.wrap (t[i].weight.lo - w) = t[i].weight.lo - w := wi _ (by omega) (by omega)
 have w2 : IntKind.i64.wrap (w - t[i].weight.hi) = w - t[i].weight.hi := wi _ (by omega) (by omega)
 unfold awayC; rw [part_at hi]
 rw [den_fn t81 _ _ _ rfl]
 simp only [b81]
 simp (maxSteps := 1000000) (disch := first | omega | assumption | decide +kernel | (simp; done) | (simp; omega) | fail) [w1, w2, hi, awayS]
theorem awayC_small {t : List Part} (h : tblOk t = true) (i : Nat) (hi : i < t.length) (w : Nat) (hw : w < 31) : 0 ≤ awayC t i w ∧ awayC t i w ≤ 30 := by
 have hb := tblOk_w h i hi
 unfold awayC; rw [part_at hi]
 simp only [awayS]; omega
theorem away_ok {t : List Part} (h : tblOk t = true) (S : Stk) : CostOk S 81 [.sl .no 6 (es cPart t)] [] (awayC t) t.length where
 call fr i w lab hi hw := e_awayC t h i hi w hw lab (fr ++ S)
 keep D keep hD := by simp
 keep1 D keep hD := by simp
 small i w hi hw _ := by have := awayC_small h i hi w hw; simp only [M0]; omega
def changeR (t : List Part) (is : Bool) : Int × Int := if askE t is = 0 then (if far ≤ leastP t (awayC t) then (0, 3) else (leastP t (awayC t), 0)) else (0, askE t is)
@[simp] theorem e_change (t : List Part) (is : Bool) (lab s) : den T 78 [.sl .no 6 (es cPart t), .bool is] lab s = some (.tup [i64 (changeR t is).1, i64 (changeR t is).2], s) := by
 unfold changeR askE
 rw [den_fn t78 _ _ _ rfl]
 simp only [b78]
 by_cases h : tblOk t = true
 ·have hL := fun (F : Ab.Loc) lab => e_least t (tblOk_len h) (tblOk_of h) (F :: s) (away_ok h (F :: s)) (by simp) (by simp) lab
  cases is
  ·simp (maxSteps := 1000000) (disch := first | omega | assumption | decide +kernel | (simp; done) | (simp; omega) | fail) [h, askE]
  ·by_cases h2 : far ≤ leastP t (awayC t)
   ·have h3 : 1099511627776 ≤ leastP t (awayC t) := h2
    simp (maxSteps := 1000000) (disch := first | omega | assumption | decide +kernel | (simp; done) | (simp; omega) | fail) [h, askE, hL, h2, h3]
   ·have h3 : ¬ 1099511627776 ≤ leastP t (awayC t) := h2
    simp (maxSteps := 1000000) (disch := first | omega | assumption | decide +kernel | (simp; done) | (simp; omega) | fail) [h, askE, hL, h2, h3]
 ·have h' : tblOk t = false := by simpa using h
  simp (maxSteps := 1000000) (disch := first | omega | assumption | decide +kernel | (simp; done) | (simp; omega) | fail) [h', askE]
@[simp] theorem e_Change (t : List Part) (lab s) : den T 46 [.sl .no 6 (es cPart t)] lab s = some (.tup [i64 (changeR t true).1, i64 (changeR t true).2], s) := by
 rw [den_fn t46 _ _ _ rfl]
 simp only [b46]
 simp (maxSteps := 1000000) (disch := first | omega | assumption | decide +kernel | (simp; done) | (simp; omega) | fail) []
def mayC (t : List Part) (n : Int) (is : Bool) (i w : Nat) : Int := if (i : Int) ≠ n ∨ (decide (0 < awayC t i w) = is) then awayC t i w else far
theorem e_may1 (t : List Part) (h : tblOk t = true) (n : Int) (b : Bool) (d d2 l l2 l3 : Nat) (i : Nat) (hi : i < t.length) (w : Nat) (hw : w < 31) (s : Stk) (hd : d < s.length) (hd2 : d2 < s.length)
 (h1 : sget s d l = some (.cell [.sl .no 6 (es cPart t)])) (h2 : sget s d l2 = some (.cell [i64 n])) (h3 : sget s d2 l3 = some (.cell [.bool b])) (lab) :
 den T 84 [i64 i, i64 w, .ptr d l 0, .ptr d l2 0, .ptr d2 l3 0] lab s = some (i64 (mayC t n b i w), s) := by
 have e1 : ¬ d = s.length := by omega
 have e2 : ¬ d2 = s.length := by omega
 have hA := fun (F : Ab.Loc) lab => e_awayC t h i hi w hw lab (F :: s)
 unfold mayC
 rw [den_fn t84 _ _ _ rfl]
 simp only [b84]
 by_cases h4 : (i : Int) = n
 ·subst h4
  by_cases h5 : 0 < awayC t i w <;> cases b <;> simp (maxSteps := 1000000) (disch := first | omega | assumption | decide +kernel | (simp; done) | (simp; omega) | fail) [h1, h2, h3, h5, e1, e2, hA, far]
 ·simp (maxSteps := 1000000) (disch := first | omega | assumption | decide +kernel | (simp; done) | (simp; omega) | fail) [h1, h2, h3, h4, e1, e2, hA, far]
theorem may1_ok {t : List Part} (h : tblOk t = true) (n : Int) (b : Bool) (d d2 l l2 l3 : Nat) (S : Stk) (hd : d < S.length) (hd2 : d2 < S.length)
 (h1 : sget S d l = some (.cell [.sl .no 6 (es cPart t)])) (h2 : sget S d l2 = some (.cell [i64 n])) (h3 : sget S d2 l3 = some (.cell [.bool b])) :
 CostOk S 84 [] [.ptr d l 0, .ptr d l2 0, .ptr d2 l3 0] (mayC t n b) t.length where
 call fr i w lab hi hw := e_may1 t h n b d d2 l l2 l3 i hi w hw (fr ++ S) (by simp; omega) (by simp; omega) (by rw [sget_app _ _ _ _ hd]; exact h1) (by rw [sget_app _ _ _ _ hd]; exact h2) (by rw [sget_app _ _ _ _ hd2]; exact h3) lab
 keep D keep hD := by
  have : ¬ d = D := by omega
  have : ¬ d2 = D := by omega
  simp [dropR, *]
 keep1 D keep hD := by simp
 small i w hi hw hf := by
  unfold mayC at *
  have := awayC_small h i hi w hw
  split
  ·simp only [M0]; omega
  ·rename_i e; rw [if_neg e] at hf; exact absurd hf (by simp)
theorem e_may (t : List Part) (h : tblOk t = true) (n m : Int) (b : Bool) (d l l2 l4 : Nat) (s : Stk) (hd : d < s.length)
 (h1 : sget s d l = some (.cell [.sl .no 6 (es cPart t)])) (h2 : sget s d l2 = some (.cell [i64 n])) (h3 : sget s d l4 = some (.cell [i64 m])) (lab) :
 den T 83 [.bool b, .ptr d l 0, .ptr d l2 0, .ptr d l4 0] lab s = some (.bool (decide (leastP t (mayC t n b) = m)), s) := by
 have e1 : ¬ d = s.length := by omega
 have hL : ∀ (F : Ab.Loc) lab, Loc.get F 64 = some (.cell [.bool b]) → den T 79 [.sl .no 6 (es cPart t), .fn 84 [] [.ptr d l 0, .ptr d l2 0, .ptr s.length 64 0]] lab (F :: s) = some (i64 (leastP t (mayC t n b)), F :: s) := fun F lab g =>
  e_least t (tblOk_len h) (tblOk_of h) (F :: s) (may1_ok h n b d s.length l l2 64 (F :: s) (by simp; omega) (by simp) (by simp [e1, h1]) (by simp [e1, h2]) (by simp [g])) (by simp) (by simp) lab
 rw [den_fn t83 _ _ _ rfl]
 simp only [b83]
 simp (maxSteps := 1000000) (disch := first | omega | assumption | decide +kernel | (simp; done) | (simp; omega) | fail) [h1, h2, h3, e1, hL]
def changedR (t : List Part) (n : Int) : Int × Int := if (changeR t (isPart t n)).2 = 0 then
 (if leastP t (mayC t n false) = (changeR t (isPart t n)).1 then (if leastP t (mayC t n true) = (changeR t (isPart t n)).1 then (3, 0) else (2, 0)) else (1, 0)) else (0, (changeR t (isPart t n)).2)
@[simp] theorem e_Changed (t : List Part) (n : Int) (hl : t.length < 4611686018427387904) (lab s) : den T 42 [.sl .no 6 (es cPart t), i64 n] lab s = some (.tup [i64 (changedR t n).1, i64 (changedR t n).2], s) := by
 unfold changedR
 rw [den_fn t42 _ _ _ rfl]
 simp only [b42]
 by_cases h0 : (changeR t (isPart t n)).2 = 0
 ·have h : tblOk t = true := by
   cases h : tblOk t
   ·simp [changeR, askE, h] at h0
   ·rfl
  have hM : ∀ (F : Ab.Loc) (b : Bool) lab, Loc.get F 96 = some (.cell [.sl .no 6 (es cPart t)]) → Loc.get F 48 = some (.cell [i64 n]) → Loc.get F 112 = some (.cell [i64 (changeR t (isPart t n)).1]) →
   den T 83 [.bool b, .ptr s.length 96 0, .ptr s.length 48 0, .ptr s.length 112 0] lab (F :: s) = some (.bool (decide (leastP t (mayC t n b) = (changeR t (isPart t n)).1)), F :: s) := fun F b lab g1 g2 g3 =>
   e_may t h n _ b s.length 96 48 112 (F :: s) (by simp) (by simp [g1]) (by simp [g2]) (by simp [g3]) lab
  by_cases h1 : leastP t (mayC t n false) = (changeR t (isPart t n)).1
  ·by_cases h2 : leastP t (mayC t n true) = (changeR t (isPart t n)).1
   ·simp (maxSteps := 1000000) (disch := first | omega | assumption | decide +kernel | (simp; done) | (simp; omega) | fail) [run_drawnK, h0, hM, h1, h2]
   ·simp (maxSteps := 1000000) (disch := first | omega | assumption | decide +kernel | (simp; done) | (simp; omega) | fail) [run_drawnK, h0, hM, h1, h2]
  ·simp (maxSteps := 1000000) (disch := first | omega | assumption | decide +kernel | (simp; done) | (simp; omega) | fail) [run_drawnK, h0, hM, h1]
 ·simp (maxSteps := 1000000) (disch := first | omega | assumption | decide +kernel | (simp; done) | (simp; omega) | fail) [run_drawnK, h0]
end Go.Proofs.Ytlcnoldkekcifaa
