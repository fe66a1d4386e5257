/-
  Cuts: the reference's words, changes.
-/
import Derived.Test.YtlcnoldkekcifaaEq3
import Derived.Test.YtlcnoldkekcifaaEq1
import Derived.Test.YtlcnoldkekcifaaEq2
set_option linter.unusedSimpArgs false
set_option linter.unusedVariables false
namespace Go.Proofs.Ytlcnoldkekcifaa
open Go.Ab
structure TW (t : List Part) : Prop where
 len : t.length ≤ 8
 of : OfOk t
 w : ∀ i (hi : i < t.length), 0 ≤ t[i].weight.lo ∧ t[i].weight.lo ≤ t[i].weight.hi ∧ t[i].weight.hi ≤ 30 ∧ 0 ≤ t[i].waste.lo ∧ t[i].waste.lo ≤ t[i].waste.hi ∧ t[i].waste.hi ≤ 30
theorem TW.wastes {t} (h : TW t) : ∀ i (hi : i < t.length), 0 ≤ t[i].waste.lo ∧ t[i].waste.lo ≤ t[i].waste.hi ∧ t[i].waste.hi ≤ 30 := fun i hi => by have := h.w i hi; omega
theorem tw_ok {t : List Part} (h : tblOk t = true) : TW t := ⟨tblOk_len h, tblOk_of h, fun i hi => by have := tblOk_w h i hi; omega⟩
theorem get_row {b i : Nat} {R : List (List Int)} (hi : i < R.length) (a : List Int) (F : Ab.Loc) : Loc.get (rowsF b (R.set i a) F) (b + 1000 * i) = some (.arr 1 (es cInt a)) := by
 rw [get_rows _ _ _ _ (by simpa using hi)]; simp
theorem put_row {b i : Nat} {R : List (List Int)} (hi : i < R.length) (a a' : List Int) (F : Ab.Loc) : Loc.put (rowsF b (R.set i a) F) (b + 1000 * i) (.arr 1 (es cInt a')) = rowsF b (R.set i a') F := by
 rw [put_rows _ _ _ _ (by simpa using hi)]; simp
theorem mem_rows {b i : Nat} {R : List (List Int)} {F : Ab.Loc} (hi : i < R.length) : b + 1000 * i ∈ (rowsF b R F).map fun x => x.1 := by
 induction R generalizing b i with
 | nil => simp at hi
 | cons r R ih =>
   rw [rowsF, List.map_cons]
   match i with
   | 0 => simp
   | i + 1 =>
     have := ih (b := b + 1000) (i := i) (by simpa using hi)
     rw [show b + 1000 * (i + 1) = b + 1000 + 1000 * i by omega]
     exact List.mem_cons_of_mem _ this
theorem ptrs_see {d d' b n : Nat} {R : List (List Int)} {F : Ab.Loc} (h : R.length = n) (l : List Nat) (hl : ∀ x ∈ (rowsF b R F).map (fun x => x.1), x ∈ l) : (ptrs d b n).map (V.mapAll (dropR d' l)) = ptrs d b n :=
 ptrs_drop fun _ i hi => hl _ (mem_rows (by omega))
theorem loc_filter_true (L : Ab.Loc) : L.filter (fun _ => true) = L := List.filter_eq_self.2 fun _ _ => rfl
theorem rows_mem {b : Nat} {R : List (List Int)} {F : Ab.Loc} {y : Nat × Entry} (h : y ∈ rowsF b R F) : (∃ i, i < R.length ∧ y.1 = b + 1000 * i) ∨ y ∈ F := by
 induction R generalizing b with
 | nil => exact .inr h
 | cons r R ih =>
   rw [rowsF, List.mem_cons] at h
   rcases h with rfl | h
   ·exact .inl ⟨0, by simp, rfl⟩
   ·rcases ih h with ⟨i, hi, e⟩ | h
    ·exact .inl ⟨i + 1, by simpa using hi, by omega⟩
    ·exact .inr h
theorem rows_not {b l : Nat} {R : List (List Int)} (h : l < b) (x : Entry) : ¬ (l, x) ∈ rowsF b R [] := fun hm => by
 rcases rows_mem hm with ⟨i, _, e⟩ | h
 ·dsimp only at e; omega
 ·simp at h
theorem rows_distinct : ∀ (R : List (List Int)) (b : Nat), Ab.distinct ((rowsF b R []).map fun x => x.1) = true
 | [], _ => rfl
 | r :: R, b => by
   have := rows_distinct R (b + 1000)
   have hn := fun x => rows_not (R := R) (show b < b + 1000 by omega) x
   simp only [rowsF, List.map_cons, Ab.distinct, this]
   simpa using hn
def wordG (t : List Part) (i : Nat) (r : List Int) (k : Nat) : List Int := if 0 < awayC t i k then r.set k far else r
set_option maxHeartbeats 2000000 in
theorem e_words_l1 (t : List Part) (ht : TW t) (i : Nat) (hi0 : i < t.length) (R : List (List Int)) (hR : R.length = t.length) (r0 : List Int) (hr0 : r0.length = 31) (s : Stk) (hgc0 : ∀ a : List Int, (rowsF 1112 (R.set i a) []).filter (fun x => decide (x.fst = 112) || (decide (x.fst = 1112) || (decide (x.fst = 2112) || (decide (x.fst = 3112) || (decide (x.fst = 4112) || (decide (x.fst = 5112) || (decide (x.fst = 6112) || (decide (x.fst = 7112) || (decide (x.fst = 8112)))))))))) = rowsF 1112 (R.set i a) []) (hgd0 : ∀ d, (ptrs d 1112 R.length).map (V.mapAll (dropR d [112, 1112, 2112, 3112, 4112, 5112, 6112, 7112, 8112])) = ptrs d 1112 R.length) :
 Run T b66l1 [(0, .sl .no 6 (es cPart t)), (3, .asl s.length 112 1 R.length 0 R.length), (4, i64 i), (5, i64 0)] (((112, .arr 1 (ptrs s.length 1112 R.length)) :: rowsF 1112 (R.set i r0) []) :: s) = some (.exit 2, [(0, .sl .no 6 (es cPart t)), (3, .asl s.length 112 1 R.length 0 R.length), (4, i64 i), (5, i64 ((List.range 31).length : Nat)), (15, .bool false)], ((112, .arr 1 (ptrs s.length 1112 R.length)) :: rowsF 1112 (R.set i ((List.range 31).foldl (wordG t i) r0)) []) :: s) := by
 have key := loop_fold (T := T) (live := [0, 3, 4, 5]) (keep := [112, 1112, 2112, 3112, 4112, 5112, 6112, 7112, 8112]) (b := d66l1) (List.range 31) (fun _ r => r.length = 31) (wordG t i) (fun k (a : List Int) => [(0, .sl .no 6 (es cPart t)), (3, .asl s.length 112 1 R.length 0 R.length), (4, i64 i), (5, i64 (k : Nat))]) (fun k (a : List Int) => ((112, .arr 1 (ptrs s.length 1112 R.length)) :: rowsF 1112 (R.set i a) []) :: s) (fun (a : List Int) => (.exit 2, [(0, .sl .no 6 (es cPart t)), (3, .asl s.length 112 1 R.length 0 R.length), (4, i64 i), (5, i64 ((List.range 31).length : Nat)), (15, .bool false)], ((112, .arr 1 (ptrs s.length 1112 R.length)) :: rowsF 1112 (R.set i a) []) :: s)) (by simp) ?_ ?_ ?_ r0 (hr0) [(0, .sl .no 6 (es cPart t)), (3, .asl s.length 112 1 R.length 0 R.length), (4, i64 i), (5, i64 0)] (((112, .arr 1 (ptrs s.length 1112 R.length)) :: rowsF 1112 (R.set i r0) []) :: s) (by simp [hgc0, hgd0]) (by simp [hgc0, hgd0])
 ·exact key
 ·intro k a hk hi
  try simp only [List.length_range] at hk
  try simp only [List.getElem_range]
  have hk2 : (k : Int) ≤ 30 := by omega
  have hk3 : (k : Int) < 31 := by omega
  have hk4 : ¬ (31 : Int) ≤ k := by omega
  have hlen := ht.len
  have hi2 : i < R.length := by omega
  have hi3 : (i : Int) < t.length := by omega
  have hi4 : (i : Int) < R.length := by omega
  have hg := get_row (b := 1112) hi2 a []
  have hp := fun a' => put_row (b := 1112) hi2 a a' []
  have hm : ∀ a', 1112 + 1000 * i ∈ (rowsF 1112 (R.set i a') []).map fun x => x.1 := fun a' => mem_rows (by simpa using hi2)
  have hgd1 : ∀ d a', (ptrs d 1112 R.length).map (V.mapAll (dropR d (112 :: (rowsF 1112 (R.set i a') []).map fun x => x.1))) = ptrs d 1112 R.length := fun d a' => ptrs_see (R := R.set i a') (F := []) (by simp) _ fun x hx => List.mem_cons_of_mem _ hx
  have hdn := fun a' x => rows_not (b := 1112) (l := 112) (R := R.set i a') (by omega) x
  have hdd := fun a' => rows_distinct (R.set i a') 1112
  have z1 : ¬ 1112 + 1000 * i = 112 := by omega
  have hw := ht.w i hi0
  have haw := fun lab s => e_away07 t[i].weight.lo t[i].weight.hi k (by omega) (by omega) (by omega) lab s
  have hka : k < a.length := by omega
  have hset : ∀ x, (es cInt a).set k [i64 x] = es cInt (a.set k x) := fun x => by simp [es, List.map_set]
  have e1 : awayC t i k = awayS ⟨t[i].weight.lo, t[i].weight.hi⟩ k := by unfold awayC; rw [part_at hi0]
  unfold wordG
  rw [e1]
  by_cases h9 : 0 < awayS ⟨t[i].weight.lo, t[i].weight.hi⟩ k <;> simp (maxSteps := 1000000) (disch := first | omega | assumption | decide +kernel | (simp; done) | (simp; omega) | fail) [run_drawnK, hk, hk2, hk3, hk4, hi2, hi3, hi4, hi, hg, hp, z1, haw, hka, hset, h9, loc_filter_true, hgc0, hgd0, hm, hgd1, hdn, hdd, far, wk k (by omega)]
 ·intro k a hk hi
  try simp only [List.length_range] at hk
  try simp only [List.getElem_range]
  unfold wordG; (try split) <;> simp [hi]
 ·intro a hi
  simp
end Go.Proofs.Ytlcnoldkekcifaa

/-
  Cuts: the reference's words, changes, whole.
-/
namespace Go.Proofs.Ytlcnoldkekcifaa
open Go.Ab
def rowsOk (t : List Part) (R : List (List Int)) : Prop := R.length = t.length ∧ ∀ i (h : i < R.length), R[i].length = 31
theorem rows_gc {R : List (List Int)} (h : R.length ≤ 8) : (rowsF 1112 R []).filter (fun x => decide (x.fst = 112) || (decide (x.fst = 1112) || (decide (x.fst = 2112) || (decide (x.fst = 3112) || (decide (x.fst = 4112) || (decide (x.fst = 5112) || (decide (x.fst = 6112) || (decide (x.fst = 7112) || (decide (x.fst = 8112)))))))))) = rowsF 1112 R [] := by
 have := rows_filter [112, 1112, 2112, 3112, 4112, 5112, 6112, 7112, 8112] R 1112 [] fun i hi => by
  have := keep8 (keep := [112, 1112, 2112, 3112, 4112, 5112, 6112, 7112, 8112]) (l := 1112) h (by simp) i hi
  simpa using this
 simpa using this
theorem ptrs_gc {n : Nat} (h : n ≤ 8) (d : Nat) : (ptrs d 1112 n).map (V.mapAll (dropR d [112, 1112, 2112, 3112, 4112, 5112, 6112, 7112, 8112])) = ptrs d 1112 n := ptrs_drop fun _ => keep8 h (by simp)
theorem words_row (t : List Part) (i : Nat) : ∀ m, m ≤ 31 → ((List.range m).foldl (wordG t i) zeroR).length = 31 ∧ ∀ k, k < 31 → ((List.range m).foldl (wordG t i) zeroR).getD k 0 = if k < m then wordC t i k else 0
 | 0, _ => ⟨zeroR_length, fun k _ => by rw [if_neg (by omega)]; exact zeroR_get k⟩
 | m + 1, hm => by
   obtain ⟨h1, h2⟩ := words_row t i m (by omega)
   rw [List.range_succ, List.foldl_append]
   generalize (List.range m).foldl (wordG t i) zeroR = r at h1 h2 ⊢
   simp only [List.foldl_cons, List.foldl_nil, wordG]
   have h3 := h2 m (by omega)
   rw [if_neg (by omega)] at h3
   refine ⟨by (try split) <;> simp [h1], fun k hk => ?_⟩
   have h4 := h2 k hk
   by_cases e : k = m
   ·subst e
    rw [if_pos (by omega : k < k + 1)]
    first
     | (unfold wordC; split
        ·simp [List.getD, h1, hk]
        ·exact h3)
     | simp [List.getD, h1, hk]
   ·rw [show (if k < m + 1 then wordC t i k else 0) = if k < m then wordC t i k else 0 by by_cases h : k < m <;> simp [h] <;> omega]
    rw [← h4]
    first
     | (split
        ·simp only [List.getD, List.getElem?_set]; rw [if_neg (by omega)]
        ·rfl)
     | (simp only [List.getD, List.getElem?_set]; rw [if_neg (by omega)])
theorem words_row_eq (t : List Part) (i : Nat) : (List.range 31).foldl (wordG t i) zeroR = (List.range 31).map (wordC t i) := by
 obtain ⟨h1, h2⟩ := words_row t i 31 (Nat.le_refl _)
 generalize (List.range 31).foldl (wordG t i) zeroR = r at h1 h2 ⊢
 refine List.ext_getElem (by simp [h1]) fun k k1 k2 => ?_
 have hk : k < 31 := by omega
 have := h2 k hk
 rw [if_pos hk] at this
 have e : r.getD k 0 = r[k] := by simp [List.getD, k1]
 rw [e] at this
 rw [this]; simp
def wordsL (t : List Part) (R : List (List Int)) (i : Nat) : List (List Int) := R.set i ((List.range 31).foldl (wordG t i) (R.getD i []))
theorem words_all (t : List Part) : (List.range t.length).foldl (wordsL t) (List.replicate t.length zeroR) = costsL t (wordC t) := by
 have := fold_set t.length (fun i r => (List.range 31).foldl (wordG t i) r) (List.replicate t.length zeroR) [] (by simp)
 refine Eq.trans this ?_
 rw [List.drop_of_length_le (by simp), List.append_nil]
 refine List.map_congr_left fun i hi => ?_
 have hi' : i < t.length := by simpa using hi
 rw [show (List.replicate t.length zeroR).getD i [] = zeroR by simp [List.getD, hi']]
 exact words_row_eq t i
theorem words_len (t : List Part) (i : Nat) : ∀ (l : List Nat) (r : List Int), (l.foldl (wordG t i) r).length = r.length
 | [], _ => rfl
 | x :: l, r => by rw [List.foldl_cons, words_len t i l]; unfold wordG; (try split) <;> simp
set_option maxHeartbeats 2000000 in
theorem e_words_l0 (t : List Part) (ht : TW t) (s : Stk)  :
 Run T b66l0 [(0, .sl .no 6 (es cPart t)), (3, .asl s.length 112 1 t.length 0 t.length), (4, i64 0)] (((112, .arr 1 (ptrs s.length 1112 t.length)) :: rowsF 1112 (List.replicate t.length zeroR) []) :: s) = some (.exit 0, [(0, .sl .no 6 (es cPart t)), (3, .asl s.length 112 1 t.length 0 t.length), (4, i64 ((List.range t.length).length : Nat)), (11, .bool false)], ((112, .arr 1 (ptrs s.length 1112 t.length)) :: rowsF 1112 ((List.range t.length).foldl (wordsL t) (List.replicate t.length zeroR)) []) :: s) := by
 have key := loop_fold (T := T) (live := [0, 3, 4]) (keep := [112, 1112, 2112, 3112, 4112, 5112, 6112, 7112, 8112]) (b := d66l0) (List.range t.length) (fun _ R => rowsOk t R) (wordsL t) (fun k (a : List (List Int)) => [(0, .sl .no 6 (es cPart t)), (3, .asl s.length 112 1 t.length 0 t.length), (4, i64 (k : Nat))]) (fun k (a : List (List Int)) => ((112, .arr 1 (ptrs s.length 1112 t.length)) :: rowsF 1112 a []) :: s) (fun (a : List (List Int)) => (.exit 0, [(0, .sl .no 6 (es cPart t)), (3, .asl s.length 112 1 t.length 0 t.length), (4, i64 ((List.range t.length).length : Nat)), (11, .bool false)], ((112, .arr 1 (ptrs s.length 1112 t.length)) :: rowsF 1112 a []) :: s)) (by simp) ?_ ?_ ?_ (List.replicate t.length zeroR) (⟨by simp, fun i h => by simp⟩) [(0, .sl .no 6 (es cPart t)), (3, .asl s.length 112 1 t.length 0 t.length), (4, i64 0)] (((112, .arr 1 (ptrs s.length 1112 t.length)) :: rowsF 1112 (List.replicate t.length zeroR) []) :: s) (by simp [rows_gc (R := List.replicate t.length zeroR) (by simpa using ht.len), ptrs_gc (ht.len)]) (by simp [rows_gc (R := List.replicate t.length zeroR) (by simpa using ht.len), ptrs_gc (ht.len)])
 ·exact key
 ·intro k a hk hi
  try simp only [List.length_range] at hk
  try simp only [List.getElem_range]
  have hlen := ht.len
  have hk2 : (k : Int) < t.length := by omega
  have hR8 : a.length ≤ 8 := by rw [hi.1]; exact hlen
  have hka : k < a.length := by rw [hi.1]; exact hk
  have e0 : a.getD k [] = a[k] := by simp [List.getD, hka]
  have g1 := fun (b : List Int) => rows_gc (R := a.set k b) (by simpa using hR8)
  have g2 := fun d => ptrs_gc (n := a.length) hR8 d
  have h := e_words_l1 t ht k hk a hi.1 a[k] (hi.2 k hka) s g1 g2
  rw [List.set_getElem_self] at h
  simp only [List.length_range, hi.1] at h g2
  have g3 := rows_gc (R := wordsL t a k) (by simpa [wordsL] using hR8)
  unfold wordsL at g3 ⊢
  rw [e0] at g3 ⊢
  have z : IntKind.i64.wrap 0 = 0 := by decide +kernel
  simp (maxSteps := 1000000) (disch := first | omega | assumption | decide +kernel | (simp; done) | (simp; omega) | fail) [hk, hk2, h, g1, g2, g3, z, wk k (by omega)]
 ·intro k a hk hi
  try simp only [List.length_range] at hk
  try simp only [List.getElem_range]
  refine ⟨by simp [wordsL, hi.1], fun i h => ?_⟩
  have hka : k < a.length := by rw [hi.1]; exact hk
  have e0 : a.getD k [] = a[k] := by simp [List.getD, hka]
  simp only [wordsL] at h ⊢
  rw [List.getElem_set]
  split
  ·rw [words_len, e0]; exact hi.2 k hka
  ·exact hi.2 i (by simpa using h)
 ·intro a hi
  have hR8 : a.length ≤ 8 := by rw [hi.1]; exact ht.len
  have g1 := rows_gc hR8
  have g2 := fun d => ptrs_gc (n := t.length) (ht.len) d
  simp [g1, g2]
theorem e_words (t : List Part) (ht : TW t) (F : Ab.Loc) (s : Stk) (lab : Nat) (hF : FreeAt F lab) : den T 66 [.sl .no 6 (es cPart t)] lab (F :: s) = some (.asl s.length lab 1 t.length 0 t.length, (F ++ matF s.length lab (costsL t (wordC t)) []) :: s) := by
 have hlen := ht.len
 have h := e_words_l0 t ht (F :: s)
 rw [words_all] at h
 simp only [List.length_range, List.length_cons] at h
 have hf := e_free t hlen [] (F :: s) 112 (fun i _ => rfl)
 simp only [matF, List.nil_append, List.length_replicate, List.length_cons] at hf
 have ha := adopt_words (costsL t (wordC t)) (by simpa using hlen) F s lab hF []
 simp only [costsL_length] at ha
 rw [den_fn t66 _ _ _ rfl]
 simp only [b66]
 simp [h, hf, ha, -adopt_eq]
end Go.Proofs.Ytlcnoldkekcifaa

/-
  Cuts: the reference's least: its loops.
-/
namespace Go.Proofs.Ytlcnoldkekcifaa
open Go.Ab
def cRow (r : List Int) : List V := [if r = [] then .sl .full 1 [] else .sl .no 1 (es cInt r)]
theorem cRow_some {r : List Int} (h : r ≠ []) : cRow r = [.sl .no 1 (es cInt r)] := by simp [cRow, h]
theorem cRow_map (r : Ren) (h1 : r.c .no = .no) (h2 : r.c .full = .full) (x : List Int) : V.mapAll r (cRow x) = cRow x := by
 by_cases h : x = []
 ·subst h; simp [cRow, V.mapAll, V.map, h2]
 ·rw [cRow_some h]; simp [h1]
theorem rows_map (r : Ren) (h1 : r.c .no = .no) (h2 : r.c .full = .full) (B : List (List Int)) : (es cRow B).map (V.mapAll r) = es cRow B := es_map _ _ (fun x => cRow_map r h1 h2 x) _
@[simp] theorem rows_map_d (d keep B) : (es cRow B).map (V.mapAll (dropR d keep)) = es cRow B := rows_map _ rfl rfl B
@[simp] theorem rows_map_f (d k z e B) : (es cRow B).map (V.mapAll (frzR d k z e)) = es cRow B := rows_map _ rfl rfl B
@[simp] theorem cRow_map_d (d keep x) : V.mapAll (dropR d keep) (cRow x) = cRow x := cRow_map _ rfl rfl x
@[simp] theorem cRow_map_f (d k z e x) : V.mapAll (frzR d k z e) (cRow x) = cRow x := cRow_map _ rfl rfl x
def RowAt (S : Stk) (v : V) (r : List Int) : Prop := (∃ c, v = .sl c 1 (es cInt r)) ∨ ∃ d l, v = .asl d l 1 31 0 31 ∧ d < S.length ∧ sget S d l = some (.arr 1 (es cInt r))
structure MatAt (S : Stk) (d0 l0 : Nat) (E : List (List V)) (C : List (List Int)) : Prop where
 lt : d0 < S.length
 get : sget S d0 l0 = some (.arr 1 E)
 len : E.length = C.length
 row : ∀ i (h : i < E.length), ∃ v, E[i] = [v] ∧ RowAt S v (C.getD i [])
set_option maxHeartbeats 1000000 in
theorem e_rl_l1 (t : List Part) (hn : t.length ≤ 8) (d0 l0 : Nat) (T5 : Int) (B : List (List Int)) (hB : B.length = t.length) (i : Nat) (hi0 : i < t.length) (hP : ∀ m, m ≤ t.length - 1 - i → RowQ (piecesR t B i (i + 1) m)) (hQ : ∀ k, i < k → k < t.length → RowQ (B.getD k [])) (s : Stk) (hd0 : ¬ d0 = s.length) :
 Run T b65l1 [(0, .sl .no 6 (es cPart t)), (1, .asl d0 l0 1 t.length 0 t.length), (5, i64 T5), (6, .asl s.length 256 1 t.length 0 t.length), (7, i64 i), (8, .sl (.own s.length 384) 1 (es cInt nothingR)), (9, i64 ((i : Int) + 1))] ([(256, .arr 1 (es cRow B)), (384, .tok 31)] :: s) = some (.exit 2, [(0, .sl .no 6 (es cPart t)), (1, .asl d0 l0 1 t.length 0 t.length), (5, i64 T5), (6, .asl s.length 256 1 t.length 0 t.length), (7, i64 i), (8, .sl .no 1 (es cInt (piecesR t B i (i + 1) (List.range (t.length - 1 - i)).length))), (9, i64 ((i : Int) + 1 + ((List.range (t.length - 1 - i)).length : Nat))), (32, .bool false)], [(256, .arr 1 (es cRow B))] :: s) := by
 have key := loop_fold (T := T) (live := [0, 1, 5, 6, 7, 8, 9]) (keep := [256]) (b := d65l1) (List.range (t.length - 1 - i)) (fun _ _ => True) (fun _ _ => ()) (fun k (a : Unit) => [(0, .sl .no 6 (es cPart t)), (1, .asl d0 l0 1 t.length 0 t.length), (5, i64 T5), (6, .asl s.length 256 1 t.length 0 t.length), (7, i64 i), (8, .sl .no 1 (es cInt (piecesR t B i (i + 1) k))), (9, i64 ((i : Int) + 1 + (k : Nat)))]) (fun k (a : Unit) => [(256, .arr 1 (es cRow B))] :: s) (fun (a : Unit) => (.exit 2, [(0, .sl .no 6 (es cPart t)), (1, .asl d0 l0 1 t.length 0 t.length), (5, i64 T5), (6, .asl s.length 256 1 t.length 0 t.length), (7, i64 i), (8, .sl .no 1 (es cInt (piecesR t B i (i + 1) (List.range (t.length - 1 - i)).length))), (9, i64 ((i : Int) + 1 + ((List.range (t.length - 1 - i)).length : Nat))), (32, .bool false)], [(256, .arr 1 (es cRow B))] :: s)) (by simp) ?_ ?_ ?_ () (by simp) [(0, .sl .no 6 (es cPart t)), (1, .asl d0 l0 1 t.length 0 t.length), (5, i64 T5), (6, .asl s.length 256 1 t.length 0 t.length), (7, i64 i), (8, .sl (.own s.length 384) 1 (es cInt nothingR)), (9, i64 ((i : Int) + 1))] ([(256, .arr 1 (es cRow B)), (384, .tok 31)] :: s) (by simp [hd0, show piecesR t B i (i + 1) 0 = nothingR from rfl]) (by simp [hd0, show piecesR t B i (i + 1) 0 = nothingR from rfl])
 ·exact key
 ·intro k a hk hi
  try simp only [List.length_range] at hk
  try simp only [List.getElem_range]
  have hk1 : (i : Int) + 1 + k < t.length := by omega
  have hk0 : 0 ≤ (i : Int) + 1 + k := by omega
  have tk : ((i : Int) + 1 + k).toNat = i + 1 + k := by omega
  have hk3 : i + 1 + k < t.length := by omega
  have hk4 : i + 1 + k < B.length := by omega
  have w1 : IntKind.i64.wrap ((i : Int) + 1 + k + 1) = (i : Int) + 1 + ((k : Int) + 1) := by rw [wi _ (by omega) (by omega)]; omega
  have hq := hQ (i + 1 + k) (by omega) hk3
  have e1 : B.getD (i + 1 + k) [] = B[i + 1 + k] := by simp [List.getD, hk4]
  have hp := hP k (by omega)
  rw [e1] at hq
  have hne : B[i + 1 + k] ≠ [] := fun e => by have := hq.len; rw [e] at this; simp at this
  have hc := cRow_some hne
  rw [piecesR_succ, part_at hk3, e1]
  by_cases h1 : t[i + 1 + k].of = (i : Int)
  ·simp (maxSteps := 1000000) (disch := first | omega | assumption | decide +kernel | (simp; done) | (simp; omega) | fail) [hk0, hk1, tk, hk3, hk4, hB, w1, hd0, hc, hp, hq, h1]
  ·simp (maxSteps := 1000000) (disch := first | omega | assumption | decide +kernel | (simp; done) | (simp; omega) | fail) [hk0, hk1, tk, hk3, hk4, hB, w1, hd0, h1]
 ·intro k a hk hi
  try simp only [List.length_range] at hk
  try simp only [List.getElem_range]
  try simp
 ·intro a hi
  have w : (i : Int) + 1 + ((t.length - 1 - i : Nat) : Int) = t.length := by omega
  simp [hd0, w]
def rowsP (d : Nat) (B : List (List Int)) (i : Nat) : List (List V) := (es cRow B).set i [.asl d 800 1 31 0 31]
@[simp] theorem rowsP_length (d B i) : (rowsP d B i).length = B.length := by simp [rowsP]
theorem rowsP_map (d' d keep B i) (h : 800 ∈ keep) : (rowsP d B i).map (V.mapAll (dropR d' keep)) = rowsP d B i := by
 unfold rowsP; rw [List.map_set, rows_map_d]; simp [V.mapAll, V.map, dropR, h]
theorem rowsP_get {d B i} (h : i < B.length) : (rowsP d B i)[i]? = some [.asl d 800 1 31 0 31] := by simp [rowsP, h]
@[simp] theorem rowsP_getE {d B i} (h : i < (rowsP d B i).length) : (rowsP d B i)[i] = [.asl d 800 1 31 0 31] := by simp [rowsP]
theorem lost_nat {s : Sp} {n : Nat} (h : 0 ≤ s.lo ∧ s.lo ≤ s.hi ∧ s.hi ≤ 30) (k : Nat) : k < min s.hi.toNat n + 1 - s.lo.toNat ↔ s.lo + k ≤ s.hi ∧ s.lo + k ≤ n := by omega
set_option maxHeartbeats 4000000 in
theorem e_rl_l3 (t : List Part) (ht : TW t) (d0 l0 : Nat) (T5 : Int) (B : List (List Int)) (hB : B.length = t.length) (i : Nat) (hi0 : i < t.length) (hc : canCut t i = true) (P : List Int) (hP : RowQ P) (C : List (List Int)) (hC : RowQ (C.getD i [])) (E : List (List V)) (hCl : C.length = t.length) (n : Nat) (hn : n < 31) (r : List Int) (hr : r.length = 31) (s : Stk) (m0 : Int) (hd0 : ¬ d0 = s.length) (hM : MatAt s d0 l0 E C) :
 Run T b65l3 [(0, .sl .no 6 (es cPart t)), (1, .asl d0 l0 1 t.length 0 t.length), (5, i64 T5), (6, .asl s.length 256 1 t.length 0 t.length), (7, i64 i), (8, .sl .no 1 (es cInt P)), (10, i64 n), (11, i64 ((t.getD i default).waste.lo + 0))] ([(256, .arr 1 (rowsP s.length B i)), (800, .arr 1 (es cInt (r.set n m0)))] :: s) = some (.exit 6, [(0, .sl .no 6 (es cPart t)), (1, .asl d0 l0 1 t.length 0 t.length), (5, i64 T5), (6, .asl s.length 256 1 t.length 0 t.length), (7, i64 i), (8, .sl .no 1 (es cInt P)), (10, i64 n), (11, i64 ((t.getD i default).waste.lo + ((List.range (min (t.getD i default).waste.hi.toNat n + 1 - (t.getD i default).waste.lo.toNat)).length : Nat))), (96, .bool false)], [(256, .arr 1 (rowsP s.length B i)), (800, .arr 1 (es cInt (r.set n ((List.range (min (t.getD i default).waste.hi.toNat n + 1 - (t.getD i default).waste.lo.toNat)).foldl (fun m k => min m ((C.getD i []).getD n 0 + P.getD (n - ((t.getD i default).waste.lo.toNat + k)) 0)) m0))))] :: s) := by
 have key := loop_fold (T := T) (live := [0, 1, 5, 6, 7, 8, 10, 11]) (keep := [256, 800]) (b := d65l3) (List.range (min (t.getD i default).waste.hi.toNat n + 1 - (t.getD i default).waste.lo.toNat)) (fun _ _ => True) (fun m k => min m ((C.getD i []).getD n 0 + P.getD (n - ((t.getD i default).waste.lo.toNat + k)) 0)) (fun k (a : Int) => [(0, .sl .no 6 (es cPart t)), (1, .asl d0 l0 1 t.length 0 t.length), (5, i64 T5), (6, .asl s.length 256 1 t.length 0 t.length), (7, i64 i), (8, .sl .no 1 (es cInt P)), (10, i64 n), (11, i64 ((t.getD i default).waste.lo + (k : Nat)))]) (fun k (a : Int) => [(256, .arr 1 (rowsP s.length B i)), (800, .arr 1 (es cInt (r.set n a)))] :: s) (fun (a : Int) => (.exit 6, [(0, .sl .no 6 (es cPart t)), (1, .asl d0 l0 1 t.length 0 t.length), (5, i64 T5), (6, .asl s.length 256 1 t.length 0 t.length), (7, i64 i), (8, .sl .no 1 (es cInt P)), (10, i64 n), (11, i64 ((t.getD i default).waste.lo + ((List.range (min (t.getD i default).waste.hi.toNat n + 1 - (t.getD i default).waste.lo.toNat)).length : Nat))), (96, .bool false)], [(256, .arr 1 (rowsP s.length B i)), (800, .arr 1 (es cInt (r.set n a)))] :: s)) (by simp) ?_ ?_ ?_ m0 (by simp) [(0, .sl .no 6 (es cPart t)), (1, .asl d0 l0 1 t.length 0 t.length), (5, i64 T5), (6, .asl s.length 256 1 t.length 0 t.length), (7, i64 i), (8, .sl .no 1 (es cInt P)), (10, i64 n), (11, i64 ((t.getD i default).waste.lo + 0))] ([(256, .arr 1 (rowsP s.length B i)), (800, .arr 1 (es cInt (r.set n m0)))] :: s) (by simp [hd0, rowsP_map]) (by simp [hd0, rowsP_map])
 ·exact key
 ·intro k a hk hi
  try simp only [List.length_range] at hk
  try simp only [List.getElem_range]
  have hlen := ht.len
  have hw := ht.w i hi0
  rw [part_at hi0] at hk ⊢
  have hk1 := (lost_nat (s := t[i].waste) (n := n) ⟨by omega, by omega, by omega⟩ k).1 hk
  obtain ⟨v, hv1, hv2⟩ := hM.row i (by rw [hM.len, hCl]; exact hi0)
  have hlt := hM.lt
  have hget := hM.get
  have hElen : E.length = t.length := by rw [hM.len, hCl]
  have hi5 : i < E.length := by omega
  have hi2 : (i : Int) < t.length := by omega
  have hi4 : i < B.length := by omega
  have hn2 : (n : Int) < 31 := by omega
  have hn3 : n < r.length := by omega
  have lP := hP.len
  have lC := hC.len
  generalize C.getD i [] = c at hv2 hC lC ⊢
  have hn4 : n < c.length := by omega
  have ec : c.getD n 0 = c[n] := by simp [List.getD, hn4]
  have bC := hC.is n hn
  rw [ec] at bC ⊢
  have hx : n - (t[i].waste.lo.toNat + k) < P.length := by omega
  have eP : P.getD (n - (t[i].waste.lo.toNat + k)) 0 = P[n - (t[i].waste.lo.toNat + k)] := by simp [List.getD, hx]
  have bP := hP.is (n - (t[i].waste.lo.toNat + k)) (by omega)
  rw [eP] at bP ⊢
  generalize hlo : t[i].waste.lo = lo at *
  generalize hhi : t[i].waste.hi = hi' at *
  have w1 : IntKind.i64.wrap ((n : Int) - (lo + k)) = ((n : Int) - (lo + k)) := wi _ (by omega) (by omega)
  have t1 : ((n : Int) - (lo + k)).toNat = n - (lo.toNat + k) := by omega
  have t2 : 0 ≤ (n : Int) - (lo + k) := by omega
  have t3 : (n : Int) - (lo + k) < 31 := by omega
  have w3 : IntKind.i64.wrap (lo + k + 1) = lo + (k + 1) := by rw [wi _ (by omega) (by omega)]; omega
  generalize hPy : P[n - (lo.toNat + k)] = y at *
  generalize hcn : c[n] = x at *
  have w2 : IntKind.i64.wrap (x + y) = x + y := wi _ (by omega) (by omega)
  have hp := rowsP_get (d := s.length) hi4
  have hset : ∀ z, (es cInt (r.set n a)).set n [i64 z] = es cInt (r.set n z) := fun z => by simp [es, List.map_set]
  have hE : E[i]? = some [v] := by rw [List.getElem?_eq_getElem hi5, hv1]
  have k1 := hk1.1
  have k2 := hk1.2
  have k0 : 0 ≤ lo + k := by omega
  have hset2 : (r.set n a).length = 31 := by simp [hr]
  have hgn : (r.set n a)[n]'(by simp [hr]; omega) = a := by simp
  rcases hv2 with ⟨c0, rfl⟩ | ⟨d1, l1, rfl, hd1, hg1⟩
  ·simp (maxSteps := 1000000) (disch := first | omega | assumption | decide +kernel | (simp; done) | (simp; omega) | fail) [run_drawnK, hc, hi2, hi4, hhi, hlo, k0, k1, k2, hd0, hget, hE, hv1, hElen, rowsP_map, hp, hset, hset2, hgn, hn2, hn3, hn4, hn, hr, lC, lP, hcn, w1, w2, w3, t1, t2, t3, hx, hPy, hB]
  ·have hd2 : ¬ d1 = s.length := by omega
   simp (maxSteps := 1000000) (disch := first | omega | assumption | decide +kernel | (simp; done) | (simp; omega) | fail) [run_drawnK, hc, hi2, hi4, hhi, hlo, k0, k1, k2, hd0, hget, hE, hv1, hElen, rowsP_map, hp, hset, hset2, hgn, hn2, hn3, hn4, hn, hr, lC, lP, hcn, w1, w2, w3, t1, t2, t3, hx, hPy, hB, hd2, hg1]
 ·intro k a hk hi
  try simp only [List.length_range] at hk
  try simp only [List.getElem_range]
  try simp
 ·intro a hi
  have hlen := ht.len
  have hw := ht.w i hi0
  rw [part_at hi0]
  have hi2 : (i : Int) < t.length := by omega
  have hkn := lost_nat (s := t[i].waste) (n := n) ⟨by omega, by omega, by omega⟩ (min t[i].waste.hi.toNat n + 1 - t[i].waste.lo.toNat)
  simp only [List.length_range]
  generalize min t[i].waste.hi.toNat n + 1 - t[i].waste.lo.toNat = k at *
  by_cases h1 : t[i].waste.lo + k ≤ t[i].waste.hi
  ·have h2 : ¬ t[i].waste.lo + k ≤ n := by omega
   simp (maxSteps := 1000000) (disch := first | omega | assumption | decide +kernel | (simp; done) | (simp; omega) | fail) [hd0, hc, hi2, h1, h2, rowsP_map]
  ·simp (maxSteps := 1000000) (disch := first | omega | assumption | decide +kernel | (simp; done) | (simp; omega) | fail) [hd0, hc, hi2, h1, rowsP_map]
theorem e_rl_l3n (t : List Part) (ht : TW t) (d0 l0 : Nat) (T5 : Int) (B : List (List Int)) (i : Nat) (hi0 : i < t.length) (hc : canCut t i = false) (P : List Int) (n : Nat) (r : List Int) (lo : Int) (s : Stk) (hd0 : ¬ d0 = s.length) :
 Run T b65l3 [(0, .sl .no 6 (es cPart t)), (1, .asl d0 l0 1 t.length 0 t.length), (5, i64 T5), (6, .asl s.length 256 1 t.length 0 t.length), (7, i64 i), (8, .sl .no 1 (es cInt P)), (10, i64 n), (11, i64 lo)] ([(256, .arr 1 (rowsP s.length B i)), (800, .arr 1 (es cInt r))] :: s) = some (.exit 6, [(0, .sl .no 6 (es cPart t)), (1, .asl d0 l0 1 t.length 0 t.length), (5, i64 T5), (6, .asl s.length 256 1 t.length 0 t.length), (7, i64 i), (8, .sl .no 1 (es cInt P)), (10, i64 n), (11, i64 lo), (96, .bool false)], [(256, .arr 1 (rowsP s.length B i)), (800, .arr 1 (es cInt r))] :: s) := by
 have key := loop_fold (T := T) (live := [0, 1, 5, 6, 7, 8, 10, 11]) (keep := [256, 800]) (b := d65l3) (([] : List Nat)) (fun _ _ => True) (fun _ _ => ()) (fun k (a : Unit) => [(0, .sl .no 6 (es cPart t)), (1, .asl d0 l0 1 t.length 0 t.length), (5, i64 T5), (6, .asl s.length 256 1 t.length 0 t.length), (7, i64 i), (8, .sl .no 1 (es cInt P)), (10, i64 n), (11, i64 lo)]) (fun k (a : Unit) => [(256, .arr 1 (rowsP s.length B i)), (800, .arr 1 (es cInt r))] :: s) (fun (a : Unit) => (.exit 6, [(0, .sl .no 6 (es cPart t)), (1, .asl d0 l0 1 t.length 0 t.length), (5, i64 T5), (6, .asl s.length 256 1 t.length 0 t.length), (7, i64 i), (8, .sl .no 1 (es cInt P)), (10, i64 n), (11, i64 lo), (96, .bool false)], [(256, .arr 1 (rowsP s.length B i)), (800, .arr 1 (es cInt r))] :: s)) (by simp) ?_ ?_ ?_ () (by simp) [(0, .sl .no 6 (es cPart t)), (1, .asl d0 l0 1 t.length 0 t.length), (5, i64 T5), (6, .asl s.length 256 1 t.length 0 t.length), (7, i64 i), (8, .sl .no 1 (es cInt P)), (10, i64 n), (11, i64 lo)] ([(256, .arr 1 (rowsP s.length B i)), (800, .arr 1 (es cInt r))] :: s) (by simp [hd0, rowsP_map]) (by simp [hd0, rowsP_map])
 ·exact key
 ·intro k a hk hi
  simp at hk
 ·intro k a hk hi
  try simp
 ·intro a hi
  have hlen := ht.len
  have hi2 : (i : Int) < t.length := by omega
  simp (maxSteps := 1000000) (disch := first | omega | assumption | decide +kernel | (simp; done) | (simp; omega) | fail) [hd0, hc, hi2, rowsP_map]
set_option maxHeartbeats 4000000 in
theorem e_rl_l2 (t : List Part) (ht : TW t) (d0 l0 : Nat) (T5 : Int) (B : List (List Int)) (hB : B.length = t.length) (i : Nat) (hi0 : i < t.length) (P : List Int) (hP : RowQ P) (C : List (List Int)) (hC : RowQ (C.getD i [])) (E : List (List V)) (hCl : C.length = t.length) (s : Stk) (hd0 : ¬ d0 = s.length) (hM : MatAt s d0 l0 E C) :
 Run T b65l2 [(0, .sl .no 6 (es cPart t)), (1, .asl d0 l0 1 t.length 0 t.length), (5, i64 T5), (6, .asl s.length 256 1 t.length 0 t.length), (7, i64 i), (8, .sl .no 1 (es cInt P)), (10, i64 0)] ([(256, .arr 1 (rowsP s.length B i)), (800, .arr 1 (es cInt farR))] :: s) = some (.exit 4, [(0, .sl .no 6 (es cPart t)), (1, .asl d0 l0 1 t.length 0 t.length), (5, i64 T5), (6, .asl s.length 256 1 t.length 0 t.length), (7, i64 i), (8, .sl .no 1 (es cInt P)), (10, i64 ((List.range 31).length : Nat)), (53, .bool false)], [(256, .arr 1 (rowsP s.length B i)), (800, .arr 1 (es cInt ((List.range 31).foldl (fun r n => r.set n ((bestRow t i (C.getD i []) P).getD n 0)) farR)))] :: s) := by
 have key := loop_fold (T := T) (live := [0, 1, 5, 6, 7, 8, 10]) (keep := [256, 800]) (b := d65l2) (List.range 31) (fun k r => r.length = 31 ∧ ∀ j, k ≤ j → j < 31 → r.getD j 0 = far) (fun r n => r.set n ((bestRow t i (C.getD i []) P).getD n 0)) (fun k (a : List Int) => [(0, .sl .no 6 (es cPart t)), (1, .asl d0 l0 1 t.length 0 t.length), (5, i64 T5), (6, .asl s.length 256 1 t.length 0 t.length), (7, i64 i), (8, .sl .no 1 (es cInt P)), (10, i64 (k : Nat))]) (fun k (a : List Int) => [(256, .arr 1 (rowsP s.length B i)), (800, .arr 1 (es cInt a))] :: s) (fun (a : List Int) => (.exit 4, [(0, .sl .no 6 (es cPart t)), (1, .asl d0 l0 1 t.length 0 t.length), (5, i64 T5), (6, .asl s.length 256 1 t.length 0 t.length), (7, i64 i), (8, .sl .no 1 (es cInt P)), (10, i64 ((List.range 31).length : Nat)), (53, .bool false)], [(256, .arr 1 (rowsP s.length B i)), (800, .arr 1 (es cInt a))] :: s)) (by simp) ?_ ?_ ?_ farR (⟨farR_length, fun j _ h => farR_get j h⟩) [(0, .sl .no 6 (es cPart t)), (1, .asl d0 l0 1 t.length 0 t.length), (5, i64 T5), (6, .asl s.length 256 1 t.length 0 t.length), (7, i64 i), (8, .sl .no 1 (es cInt P)), (10, i64 0)] ([(256, .arr 1 (rowsP s.length B i)), (800, .arr 1 (es cInt farR))] :: s) (by simp [hd0, rowsP_map]) (by simp [hd0, rowsP_map])
 ·exact key
 ·intro k a hk hi
  try simp only [List.length_range] at hk
  try simp only [List.getElem_range]
  have hlen := ht.len
  obtain ⟨hr, hfar⟩ := hi
  have hk2 : (k : Int) ≤ 30 := by omega
  have hk3 : (k : Int) < 31 := by omega
  have hk4 : ¬ (31 : Int) ≤ k := by omega
  have hi2 : (i : Int) < t.length := by omega
  have hi4 : i < B.length := by omega
  have hka : k < a.length := by omega
  have hset : ∀ z, (es cInt a).set k [i64 z] = es cInt (a.set k z) := fun z => by simp [es, List.map_set]
  rw [bestRow_get _ _ _ _ hk]
  cases hc : canCut t i
  ·obtain ⟨v, hv1, hv2⟩ := hM.row i (by rw [hM.len, hCl]; exact hi0)
   have hlt := hM.lt
   have hget := hM.get
   have hElen : E.length = t.length := by rw [hM.len, hCl]
   have hi5 : i < E.length := by omega
   have hE : E[i]? = some [v] := by rw [List.getElem?_eq_getElem hi5, hv1]
   have lC := hC.len
   generalize C.getD i [] = c at hv2 lC ⊢
   have hn4 : k < c.length := by omega
   have ec : c.getD k 0 = c[k] := by simp [List.getD, hn4]
   simp only [Bool.false_eq_true, if_false]
   rw [ec]
   rcases hv2 with ⟨c0, rfl⟩ | ⟨d1, l1, rfl, hd1, hg1⟩
   ·simp (maxSteps := 1000000) (disch := first | omega | assumption | decide +kernel | (simp; done) | (simp; omega) | fail) [run_drawnK, hc, hi2, hi4, hd0, hget, hE, hv1, hElen, rowsP_map, hset, hr, hn4, hka, hk, hk2, hk3, hk4, lC, hB, e_rl_l3n, ht, hi0, wk k (by omega)]
   ·have hd2 : ¬ d1 = s.length := by omega
    simp (maxSteps := 1000000) (disch := first | omega | assumption | decide +kernel | (simp; done) | (simp; omega) | fail) [run_drawnK, hc, hi2, hi4, hd0, hget, hE, hv1, hElen, rowsP_map, hset, hr, hn4, hka, hk, hk2, hk3, hk4, lC, hB, hd2, hg1, e_rl_l3n, ht, hi0, wk k (by omega)]
  ·have h3 := fun m0 => e_rl_l3 t ht d0 l0 T5 B hB i hi0 hc P hP C hC E hCl k hk a hr s m0 hd0 hM
   have hak : a.set k far = a := by
    have e1 : a.getD k 0 = a[k] := by simp [List.getD, hka]
    rw [← hfar k (Nat.le_refl _) hk, e1, List.set_getElem_self]
   have h4 := h3 far
   rw [hak, show (List.range (min (t.getD i default).waste.hi.toNat k + 1 - (t.getD i default).waste.lo.toNat)).foldl (fun m j => min m ((C.getD i []).getD k 0 + P.getD (k - ((t.getD i default).waste.lo.toNat + j)) 0)) far = lostV ((C.getD i []).getD k 0) P (t.getD i default).waste.lo.toNat (t.getD i default).waste.hi.toNat k from rfl] at h4
   simp only [if_true]
   generalize lostV ((C.getD i []).getD k 0) P (t.getD i default).waste.lo.toNat (t.getD i default).waste.hi.toNat k = L at h4 ⊢
   rw [part_at hi0] at h4
   simp only [Int.add_zero] at h4
   simp (maxSteps := 1000000) (disch := first | omega | assumption | decide +kernel | (simp; done) | (simp; omega) | fail) [hc, hi2, hi4, hd0, h4, rowsP_map, hr, hk, hk2, hk3, hk4, hB, wk k (by omega)]
 ·intro k a hk hi
  try simp only [List.length_range] at hk
  try simp only [List.getElem_range]
  obtain ⟨hr, hfar⟩ := hi
  refine ⟨by simp [hr], fun j h1 h2 => ?_⟩
  rw [← hfar j (by omega) h2]
  simp only [List.getD, List.getElem?_set]; rw [if_neg (by omega)]
 ·intro a hi
  simp [hd0, rowsP_map]
end Go.Proofs.Ytlcnoldkekcifaa

/-
  Cuts: the reference's least.
-/
namespace Go.Proofs.Ytlcnoldkekcifaa
open Go.Ab
def rowsO (d : Nat) (B : List (List Int)) (i : Nat) (row : List Int) : List (List V) := (es cRow B).set i [.sl (.own d 800) 1 (es cInt row)]
@[simp] theorem rowsO_length (d B i row) : (rowsO d B i row).length = B.length := by simp [rowsO]
theorem rowsO_map {d B i row keep} (h : 800 ∉ keep) (hr : row ≠ []) : (rowsO d B i row).map (V.mapAll (dropR d keep)) = es cRow (B.set i row) := by
 unfold rowsO
 rw [List.map_set, rows_map_d]
 have e : es cRow (B.set i row) = (es cRow B).set i (cRow row) := by simp [es, List.map_set]
 rw [e, cRow_some hr]
 simp [V.mapAll, V.map, dropR, Cap.drop, h]
theorem rowsP_frz {d B i row} (hr : row.length = 31) : (rowsP d B i).map (V.mapAll (frzR d 800 1 (es cInt row))) = rowsO d B i row := by
 unfold rowsP rowsO
 rw [List.map_set, rows_map_f]
 have ht : (es cInt row).take 31 = es cInt row := List.take_of_length_le (by simp [hr])
 simp [V.mapAll, V.map, hr, ht]
theorem row_ne {row : List Int} (h : row.length = 31) : row ≠ [] := fun e => by rw [e] at h; simp at h
theorem e_rl_l4 (t : List Part) (d0 l0 : Nat) (T5 : Int) (B : List (List Int)) (hB : B.length = t.length) (i : Nat) (hi0 : i < t.length) (row : List Int) (hr : row.length = 31) (s : Stk) (hd0 : ¬ d0 = s.length) :
 Run T b65l4 [(0, .sl .no 6 (es cPart t)), (1, .asl d0 l0 1 t.length 0 t.length), (5, i64 T5), (6, .asl s.length 256 1 t.length 0 t.length), (7, i64 i), (12, i64 far), (13, i64 0)] ([(256, .arr 1 (rowsO s.length B i row)), (800, .tok 31)] :: s) = some (.exit 8, [(0, .sl .no 6 (es cPart t)), (1, .asl d0 l0 1 t.length 0 t.length), (5, i64 T5), (6, .asl s.length 256 1 t.length 0 t.length), (7, i64 i), (12, i64 ((List.range 31).foldl (fun m k => min m (row.getD k 0)) far)), (13, i64 ((List.range 31).length : Nat)), (134, .bool false)], [(256, .arr 1 (es cRow (B.set i row)))] :: s) := by
 have key := loop_fold (T := T) (live := [0, 1, 5, 6, 7, 12, 13]) (keep := [256]) (b := d65l4) (List.range 31) (fun _ _ => True) (fun m k => min m (row.getD k 0)) (fun k (a : Int) => [(0, .sl .no 6 (es cPart t)), (1, .asl d0 l0 1 t.length 0 t.length), (5, i64 T5), (6, .asl s.length 256 1 t.length 0 t.length), (7, i64 i), (12, i64 a), (13, i64 (k : Nat))]) (fun k (a : Int) => [(256, .arr 1 (es cRow (B.set i row)))] :: s) (fun (a : Int) => (.exit 8, [(0, .sl .no 6 (es cPart t)), (1, .asl d0 l0 1 t.length 0 t.length), (5, i64 T5), (6, .asl s.length 256 1 t.length 0 t.length), (7, i64 i), (12, i64 a), (13, i64 ((List.range 31).length : Nat)), (134, .bool false)], [(256, .arr 1 (es cRow (B.set i row)))] :: s)) (by simp) ?_ ?_ ?_ far (by simp) [(0, .sl .no 6 (es cPart t)), (1, .asl d0 l0 1 t.length 0 t.length), (5, i64 T5), (6, .asl s.length 256 1 t.length 0 t.length), (7, i64 i), (12, i64 far), (13, i64 0)] ([(256, .arr 1 (rowsO s.length B i row)), (800, .tok 31)] :: s) (by simp [hd0, rowsO_map, row_ne hr]) (by simp [hd0, rowsO_map, row_ne hr])
 ·exact key
 ·intro k a hk hi
  try simp only [List.length_range] at hk
  try simp only [List.getElem_range]
  have hk2 : (k : Int) ≤ 30 := by omega
  have hk3 : (k : Int) < 31 := by omega
  have hi2 : (i : Int) < t.length := by omega
  have hi4 : i < (B.set i row).length := by simp; omega
  have hkr : k < row.length := by omega
  have e1 : row.getD k 0 = row[k] := by simp [List.getD, hkr]
  have hg : (B.set i row)[i] = row := by simp
  have hc := cRow_some (row_ne hr)
  have hi5 : i < B.length := by omega
  rw [e1]
  simp (maxSteps := 1000000) (disch := first | omega | assumption | decide +kernel | (simp; done) | (simp; omega) | fail) [hd0, hi2, hi4, hi5, hg, hc, hkr, hk, hk2, hk3, hB, hr, wk k (by omega)]
 ·intro k a hk hi
  try simp only [List.length_range] at hk
  try simp only [List.getElem_range]
  try simp
 ·intro a hi
  simp [hd0]
theorem bestB_next (t : List Part) (C : List (List Int)) (m : Nat) : bestB t C (m + 1) = (bestB t C m).set (t.length - 1 - m) (bestRow t (t.length - 1 - m) (C.getD (t.length - 1 - m) []) (piecesR t (bestB t C m) (t.length - 1 - m) (t.length - m) m)) := rfl
end Go.Proofs.Ytlcnoldkekcifaa

/-
  Cuts: the reference's least, whole; is there a truth?
-/
namespace Go.Proofs.Ytlcnoldkekcifaa
open Go.Ab
@[simp] theorem cRow_length (x) : (cRow x).length = 1 := rfl
@[simp] theorem cRow_set (x v) : (cRow x).set 0 v = [v] := rfl
theorem nothing_set : (es cInt farR).set 0 [i64 0] = es cInt nothingR := by
 have e : farR.set 0 0 = nothingR := by decide +kernel
 rw [← e]; simp [es, List.map_set]
theorem set_all {row : List Int} (h : row.length = 31) : (List.range 31).foldl (fun r n => r.set n (row.getD n 0)) farR = row := by
 have hf := fold_set 31 (fun n _ => row.getD n 0) farR 0 (by simp)
 rw [hf, List.drop_of_length_le (by simp), List.append_nil]
 refine List.ext_getElem (by simp [h]) fun n n1 n2 => ?_
 simp only [List.getElem_map, List.getElem_range]
 simp [List.getD, n2]
set_option maxHeartbeats 4000000 in
theorem e_rl_l0 (t : List Part) (ht : TW t) (d0 l0 : Nat) (C : List (List Int)) (hC : CostsOk t C) (E : List (List V)) (s : Stk) (hd0 : ¬ d0 = s.length) (hM : MatAt s d0 l0 E C) :
 Run T b65l0 [(0, .sl .no 6 (es cPart t)), (1, .asl d0 l0 1 t.length 0 t.length), (5, i64 0), (6, .asl s.length 256 1 t.length 0 t.length), (7, i64 ((t.length : Int) - 1))] ([(256, .arr 1 (es cRow (List.replicate t.length [])))] :: s) = some (.exit 0, [(0, .sl .no 6 (es cPart t)), (1, .asl d0 l0 1 t.length 0 t.length), (5, i64 (totalR t C (List.range t.length).length)), (6, .asl s.length 256 1 t.length 0 t.length), (7, i64 ((t.length : Int) - 1 - ((List.range t.length).length : Nat))), (21, .bool false)], [(256, .arr 1 (es cRow (bestB t C (List.range t.length).length)))] :: s) := by
 have key := loop_fold (T := T) (live := [0, 1, 5, 6, 7]) (keep := [256]) (b := d65l0) (List.range t.length) (fun _ _ => True) (fun _ _ => ()) (fun k (a : Unit) => [(0, .sl .no 6 (es cPart t)), (1, .asl d0 l0 1 t.length 0 t.length), (5, i64 (totalR t C k)), (6, .asl s.length 256 1 t.length 0 t.length), (7, i64 ((t.length : Int) - 1 - (k : Nat)))]) (fun k (a : Unit) => [(256, .arr 1 (es cRow (bestB t C k)))] :: s) (fun (a : Unit) => (.exit 0, [(0, .sl .no 6 (es cPart t)), (1, .asl d0 l0 1 t.length 0 t.length), (5, i64 (totalR t C (List.range t.length).length)), (6, .asl s.length 256 1 t.length 0 t.length), (7, i64 ((t.length : Int) - 1 - ((List.range t.length).length : Nat))), (21, .bool false)], [(256, .arr 1 (es cRow (bestB t C (List.range t.length).length)))] :: s)) (by simp) ?_ ?_ ?_ () (by simp) [(0, .sl .no 6 (es cPart t)), (1, .asl d0 l0 1 t.length 0 t.length), (5, i64 0), (6, .asl s.length 256 1 t.length 0 t.length), (7, i64 ((t.length : Int) - 1))] ([(256, .arr 1 (es cRow (List.replicate t.length [])))] :: s) (by simp [hd0, show bestB t C 0 = List.replicate t.length [] from rfl, show totalR t C 0 = 0 from rfl]) (by simp [hd0, show bestB t C 0 = List.replicate t.length [] from rfl, show totalR t C 0 = 0 from rfl])
 ·exact key
 ·intro k a hk hi
  try simp only [List.length_range] at hk
  try simp only [List.getElem_range]
  have hlen := ht.len
  have hT := total_range hC hlen (ht.of) (ht.wastes) k (by omega)
  have hI := best_inv hC hlen (ht.of) (ht.wastes) k (by omega)
  have hl := low_B hC hlen (ht.of) (ht.wastes) (k := t.length - 1 - k) (by omega)
  rw [best_keep t C (k := t.length - 1 - k) (m := k + 1) (m' := t.length) (by omega) (by omega) (by omega)] at hl
  have e2 : far = 1099511627776 := rfl
  have hB := bestB_length t C k
  have hn1 := bestB_next t C k
  have htot : totalR t C (k + 1) = if (t.getD (t.length - 1 - k) default).of = -1 then totalR t C k + lowR ((bestB t C (k + 1)).getD (t.length - 1 - k) []) else totalR t C k := rfl
  obtain ⟨i, hi2⟩ : ∃ i, i = t.length - 1 - k := ⟨_, rfl⟩
  have hi0 : i < t.length := by omega
  have ek : k = t.length - 1 - i := by omega
  have e3 : (t.length : Int) - 1 - k = i := by omega
  have e4 : t.length - k = i + 1 := by omega
  have e5 : (t.length : Int) - 1 - ((k + 1 : Nat) : Int) = (i : Int) - 1 := by omega
  rw [← hi2, e4] at hn1
  rw [← hi2] at htot hl
  rw [e4] at hI
  rw [e3, e5]
  have hI0 := hI
  generalize totalR t C k = T5 at *
  generalize bestB t C k = B at *
  have hP : ∀ m, m ≤ t.length - 1 - i → RowQ (piecesR t B i (i + 1) m) := fun m hm => by
   by_cases h1 : i + 1 < t.length
   ·have hY := YY_le (k := t.length - 1 - (i + 1)) (by omega)
    have b7 : (m : Int) * YY (t.length - 1 - (i + 1)) ≤ 7 * YY (t.length - 1 - (i + 1)) := Int.mul_le_mul_of_nonneg_right (by omega) (by have : M0 = 3000 := rfl; omega)
    have := piecesR_B (t := t) (B := B) (i := i) (b := i + 1) (Y := YY (t.length - 1 - (i + 1))) (m := m) (fun k hk _ => hI.rows (i + 1 + k) (by omega) (by omega)) (by omega) (by have : M0 = 3000 := rfl; omega)
    exact this.q (by omega)
   ·have : m = 0 := by omega
    subst this
    exact RefB.nothing.q (by omega)
  have hQ : ∀ k, i < k → k < t.length → RowQ (B.getD k []) := fun k h1 h2 => by
   have hY := YY_le (k := t.length - 1 - (i + 1)) (by omega)
   exact (hI.rows k (by omega) h2).q (by omega)
  have hCq : RowQ (C.getD i []) := (hC.2 i hi0).q (by have : M0 = 3000 := rfl; omega)
  have l1 := e_rl_l1 t hlen d0 l0 T5 B hB i hi0 hP hQ s hd0
  have l2 := e_rl_l2 t ht d0 l0 T5 B hB i hi0 (piecesR t B i (i + 1) (t.length - 1 - i)) (hP _ (Nat.le_refl _)) C hCq E hC.1 s hd0 hM
  have hrow : (List.range 31).foldl (fun r n => r.set n ((bestRow t i (C.getD i []) (piecesR t B i (i + 1) (t.length - 1 - i))).getD n 0)) farR = bestRow t i (C.getD i []) (piecesR t B i (i + 1) (t.length - 1 - i)) := set_all (bestRow_length _ _ _ _)
  rw [hrow] at l2
  simp only [List.length_range] at l1 l2
  rw [← ek] at l1 l2 hrow
  rw [hn1] at htot hl ⊢
  have hrl : (bestRow t i (C.getD i []) (piecesR t B i (i + 1) k)).length = 31 := bestRow_length _ _ _ _
  rw [set_get (by omega), if_pos rfl] at htot hl
  generalize bestRow t i (C.getD i []) (piecesR t B i (i + 1) k) = row at *
  have l4 := e_rl_l4 t d0 l0 T5 B hB i hi0 row hrl s hd0
  rw [show (List.range 31).foldl (fun m k => min m (row.getD k 0)) far = lowR row from rfl] at l4
  simp only [List.length_range] at l4
  rw [e2] at l4
  have hN := fun F lab hF => e_none F s lab hF
  have hrp : (es cRow B).set i [.asl s.length 800 1 31 0 31] = rowsP s.length B i := rfl
  have hi4 : i < B.length := by omega
  have hi5 : (i : Int) < t.length := by omega
  have w1 : IntKind.i64.wrap ((i : Int) + 1) = (i : Int) + 1 := wi _ (by omega) (by omega)
  have w2 : IntKind.i64.wrap ((i : Int) - 1) = (i : Int) - 1 := wi _ (by omega) (by omega)
  have hfr := rowsP_frz (d := s.length) (B := B) (i := i) hrl
  have hne := row_ne hrl
  rw [part_at hi0] at htot
  by_cases ho : t[i].of = -1
  ·rw [if_pos ho] at htot
   rw [htot]
   have w3 : IntKind.i64.wrap (T5 + lowR row) = T5 + lowR row := wi _ (by omega) (by omega)
   clear hi2
   have nl : nothingR.length = 31 := by decide +kernel
   have nt : List.take 31 nothingR = nothingR := by decide +kernel
   simp (maxSteps := 1000000) (disch := first | omega | assumption | decide +kernel | (simp; done) | (simp; omega) | fail) [hd0, nl, nt, hi4, hi5, hN, l1, l2, l4, hrp, hfr, hrl, hne, rowsO_map, rowsP_map, nothing_set, w1, w2, w3, ho, hB]
  ·rw [if_neg ho] at htot
   rw [htot]
   clear hi2
   have nl : nothingR.length = 31 := by decide +kernel
   have nt : List.take 31 nothingR = nothingR := by decide +kernel
   simp (maxSteps := 1000000) (disch := first | omega | assumption | decide +kernel | (simp; done) | (simp; omega) | fail) [hd0, nl, nt, hi4, hi5, hN, l1, l2, hrp, hfr, hrl, hne, rowsO_map, rowsP_map, nothing_set, w1, w2, ho, hB]
 ·intro k a hk hi
  try simp only [List.length_range] at hk
  try simp only [List.getElem_range]
  try simp
 ·intro a hi
  have e0 : (t.length : Int) - 1 - t.length = -1 := by omega
  simp [hd0, e0]
theorem e_rleast (t : List Part) (ht : TW t) (d0 l0 : Nat) (C : List (List Int)) (hC : CostsOk t C) (E : List (List V)) (s : Stk) (hM : MatAt s d0 l0 E C) (lab) : den T 65 [.sl .no 6 (es cPart t), .asl d0 l0 1 t.length 0 t.length] lab s = some (i64 (refL t C), s) := by
 have hlen := ht.len
 have hd0 : ¬ d0 = s.length := by have := hM.lt; omega
 have h := e_rl_l0 t ht d0 l0 C hC E s hd0 hM
 simp only [List.length_range] at h
 rw [show totalR t C t.length = refL t C from rfl] at h
 have hb3 : (t.length : Int) < 140737488355328 := by omega
 have hb4 : (t.length : Int) * 24 ≤ 140737488355328 := by omega
 have hb5 : ¬ 140737488355328 < (t.length : Int) * 24 := by omega
 have hb6 : ¬ 140737488355328 ≤ (t.length : Int) := by omega
 have hrep : List.replicate t.length [.sl .full 1 []] = es cRow (List.replicate t.length []) := by simp [es, cRow]
 have w1 : IntKind.i64.wrap ((t.length : Int) - 1) = (t.length : Int) - 1 := wi _ (by omega) (by omega)
 rw [den_fn t65 _ _ _ rfl]
 simp only [b65]
 simp (maxSteps := 1000000) (disch := first | omega | assumption | decide +kernel | (simp; done) | (simp; omega) | fail) [h, hb3, hb4, hb5, hb6, hrep, w1, hd0]
end Go.Proofs.Ytlcnoldkekcifaa

/-
  Cuts: is there a truth? Change of the reference.
-/
namespace Go.Proofs.Ytlcnoldkekcifaa
open Go.Ab
theorem matAt_mat {G : Ab.Loc} {s : Stk} {l : Nat} {C : List (List Int)} (hG : FreeAt G l) (hC : C.length ≤ 8) : MatAt ((G ++ matF s.length l C []) :: s) s.length l (ptrs s.length (l + 1000) C.length) C where
 lt := by simp
 get := by
  rw [sget_cons, if_pos rfl, get_app _ _ _ (by have := hG 0 (by omega); simpa using this), matF, Loc.get, if_pos rfl]
 len := by simp
 row i h := by
  have hi : i < C.length := by simpa using h
  refine ⟨_, ptrs_get _ _ _ _ h, .inr ⟨_, _, rfl, by simp, ?_⟩⟩
  have e : l + 1000 * (i + 1) = l + 1000 + 1000 * i := by omega
  have hg := hG (i + 1) (by omega)
  rw [e] at hg
  rw [sget_cons, if_pos rfl, get_app _ _ _ hg, matF, Loc.get, if_neg (by omega), get_rows _ _ _ _ hi]
  simp [List.getD, hi]
@[simp] theorem e_isOne (n : Int) (lab s) : den T 64 [i64 n] lab s = some (.bool (decide (n < half)), s) := by
 rw [den_fn t64 _ _ _ rfl]
 simp only [b64]
 by_cases h : n < 549755813888 <;> simp (disch := first | omega | assumption | decide +kernel | (simp; done) | (simp; omega) | fail) [h, half]
theorem wordC_costs {t : List Part} : CostsOk t (costsL t (wordC t)) := by rw [wordC_val]; exact valC_ok (small_zero t)
@[simp] theorem e_IsOne (t : List Part) (ht : tblOk t = true) (lab s) : den T 20 [.sl .no 6 (es cPart t)] lab s = some (.bool (oneB t), s) := by
 have hlen := tblOk_len ht
 have hF : FreeAt [] 80 := fun _ _ => rfl
 have hw := e_words t (tw_ok ht) [] s 80 hF
 have hM := matAt_mat (G := []) (s := s) (l := 80) (C := costsL t (wordC t)) hF (by simpa using hlen)
 have hl := fun lab => e_rleast t (tw_ok ht) s.length 80 (costsL t (wordC t)) wordC_costs _ _ hM lab
 simp only [List.nil_append] at hw hl
 have h1 := ref_one ht
 rw [den_fn t20 _ _ _ rfl]
 simp only [b20]
 simp [hw, hl, h1]
end Go.Proofs.Ytlcnoldkekcifaa

/-
  Cuts: the change: plain law.
-/
namespace Go.Proofs.Ytlcnoldkekcifaa
open Go.Ab
def onlyAll (t : List Part) (k : List Int) (m : Nat) : List Part := (List.range m).foldl (fun o i => onlyT o i (k.getD i 0)) t
theorem onlyAll_succ (t k m) : onlyAll t k (m + 1) = onlyT (onlyAll t k m) m (k.getD m 0) := by simp [onlyAll, List.range_succ]
@[simp] theorem onlyAll_length (t k) : ∀ m, (onlyAll t k m).length = t.length
 | 0 => rfl
 | m + 1 => by rw [onlyAll_succ, only_length, onlyAll_length t k m]
end Go.Proofs.Ytlcnoldkekcifaa

/-
  Cuts: the best cut: plain law.
-/
namespace Go.Proofs.Ytlcnoldkekcifaa
open Go.Ab
theorem grow_eq (t : List Part) (p : Nat) (A : List (List Int)) : growP t A p = A ++ (A.map fun l => l ++ [(p : Int)]).filter fun l => isCutP t l := by
 have key : ∀ m, m ≤ A.length → (List.range m).foldl (grow1 t p A) A = A ++ ((A.take m).map fun l => l ++ [(p : Int)]).filter fun l => isCutP t l := by
  intro m
  induction m with
  | zero => intro _; simp
  | succ m ih =>
    intro hm
    have hA : A.getD m [] = A[m] := by simp [List.getD, show m < A.length by omega]
    rw [List.range_succ, List.foldl_append, ih (by omega), List.foldl_cons, List.foldl_nil, List.take_add_one, List.getElem?_eq_getElem (by omega)]
    simp only [Option.toList_some, List.map_append, List.filter_append, List.map_cons, List.map_nil, grow1, hA]
    cases h : isCutP t (A[m] ++ [(p : Int)])
    ·simp [h]
    ·simp [h]
 unfold growP
 rw [key _ (Nat.le_refl _), List.take_length]
theorem grow_mem {t : List Part} {p : Nat} {A : List (List Int)} {x : List Int} : x ∈ growP t A p ↔ x ∈ A ∨ ∃ l, l ∈ A ∧ l ++ [(p : Int)] = x ∧ isCutP t x = true := by
 rw [grow_eq, List.mem_append, List.mem_filter, List.mem_map]
 constructor
 ·rintro (h | ⟨⟨l, h1, h2⟩, h3⟩)
  ·exact .inl h
  ·exact .inr ⟨l, h1, h2, h3⟩
 ·rintro (h | ⟨l, h1, h2, h3⟩)
  ·exact .inl h
  ·exact .inr ⟨⟨l, h1, h2⟩, h3⟩
theorem isCut_snoc {t : List Part} {l : List Int} {x : Int} (h : isCutP t (l ++ [x]) = true) : isCutP t l = true := by
 simp only [isCutP, allB, List.all_eq_true, List.mem_range] at h ⊢
 intro k hk
 have h1 := h k (by simp; omega)
 have e1 : (l ++ [x]).getD k 0 = l.getD k 0 := by simp only [List.getD]; rw [List.getElem?_append_left hk]
 have e2 : (l ++ [x]).getD (k - 1) 0 = l.getD (k - 1) 0 := by simp only [List.getD]; rw [List.getElem?_append_left (by omega)]
 have e3 : (l ++ [x]).take k = l.take k := List.take_append_of_le_length (by omega)
 unfold cutAt at h1 ⊢
 rw [e1, e2, e3] at h1
 exact h1
theorem all_mem {t : List Part} (ho : OfOk t) : ∀ m, m ≤ t.length → ∀ x, x ∈ (List.range m).foldl (growP t) [[]] ↔ isCutP t x = true ∧ ∀ y ∈ x, y < (m : Int)
 | 0, _, x => by
   simp only [List.range_zero, List.foldl_nil, List.mem_singleton]
   constructor
   ·rintro rfl; exact ⟨rfl, by simp⟩
   ·rintro ⟨h1, h2⟩
    cases x with
    | nil => rfl
    | cons y x =>
      have a := h2 y (by simp)
      have b := cut_mem (by rw [← isCut_eq ho]; exact h1) (x := y) (by simp)
      omega
 | m + 1, hm, x => by
   rw [List.range_succ, List.foldl_append, List.foldl_cons, List.foldl_nil, grow_mem]
   have ih := all_mem ho m (by omega)
   constructor
   ·rintro (h | ⟨l, h1, rfl, h3⟩)
    ·obtain ⟨a, b⟩ := (ih x).1 h
     exact ⟨a, fun y hy => by have := b y hy; omega⟩
    ·obtain ⟨a, b⟩ := (ih l).1 h1
     refine ⟨h3, fun y hy => ?_⟩
     rcases List.mem_append.1 hy with h | h
     ·have := b y h; omega
     ·simp only [List.mem_singleton] at h; omega
   ·rintro ⟨h1, h2⟩
    by_cases hx : ∀ y ∈ x, y < (m : Int)
    ·exact .inl ((ih x).2 ⟨h1, hx⟩)
    ·right
     have hR : isCutR t x = true := by rw [← isCut_eq ho]; exact h1
     simp only [isCutR, Bool.and_eq_true] at hR
     have hr := (rising_iff.1 hR.1).1
     have hne : x ≠ [] := fun e => by subst e; exact hx (by simp)
     obtain ⟨l, z, rfl⟩ : ∃ l z, x = l ++ [z] := ⟨x.dropLast, x.getLast hne, (List.dropLast_concat_getLast hne).symm⟩
     have hlz : ∀ y ∈ l, y < z := fun y hy => (List.pairwise_append.1 hr).2.2 y hy z (by simp)
     have hz := h2 z (by simp)
     have hzm : z = (m : Int) := by
      apply Classical.byContradiction
      intro hn
      apply hx
      intro y hy
      rcases List.mem_append.1 hy with h | h
      ·have := hlz y h; omega
      ·simp only [List.mem_singleton] at h; omega
     subst hzm
     exact ⟨l, (ih l).2 ⟨isCut_snoc h1, hlz⟩, rfl, h1⟩
theorem cuts_mem {t : List Part} (ho : OfOk t) {x : List Int} : x ∈ cutsOf t ↔ isCutP t x = true := by
 rw [cutsOf, (sortC_perm _).mem_iff, allCuts, all_mem ho _ (Nat.le_refl _)]
 exact ⟨fun h => h.1, fun h => ⟨h, fun y hy => (cut_mem (by rw [← isCut_eq ho]; exact h) hy).2.1⟩⟩
structure BestI (t : List Part) (P : List (List Int)) (a : BS) : Prop where
 zero : P = [] → a = ⟨none, 0, false, false⟩
 more : P ≠ [] → ∃ P1 b P2, P = P1 ++ b :: P2 ∧ a = ⟨some b, priceLow t b, true, false⟩ ∧ (∀ c ∈ P1, priceLow t c < priceLow t b) ∧ ∀ c ∈ P2, priceLow t c ≤ priceLow t b
theorem best_step {t : List Part} {P : List (List Int)} {a : BS} {c : List Int} (h : BestI t P a) (hc : priceLow t c < far) : (stepB t a c).2 = true ∧ BestI t (P ++ [c]) (stepB t a c).1 := by
 by_cases hP : P = []
 ·have e := h.zero hP
  subst hP e
  unfold stepB
  rw [if_pos hc, if_pos (.inl rfl)]
  exact ⟨rfl, ⟨fun e => by simp at e, fun _ => ⟨[], c, [], rfl, rfl, by simp, by simp⟩⟩⟩
 ·obtain ⟨P1, b, P2, e1, e2, e3, e4⟩ := h.more hP
  subst e2
  unfold stepB
  rw [if_pos hc]
  by_cases hm : priceLow t b < priceLow t c
  ·rw [if_pos (.inr hm)]
   refine ⟨rfl, ⟨fun e => by simp at e, fun _ => ⟨P, c, [], rfl, rfl, fun d hd => ?_, by simp⟩⟩⟩
   rw [e1] at hd
   rcases List.mem_append.1 hd with h | h
   ·have := e3 d h; omega
   ·rcases List.mem_cons.1 h with rfl | h
    ·exact hm
    ·have := e4 d h; omega
  ·rw [if_neg (by rintro (e | e); · cases e
                  ·exact hm e)]
   refine ⟨rfl, ⟨fun e => by simp at e, fun _ => ⟨P1, b, P2 ++ [c], by rw [e1]; simp, rfl, e3, fun d hd => ?_⟩⟩⟩
   rcases List.mem_append.1 hd with h | h
   ·exact e4 d h
   ·simp only [List.mem_singleton] at h; subst h; omega
theorem best_fold {t : List Part} : ∀ (L P : List (List Int)) (a : BS), BestI t P a → (∀ c ∈ L, priceLow t c < far) → BestI t (P ++ L) (foldB (stepB t) L a).1
 | [], P, a, h, _ => by simpa [foldB] using h
 | c :: L, P, a, h, hL => by
   obtain ⟨h1, h2⟩ := best_step h (hL c (by simp))
   have := best_fold L (P ++ [c]) _ h2 fun d hd => hL d (by simp [hd])
   rw [foldB, if_pos h1]
   simpa using this
structure BestOf (t : List Part) (b : List Int) : Prop where
 cut : isCutP t b = true
 all : ∀ c, isCutP t c = true → priceLow t c ≤ priceLow t b ∧ (cmpC c b < 0 → priceLow t c < priceLow t b)
theorem best_spec {t : List Part} (ho : OfOk t) (hp : ∀ c, isCutP t c = true → priceLow t c < far) : ∃ b, (bestS t).1 = ⟨some b, priceLow t b, true, false⟩ ∧ BestOf t b := by
 have hne : cutsOf t ≠ [] := fun e => by
  have : ([] : List Int) ∈ cutsOf t := (cuts_mem ho).2 rfl
  rw [e] at this; simp at this
 have h := best_fold (t := t) (cutsOf t) [] ⟨none, 0, false, false⟩ ⟨fun _ => rfl, fun e => absurd rfl e⟩ fun c hc => hp c ((cuts_mem ho).1 hc)
 rw [List.nil_append] at h
 obtain ⟨P1, b, P2, e1, e2, e3, e4⟩ := h.more hne
 have hs : (cutsOf t).Pairwise (fun a b => ¬ cmpC b a < 0) := sortC_sorted _
 refine ⟨b, e2, (cuts_mem ho).1 (by rw [e1]; simp), fun c hc => ?_⟩
 have hm := (cuts_mem ho).2 hc
 rw [e1] at hm hs
 rcases List.mem_append.1 hm with h | h
 ·have := e3 c h; exact ⟨by omega, fun _ => this⟩
 ·rcases List.mem_cons.1 h with rfl | h
  ·exact ⟨Int.le_refl _, fun hlt => absurd hlt (cmpC_irr _)⟩
  ·refine ⟨e4 c h, fun hlt => absurd hlt ?_⟩
   exact List.rel_of_pairwise_cons (List.pairwise_append.1 hs).2.1 h
theorem best_unique {t : List Part} {b c : List Int} (h1 : BestOf t b) (h2 : BestOf t c) : b = c := by
 apply cmpC_eq
 ·intro h
  have := (h2.all b h1.cut).2 h
  have := (h1.all c h2.cut).1
  omega
 ·intro h
  have := (h1.all c h2.cut).2 h
  have := (h2.all b h1.cut).1
  omega
structure Twin (t o : List Part) : Prop where
 len : o.length = t.length
 of : ∀ i, (o.getD i default).of = (t.getD i default).of
 weight : ∀ i, (o.getD i default).weight = (t.getD i default).weight
 waste : ∀ i, (o.getD i default).waste = (t.getD i default).waste
theorem Twin.symm {t o} (h : Twin t o) : Twin o t := ⟨h.len.symm, fun i => (h.of i).symm, fun i => (h.weight i).symm, fun i => (h.waste i).symm⟩
theorem Twin.alike {t o} (h : Twin t o) : Alike t o := ⟨h.len, fun i _ => h.of i, fun i _ => h.waste i⟩
theorem Twin.truth {t o w} (h : Twin t o) (hw : Truth t w) : Truth o w := fun i hi => by
 have hi' : i < t.length := by rw [← h.len]; exact hi
 have e : awayC o i (w i) = awayC t i (w i) := by unfold awayC; rw [h.weight]
 exact ⟨h.alike.vat hi' (hw i hi').1 (by rw [e, (hw i hi').2]; decide), by rw [e]; exact (hw i hi').2⟩
theorem Twin.cut {t o} (h : Twin t o) (x : List Int) : isCutP o x = isCutP t x := by
 have e1 : ∀ n, isPart o n = isPart t n := fun n => by unfold isPart; rw [h.len]
 have e2 : ∀ n, ofAt o n = ofAt t n := fun n => by unfold ofAt; rw [h.of]
 have : cutAt o x = cutAt t x := by funext k; unfold cutAt; rw [e1, e2, h.alike.canCut]
 unfold isCutP; rw [this]
theorem Twin.sold {t o} (h : Twin t o) (x : List Int) (i : Nat) : soldB o x i = soldB t x i := by unfold soldB; rw [h.of]
theorem Twin.best {t o} (h : Twin t o) {b : List Int} {f : Int → Int} (hf : ∀ x y, f x ≤ f y ↔ x ≤ y) (hp : ∀ c, isCutP t c = true → priceLow o c = f (priceLow t c)) (hb : BestOf o b) : BestOf t b where
 cut := by rw [← h.cut]; exact hb.cut
 all c hc := by
  have hc2 : isCutP o c = true := by rw [h.cut]; exact hc
  have hb2 : isCutP t b = true := by rw [← h.cut]; exact hb.cut
  obtain ⟨k1, k2⟩ := hb.all c hc2
  rw [hp c hc, hp b hb2] at k1 k2
  refine ⟨(hf _ _).1 k1, fun hlt => ?_⟩
  have := k2 hlt
  apply Classical.byContradiction
  intro hn
  have := (hf (priceLow t b) (priceLow t c)).2 (by omega)
  omega
theorem lowG_le {t : List Part} {e : Nat → Int} {w : Nat → Nat} (hn : t.length ≤ 8) (ho : OfOk t) (he : Small t e) (h : Truth t w) : lowP t e ≤ sumE t e w ∧ lowP t e < far := by
 have hs := fun i (w : Nat) (hi : i < t.length) (hw : w < 31) => (bet_small he i w hi hw).1
 have := leastP_le hn ho (c := truthC t fun i w => e i * w) (fun i w hi hw => truthC_small (hs i w hi hw)) w fun i hi => (truth_vat he h i hi).1
 rw [costW_congr (c' := fun i w => e i * (w : Int)) (fun i hi => (truth_vat he h i hi).2) _ (Nat.le_refl _), costW_sum t _ _ _ (Nat.le_refl _), Nat.sub_self] at this
 exact this
theorem small_paysG {t : List Part} (h : GoodT t) (cut : List Int) : Small t (paysE t cut) := fun i hi => by
 have := h.pence i hi
 rw [paysE_sold, part_at hi]
 split <;> omega
theorem best_known {t : List Part} (h : GoodT t) {w : Nat → Nat} (hw : Truth t w) : ∃ b, (bestS t).1 = ⟨some b, priceLow t b, true, false⟩ ∧ BestOf t b :=
 best_spec h.of fun c _ => (lowG_le h.len h.of (small_paysG h c) hw).2
end Go.Proofs.Ytlcnoldkekcifaa

/-
  Cuts: all twice as dear: plain law.
-/
namespace Go.Proofs.Ytlcnoldkekcifaa
open Go.Ab
def twiceP (p : Part) : Part := { p with pence := p.pence * 2 }
def twiceT (t : List Part) : List Part := t.map twiceP
@[simp] theorem twice_length (t) : (twiceT t).length = t.length := by simp [twiceT]
theorem twice_get (t : List Part) (i : Nat) : (twiceT t).getD i default = twiceP (t.getD i default) := by
 simp only [twiceT, List.getD, List.getElem?_map]
 cases t[i]? with
 | none => rfl
 | some p => rfl
theorem twice_twin (t : List Part) : Twin t (twiceT t) := ⟨by simp, fun i => by rw [twice_get]; rfl, fun i => by rw [twice_get]; rfl, fun i => by rw [twice_get]; rfl⟩
theorem twice_pays (t : List Part) (cut : List Int) (i : Nat) : paysE (twiceT t) cut i = 2 * paysE t cut i := by
 rw [paysE_sold, paysE_sold, (twice_twin t).sold, twice_get]
 split
 ·simp only [twiceP]; omega
 ·rfl
theorem sumE_twice {t o : List Part} (hl : o.length = t.length) {e e' : Nat → Int} (h : ∀ i, e' i = 2 * e i) (w : Nat → Nat) : sumE o e' w = 2 * sumE t e w := by
 have key : ∀ m, sumI (fun i => e' i * (w i : Int)) 0 m = 2 * sumI (fun i => e i * (w i : Int)) 0 m := by
  intro m
  induction m with
  | zero => rfl
  | succ m ih => rw [sumI, sumI, ih, h, Int.mul_assoc]; omega
 unfold sumE; rw [hl, key]
theorem low_twice {t o : List Part} (ht : tblOk t = true) (ho : tblOk o = true) (hT : Twin t o) {e e' : Nat → Int} (h : ∀ i, e' i = 2 * e i) (he : Small t e) (he' : Small o e') {w0 : Nat → Nat} (hw : Truth t w0) : lowP o e' = 2 * lowP t e ∧ lowP t e < far ∧ lowP o e' < far := by
 have f1 := (low_le ht he hw).2
 have f2 := (low_le ho he' (hT.truth hw)).2
 obtain ⟨w, h1, h2⟩ := low_ex ht he f1
 obtain ⟨v, h3, h4⟩ := low_ex ho he' f2
 have a1 := (low_le ho he' (hT.truth h1)).1
 have a2 := (low_le ht he (hT.symm.truth h3)).1
 rw [sumE_twice hT.len h] at a1 h4
 omega
theorem span_twice {t o : List Part} (ht : tblOk t = true) (ho : tblOk o = true) (hT : Twin t o) {e e' : Nat → Int} (h : ∀ i, e' i = 2 * e i) (he : Small t e) (he' : Small o e') {w0 : Nat → Nat} (hw : Truth t w0) :
 ∃ lo hi, spanR t true e = (⟨lo, hi⟩, 0) ∧ spanR o true e' = (⟨lo + lo, hi + hi⟩, 0) ∧ SpanOf t e ⟨lo, hi⟩ := by
 obtain ⟨s, k1, k2⟩ := span_truth ht he hw
 have a1 := low_twice ht ho hT h he he' hw
 have a2 := low_twice (e := fun i => -e i) (e' := fun i => -e' i) ht ho hT (fun i => by rw [h]; omega) he.neg he'.neg hw
 have x1 : spanR t true e = (⟨lowP t e, -highP t e⟩, 0) := by simp [spanR, askE, ht, a1.2.1]
 have x2 : spanR o true e' = (⟨lowP o e', -highP o e'⟩, 0) := by simp [spanR, askE, ho, a1.2.2]
 have hh : ∀ (t : List Part) (e : Nat → Int), highP t e = lowP t (fun i => -e i) := fun t e => rfl
 rw [k1] at x1
 injection x1 with x1
 subst x1
 refine ⟨_, _, k1, ?_, k2⟩
 rw [x2, hh, hh, a1.1, a2.1]
 congr 2 <;> omega
theorem price_twice {t : List Part} (ht : tblOk t = true) (ho : tblOk (twiceT t) = true) {w0 : Nat → Nat} (hw : Truth t w0) {c : List Int} (hc : isCutR t c = true) : ∃ lo hi, priceR t c = (⟨lo, hi⟩, 0) ∧ priceR (twiceT t) c = (⟨lo + lo, hi + hi⟩, 0) ∧ 0 ≤ lo ∧ lo ≤ hi ∧ hi ≤ 24000 := by
 obtain ⟨lo, hi, h1, h2, h3⟩ := span_twice ht ho (twice_twin t) (twice_pays t c) (small_pays ht c) (small_pays ho c) hw
 have hr := h3.range (tblOk_len ht) (fun i hi => pays_range ht c i hi)
 have hcP : isCutP t c = true := by rw [isCut_eq (tblOk_of ht)]; exact hc
 refine ⟨lo, hi, ?_, ?_, hr⟩
 ·unfold priceR; rw [if_pos ht, hcP]; exact h1
 ·unfold priceR; rw [if_pos ho, (twice_twin t).cut, hcP]; exact h2
theorem cut_twice {t : List Part} (ht : tblOk t = true) (ho : tblOk (twiceT t) = true) {w0 : Nat → Nat} (hw : Truth t w0) : ∃ b, cutR t = (b, 0) ∧ cutR (twiceT t) = (b, 0) ∧ b.length ≤ 8 := by
 obtain ⟨b, h1, h2⟩ := best_known (good_of ht) hw
 obtain ⟨c, h3, h4⟩ := best_known (good_of ho) ((twice_twin t).truth hw)
 have h5 : BestOf t c := (twice_twin t).best (f := fun x => 2 * x) (fun x y => by omega) (fun d _ => (low_twice ht ho (twice_twin t) (twice_pays t d) (small_pays ht d) (small_pays ho d) hw).1) h4
 obtain rfl := best_unique h2 h5
 have hb : isCutR t b = true := by rw [← isCut_eq (tblOk_of ht)]; exact h2.cut
 refine ⟨b, ?_, ?_, ?_⟩
 ·unfold cutR; rw [if_pos ht, h1]; rfl
 ·unfold cutR; rw [if_pos ho, h3]; rfl
 ·have := tblOk_len ht
  simp only [isCutR, Bool.and_eq_true] at hb
  obtain ⟨p1, p2⟩ := rising_iff.1 hb.1
  have key : ∀ {l : List Int} {lo n : Nat}, l.Pairwise (· < ·) → (∀ x ∈ l, (lo : Int) ≤ x ∧ x < n) → l.length + lo ≤ max lo n := by
   intro l
   induction l with
   | nil => intro lo n _ _; simp; omega
   | cons x l ih =>
     intro lo n h hb
     have h1 := hb x (by simp)
     have := ih (lo := lo + 1) (n := n) (List.Pairwise.of_cons h) fun y hy => by
      have := List.rel_of_pairwise_cons h hy
      have := hb y (by simp [hy])
      omega
     simp only [List.length_cons]; omega
  have := key (lo := 0) (n := t.length) p1 fun x hx => by have := p2 x hx; omega
  omega
theorem rank_twice {t : List Part} (ht : tblOk t = true) (ho : tblOk (twiceT t) = true) {w0 : Nat → Nat} (hw : Truth t w0) {a b : List Int} (ha : isCutR t a = true) (hb : isCutR t b = true) : ∃ k, rankR t a b = (k, 0) ∧ rankR (twiceT t) a b = (k, 0) := by
 obtain ⟨lo, hi, h1, h2, h3⟩ := span_twice (e := rankE t a b) (e' := rankE (twiceT t) a b) ht ho (twice_twin t) (fun i => by unfold rankE; rw [twice_pays, twice_pays]; omega) (small_rank ht a b) (small_rank ho a b) hw
 have haP : isCutP t a = true := by rw [isCut_eq (tblOk_of ht)]; exact ha
 have hbP : isCutP t b = true := by rw [isCut_eq (tblOk_of ht)]; exact hb
 have s1 : rankS t a b = (⟨lo, hi⟩, 0) := by unfold rankS; rw [haP, hbP]; exact h1
 have s2 : rankS (twiceT t) a b = (⟨lo + lo, hi + hi⟩, 0) := by unfold rankS; rw [(twice_twin t).cut, (twice_twin t).cut, haP, hbP]; exact h2
 unfold rankR
 rw [if_pos ht, if_pos ho, s1, s2]
 simp only [if_true]
 by_cases e1 : 0 < lo
 ·exact ⟨1, by rw [if_pos e1], by rw [if_pos (by omega)]⟩
 ·by_cases e2 : hi ≤ 0
  ·exact ⟨2, by rw [if_neg e1, if_pos e2], by rw [if_neg (by omega), if_pos (by omega)]⟩
  ·exact ⟨3, by rw [if_neg e1, if_neg e2], by rw [if_neg (by omega), if_neg (by omega)]⟩
end Go.Proofs.Ytlcnoldkekcifaa

/-
  Cuts: CutsTwice.
-/
namespace Go.Proofs.Ytlcnoldkekcifaa
open Go.Ab
theorem e_Twice_l (t : List Part) (ht : tblOk t = true) (A B : List Int) (s : Stk)  :
 Run T b5l0 [(0, .sl .no 6 (es cPart t)), (3, .ptr s.length 48 0), (5, .asl s.length 576 6 t.length 0 t.length), (6, i64 0)] ([(48, .cell [.sl .no 1 (es cInt A), .sl .no 1 (es cInt B)]), (576, .arr 6 (es cPart t))] :: s) = some (.exit 0, [(0, .sl .no 6 (es cPart t)), (3, .ptr s.length 48 0), (5, .asl s.length 576 6 t.length 0 t.length), (6, i64 ((List.range t.length).length : Nat)), (40, .bool false)], [(48, .cell [.sl .no 1 (es cInt A), .sl .no 1 (es cInt B)]), (576, .arr 6 (es cPart ((List.range t.length).foldl (fun o i => o.set i (twiceP (o.getD i default))) t)))] :: s) := by
 have key := loop_fold (T := T) (live := [0, 3, 5, 6]) (keep := [48, 576]) (b := d5l0) (List.range t.length) (fun k o => o.length = t.length ∧ ∀ i, k ≤ i → i < t.length → o.getD i default = t.getD i default) (fun o i => o.set i (twiceP (o.getD i default))) (fun k (a : List Part) => [(0, .sl .no 6 (es cPart t)), (3, .ptr s.length 48 0), (5, .asl s.length 576 6 t.length 0 t.length), (6, i64 (k : Nat))]) (fun k (a : List Part) => [(48, .cell [.sl .no 1 (es cInt A), .sl .no 1 (es cInt B)]), (576, .arr 6 (es cPart a))] :: s) (fun (a : List Part) => (.exit 0, [(0, .sl .no 6 (es cPart t)), (3, .ptr s.length 48 0), (5, .asl s.length 576 6 t.length 0 t.length), (6, i64 ((List.range t.length).length : Nat)), (40, .bool false)], [(48, .cell [.sl .no 1 (es cInt A), .sl .no 1 (es cInt B)]), (576, .arr 6 (es cPart a))] :: s)) (by simp) ?_ ?_ ?_ t (by simp) [(0, .sl .no 6 (es cPart t)), (3, .ptr s.length 48 0), (5, .asl s.length 576 6 t.length 0 t.length), (6, i64 0)] ([(48, .cell [.sl .no 1 (es cInt A), .sl .no 1 (es cInt B)]), (576, .arr 6 (es cPart t))] :: s) (by simp) (by simp)
 ·exact key
 ·intro k a hk hi
  try simp only [List.length_range] at hk
  try simp only [List.getElem_range]
  have hlen := tblOk_len ht
  obtain ⟨hi1, hi2⟩ := hi
  have hk2 : (k : Int) < t.length := by omega
  have hka : k < a.length := by omega
  have hw := tblOk_w ht k hk
  have e1 : a.getD k default = a[k] := by simp [List.getD, hka]
  have e2 := hi2 k (Nat.le_refl _) hk
  rw [e1, part_at hk] at e2
  rw [e1]
  generalize hp : a[k] = p at e2
  rw [← e2] at hw
  have w1 : IntKind.i64.wrap (p.pence * 2) = p.pence * 2 := wi _ (by omega) (by omega)
  have hset : ∀ q : Part, (es cPart a).set k (cPart q) = es cPart (a.set k q) := fun q => by simp [es, List.map_set]
  have hs := hset (twiceP p)
  obtain ⟨p0, ⟨p1, p2⟩, ⟨p3, p4⟩, p5⟩ := p
  simp only [twiceP, cPart] at hs w1 ⊢
  simp (maxSteps := 1000000) (disch := first | omega | assumption | decide +kernel | (simp; done) | (simp; omega) | fail) [hk, hk2, hka, hi1, hp, w1, hs, wk k (by omega)]
 ·intro k a hk hi
  try simp only [List.length_range] at hk
  try simp only [List.getElem_range]
  obtain ⟨hi1, hi2⟩ := hi
  refine ⟨by simp [hi1], fun i h1 h2 => ?_⟩
  rw [← hi2 i (by omega) h2]
  simp only [List.getD, List.getElem?_set]; rw [if_neg (by omega)]
 ·intro a hi
  simp [hi.1]
theorem twice_fold (t : List Part) : (List.range t.length).foldl (fun o i => o.set i (twiceP (o.getD i default))) t = twiceT t := by
 rw [fold_set t.length (fun _ p => twiceP p) t default (Nat.le_refl _), List.drop_length, List.append_nil]
 refine List.ext_getElem (by simp) fun i h1 h2 => ?_
 have hi : i < t.length := by simpa using h2
 simp [twiceT, List.getD, hi]
set_option maxHeartbeats 8000000 in
theorem e_CutsTwice (t : List Part) (hl : t.length < 4611686018427387904) (a b : List Int) (ha : a.length < 4611686018427387904) (hb : b.length < 4611686018427387904) (lab s) : den T 5 [.sl .no 6 (es cPart t), .agg [.sl .no 1 (es cInt a), .sl .no 1 (es cInt b)]] lab s = some (.bool true, s) := by
 rw [den_fn t5 _ _ _ rfl]
 simp only [b5]
 cases h1 : readyB t
 ·simp (maxSteps := 1000000) (disch := first | omega | assumption | decide +kernel | (simp; done) | (simp; omega) | fail) [h1]
 have ht := readyB_ok h1
 have hlen := tblOk_len ht
 cases h2 : cutsB t a b
 ·simp (maxSteps := 1000000) (disch := first | omega | assumption | decide +kernel | (simp; done) | (simp; omega) | fail) [h1, h2]
 cases h3 : oneB t
 ·simp (maxSteps := 1000000) (disch := first | omega | assumption | decide +kernel | (simp; done) | (simp; omega) | fail) [h1, h2, h3, ht]
 have hC := fun F lab hF => e_Copy07 t (by omega) F s lab hF
 have hL := e_Twice_l t ht a b s
 rw [twice_fold] at hL
 simp only [List.length_range] at hL
 have hol := twice_length t
 have z0 : (twiceT t).take t.length = twiceT t := List.take_of_length_le (by simp)
 cases h4 : readyB (twiceT t)
 ·generalize twiceT t = o at *
  simp (maxSteps := 1000000) (disch := first | omega | assumption | decide +kernel | (simp; done) | (simp; omega) | fail) [h1, h2, h3, ht, h4, hC, hL, hol, z0]
 have ho := readyB_ok h4
 obtain ⟨w, hw⟩ := (oneB_iff ht).1 h3
 have h5 := h2
 simp only [cutsB, Bool.and_eq_true, decide_eq_true_eq] at h5
 obtain ⟨l1, l2, ca, cb⟩ := h5
 obtain ⟨lo, hi, p1, p2, p4, p5, p6⟩ := price_twice ht ho hw ca
 obtain ⟨c, r1, r2, r5⟩ := cut_twice ht ho hw
 obtain ⟨k, q1, q2⟩ := rank_twice ht ho hw ca cb
 have p3 := fun lab s => e_plus07 lo hi lo hi (lo + lo) (hi + hi) (by omega) (by omega) (by omega) rfl rfl lab s
 generalize lo + lo = lo2 at *
 generalize hi + hi = hi2 at *
 have r3 : c.length < 4611686018427387904 := by omega
 have r4 : (twiceT t).length < 4611686018427387904 := by omega
 have k1 : ¬ (140737488355328 : Int) < a.length * 8 := by omega
 have k2 : ¬ (140737488355328 : Int) ≤ a.length := by omega
 have k3 : ¬ (140737488355328 : Int) < b.length * 8 := by omega
 have k4 : ¬ (140737488355328 : Int) ≤ b.length := by omega
 generalize twiceT t = o at *
 by_cases ha0 : a = [] <;> by_cases hb0 : b = []
 ·simp (maxSteps := 1000000) (disch := first | omega | assumption | decide +kernel | (simp; done) | (simp; omega) | fail) [run_drawnK, h1, h2, h3, ht, ho, h4, hC, hL, k1, k2, k3, k4, appK_full, appD_full, p1, p2, p3, r1, r2, r3, r4, q1, q2, z0, hol, appK_full_e ha0, appD_full_e ha0, appK_full_e hb0, appD_full_e hb0]
 ·simp (maxSteps := 1000000) (disch := first | omega | assumption | decide +kernel | (simp; done) | (simp; omega) | fail) [run_drawnK, h1, h2, h3, ht, ho, h4, hC, hL, k1, k2, k3, k4, appK_full, appD_full, p1, p2, p3, r1, r2, r3, r4, q1, q2, z0, hol, appK_full_e ha0, appD_full_e ha0, hb0]
 ·simp (maxSteps := 1000000) (disch := first | omega | assumption | decide +kernel | (simp; done) | (simp; omega) | fail) [run_drawnK, h1, h2, h3, ht, ho, h4, hC, hL, k1, k2, k3, k4, appK_full, appD_full, p1, p2, p3, r1, r2, r3, r4, q1, q2, z0, hol, ha0, appK_full_e hb0, appD_full_e hb0]
 ·simp (maxSteps := 6000000) (disch := first | omega | assumption | decide +kernel | (simp; done) | (simp; omega) | fail) [run_drawnK, h1, h2, h3, ht, ho, h4, hC, hL, k1, k2, k3, k4, appK_full, appD_full, p1, p2, p3, r1, r2, r3, r4, q1, q2, z0, hol, ha0, hb0]
end Go.Proofs.Ytlcnoldkekcifaa

/-
  What the arguments of the laws of cuts read as.
-/
namespace Go.Proofs.Ytlcnoldkekcifaa
open Go.Ab
set_option maxRecDepth 100000
theorem cells34 : Try.prog.cellsOf 34 = 6 := by kernel_rfl
theorem cells3 : Try.prog.cellsOf 3 = 1 := by kernel_rfl
variable {B : TypeId → Nat → Prop} {n : Nat} {vs : List V}
theorem fit_int (h : Fit Try.prog B (n + 1) 3 vs) : ∃ x, vs = [i64 x] := by
 simp only [Fit, Try.underlying3] at h
 exact h
theorem fit_sp (h : Fit Try.prog B (n + 2) 27 vs) : ∃ x : Sp, vs = cSp x := by
 simp only [Fit, FitF, Try.underlying27, Try.underlying3] at h
 obtain ⟨_, _, rfl, ⟨x, rfl⟩, _, _, rfl, ⟨y, rfl⟩, rfl⟩ := h
 exact ⟨⟨x, y⟩, rfl⟩
theorem fit_part (h : Fit Try.prog B (n + 3) 34 vs) : ∃ x : Part, vs = cPart x := by
 rw [Fit, Try.underlying34] at h
 simp only [FitF] at h
 obtain ⟨_, _, rfl, h0, _, _, rfl, h1, _, _, rfl, h2, _, _, rfl, h3, rfl⟩ := h
 obtain ⟨a, rfl⟩ := fit_int h0
 obtain ⟨x, rfl⟩ := fit_sp h1
 obtain ⟨y, rfl⟩ := fit_sp h2
 obtain ⟨z, rfl⟩ := fit_int h3
 exact ⟨⟨a, x, y, z⟩, rfl⟩
theorem es_all {α : Type} {f : α → List V} (l : List (List V)) (h : ∀ x ∈ l, ∃ y, x = f y) : ∃ l' : List α, l = es f l' := by
 obtain ⟨l', h1, _⟩ := es_of (Q := fun _ => True) l fun x hx => by obtain ⟨y, hy⟩ := h x hx; exact ⟨y, hy, trivial⟩
 exact ⟨l', h1⟩
theorem fit_ints (h : Fit Try.prog B (n + 2) 43 vs) : ∃ l : List Int, vs = [.sl .no 1 (es cInt l)] ∧ B 3 l.length := by
 rw [Fit, Try.underlying43] at h
 simp only at h
 obtain ⟨l, rfl, hb, h⟩ := h
 obtain ⟨l', rfl⟩ := es_all (f := cInt) l fun x hx => by obtain ⟨y, hy⟩ := fit_int (h x hx); exact ⟨y, hy⟩
 rw [cells3]
 exact ⟨l', rfl, by simpa using hb⟩
theorem fit_parts (h : Fit Try.prog B (n + 4) 22 vs) : ∃ l : List Part, vs = [.sl .no 6 (es cPart l)] ∧ B 34 l.length := by
 rw [Fit, Try.underlying22] at h
 simp only at h
 obtain ⟨l, rfl, hb, h⟩ := h
 obtain ⟨l', rfl⟩ := es_all (f := cPart) l fun x hx => fit_part (h x hx)
 rw [cells34]
 exact ⟨l', rfl, by simpa using hb⟩
theorem fit_sold (h : Fit Try.prog B (n + 3) 45 vs) : ∃ (a b : List Int), vs = [.sl .no 1 (es cInt a), .sl .no 1 (es cInt b)] ∧ B 3 a.length ∧ B 3 b.length := by
 rw [Fit, Try.underlying45] at h
 simp only [FitF] at h
 obtain ⟨_, _, rfl, h0, _, _, rfl, h1, rfl⟩ := h
 obtain ⟨a, rfl, ha⟩ := fit_ints h0
 obtain ⟨b, rfl, hb⟩ := fit_ints h1
 exact ⟨a, b, rfl, ha, hb⟩
def Reach (e : TypeId) (k : Nat) : Prop := k ≤ maxLen ∧ k * Try.prog.bytesOf e ≤ reachBytes
theorem bytes34 : Try.prog.bytesOf 34 = 48 := by kernel_rfl
theorem bytes3 : Try.prog.bytesOf 3 = 8 := by kernel_rfl
theorem reach_ints {k : Nat} (h : Reach 3 k) : k < 4611686018427387904 := by
 simp only [Reach, bytes3, reachBytes] at h; omega
theorem reach_parts {k : Nat} (h : Reach 34 k) : k < 4611686018427387904 := by
 simp only [Reach, bytes34, reachBytes] at h; omega
end Go.Proofs.Ytlcnoldkekcifaa
