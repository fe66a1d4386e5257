/-
  slices.Clone, slices.Compact.
-/
import Derived.Test.YtekgicoibcgecaaGreatEq4
set_option linter.unusedSimpArgs false
set_option linter.unusedVariables false
namespace Go.Proofs.YtekgicoibcgecaaGreat
open Go.Ab
theorem loop_next {live keep : List Nat} {b : AC} {e e1 : Env} {s s1 : Stk} {q} (h : Run T b (gcEnv live keep e s) (gcStk keep s) = some (.normal, e1, s1)) (h2 : Run T (.loop live keep b) e1 s1 = q) : Run T (.loop live keep b) e s = q := by
 rw [run_loop, h, ← h2]; rfl
theorem loop_stop {live keep : List Nat} {b : AC} {e e1 : Env} {s s1 : Stk} {ex : Ex} (h : Run T b (gcEnv live keep e s) (gcStk keep s) = some (ex, e1, s1)) (hx : ex ≠ .normal) : Run T (.loop live keep b) e s = some (ex, e1, s1) := by
 rw [run_loop, h]; cases ex <;> first | rfl | exact absurd rfl hx
theorem e_CloneI (l : List Int) (hne : l ≠ []) (hl : l.length < 17592186044416) (lab s) : den T 82 [.sl .no 1 (es cInt l)] lab s = some (.sl .no 1 (es cInt l), s) := by
 have h0 : es cInt l ≠ [] := by simpa using hne
 rw [den_fn t82 _ _ _ rfl]
 simp only [b82]
 simp (maxSteps := 1000000) (disch := first | omega | assumption | decide +kernel | (simp; done) | (simp; omega) | fail) [h0, appK_full, appD_full]
@[simp] theorem es_setI (l : List Int) (k : Nat) (x : Int) : (es cInt l).set k [i64 x] = es cInt (l.set k x) := by simp [es, List.map_set]
theorem set0 (m r : List Int) (p x : Int) : (m ++ p :: r).set 0 x = x :: ((m ++ [p]).tail ++ r) := by cases m <;> simp
def cpG (L : List Int) (k0 : Nat) (a : List Int × List Int) (j : Nat) : List Int × List Int :=
 if L.getD (k0 + j + 1) 0 = L.getD (k0 + j) 0 then (a.1, a.2 ++ [L.getD (k0 + j) 0]) else (a.1 ++ [L.getD (k0 + j + 1) 0], (a.2 ++ [L.getD (k0 + j) 0]).tail)
theorem compact_l1 (L : List Int) (N : Nat) (hN : L.length = N) (hN2 : N < 4611686018427387904) (k0 : Nat) (hk0 : k0 < N) (d l : Nat) (X : List Int → Stk) (hd : ∀ a, ¬ d = (X a).length)
 (hget : ∀ a, sget (X a) d l = some (.arr 1 (es cInt a))) (hput : ∀ a b, sput (X a) d l (.arr 1 (es cInt b)) = X b) :
 Run T b84l1 [(0, .asl d l 1 N 0 N), (3, i64 k0), (4, .asl d l 1 N k0 (N - k0)), (5, i64 1)] ([] :: X L) =
  some (.exit 2, [(0, .asl d l 1 N 0 N), (3, i64 (((List.range (N - k0 - 1)).foldl (cpG L k0) (L.take k0, [])).1.length : Nat)), (4, .asl d l 1 N k0 (N - k0)), (5, i64 ((N - k0 - 1 : Nat) + 1)), (32, .bool false)], [] :: X (((List.range (N - k0 - 1)).foldl (cpG L k0) (L.take k0, [])).1 ++ (((List.range (N - k0 - 1)).foldl (cpG L k0) (L.take k0, [])).2 ++ L.drop (k0 + (N - k0 - 1))))) := by
 have key := loop_fold (T := T) (live := [0, 3, 4, 5]) (keep := []) (b := d84l1) (List.range (N - k0 - 1)) (fun j (a : List Int × List Int) => a.1.length + a.2.length = k0 + j) (cpG L k0)
  (fun j a => [(0, .asl d l 1 N 0 N), (3, i64 (a.1.length : Nat)), (4, .asl d l 1 N k0 (N - k0)), (5, i64 ((j : Nat) + 1))]) (fun j a => [] :: X (a.1 ++ (a.2 ++ L.drop (k0 + j))))
  (fun a => (.exit 2, [(0, .asl d l 1 N 0 N), (3, i64 (a.1.length : Nat)), (4, .asl d l 1 N k0 (N - k0)), (5, i64 ((N - k0 - 1 : Nat) + 1)), (32, .bool false)], [] :: X (a.1 ++ (a.2 ++ L.drop (k0 + (N - k0 - 1))))))
  (by simp) ?_ ?_ ?_ (L.take k0, []) (by simp; omega) [(0, .asl d l 1 N 0 N), (3, i64 k0), (4, .asl d l 1 N k0 (N - k0)), (5, i64 1)] ([] :: X L) ?_ (by simp)
 ·exact key
 ·intro j a hj hi
  simp only [List.length_range] at hj
  simp only [List.getElem_range]
  have hj1 : k0 + j < L.length := by omega
  have hj2 : k0 + j + 1 < L.length := by omega
  have e1 : L.drop (k0 + j) = L[k0 + j] :: L[k0 + j + 1] :: L.drop (k0 + j + 2) := by rw [List.drop_eq_getElem_cons hj1, List.drop_eq_getElem_cons hj2]
  have e2 : L.drop (k0 + (j + 1)) = L[k0 + j + 1] :: L.drop (k0 + j + 2) := by rw [show k0 + (j + 1) = k0 + j + 1 by omega, List.drop_eq_getElem_cons hj2]
  have g1 : L.getD (k0 + j + 1) 0 = L[k0 + j + 1] := by simp [List.getD, hj2]
  have g2 : L.getD (k0 + j) 0 = L[k0 + j] := by simp [List.getD, hj1]
  rw [e2]
  simp only [cpG, g1, g2, e1]
  obtain ⟨pre, mid⟩ := a
  simp only at hi ⊢
  generalize hx : L[k0 + j + 1] = x
  generalize hp : L[k0 + j] = p
  have hr : (L.drop (k0 + j + 2)).length = N - (k0 + j + 2) := by simp [hN]
  generalize L.drop (k0 + j + 2) = r at hr
  obtain ⟨A, hA⟩ : ∃ A, A = pre ++ (mid ++ p :: x :: r) := ⟨_, rfl⟩
  have hAl : A.length = N := by rw [hA]; simp; omega
  have hAx : A[k0 + (j + 1)]? = some x := by
   rw [hA, ← List.append_assoc, List.getElem?_append_right (by simp; omega)]
   simp only [List.length_append]
   rw [show k0 + (j + 1) - (pre.length + mid.length) = 1 by omega]; rfl
  have hAp : A[k0 + j]? = some p := by
   rw [hA, ← List.append_assoc, List.getElem?_append_right (by simp; omega)]
   simp only [List.length_append]
   rw [show k0 + j - (pre.length + mid.length) = 0 by omega]; rfl
  have hlx : k0 + (j + 1) < A.length := by omega
  have hlp : k0 + j < A.length := by omega
  have hAx' : A[k0 + (j + 1)] = x := by rw [List.getElem?_eq_getElem hlx] at hAx; simpa using hAx
  have hAp' : A[k0 + j] = p := by rw [List.getElem?_eq_getElem hlp] at hAp; simpa using hAp
  have hset : A.set pre.length x = pre ++ (x :: ((mid ++ [p]).tail ++ x :: r)) := by
   rw [hA, List.set_append_right _ _ (by omega), Nat.sub_self, set0]
  have hpl : pre.length < N := by omega
  have n1 : ((j : Int) + 1).toNat = j + 1 := by omega
  have n3 : j + 1 < N - k0 := by omega
  have n4 : j < N - k0 := by omega
  have n5 : ((j : Int) + 1) < (N - k0 : Nat) := by omega
  have n6 : (0 : Int) ≤ (j : Int) + 1 := by omega
  have n8 : (j : Int) < (N - k0 : Nat) := by omega
  rw [← hA]
  by_cases c : x = p
  ·rw [if_pos c]
   simp (maxSteps := 1000000) (disch := first | omega | assumption | decide +kernel | (simp; done) | (simp; omega) | fail) [run_drawnK, hd, hget, hAl, hAx', hAp', n1, n3, n4, n5, n6, n8, c, wi]
   rw [hA, c]
  ·rw [if_neg c]
   simp (maxSteps := 1000000) (disch := first | omega | assumption | decide +kernel | (simp; done) | (simp; omega) | fail) [run_drawnK, hd, hget, hput, hset, hAl, hAx', hAp', hpl, n1, n3, n4, n5, n6, n8, c, wi]
 ·intro j a hj hi
  simp only [List.length_range] at hj
  simp only [List.getElem_range]
  unfold cpG
  split <;> simp <;> omega
 ·intro a hi
  simp only [List.length_range] at hi ⊢
  obtain ⟨A, hA⟩ : ∃ A, A = a.1 ++ (a.2 ++ L.drop (k0 + (N - k0 - 1))) := ⟨_, rfl⟩
  have hAl : A.length = N := by rw [hA]; simp; omega
  have n1 : ¬ ((N - k0 - 1 : Nat) : Int) + 1 < (N - k0 : Nat) := by omega
  rw [← hA]
  simp (maxSteps := 1000000) (disch := first | omega | assumption | decide +kernel | (simp; done) | (simp; omega) | fail) [hd, hget, hAl, n1]
 ·have : min k0 L.length = k0 := by omega
  simp [hd, this]
theorem cp_inv (L : List Int) (hs : L.Pairwise (· ≤ ·)) (k0 : Nat) (h1 : 1 ≤ k0) (hk : k0 < L.length) (he : L[k0] = L[k0 - 1]) (hp : (L.take k0).Pairwise (· < ·)) : ∀ j, (hj : k0 + j < L.length) →
 ((List.range j).foldl (cpG L k0) (L.take k0, [])).1.Pairwise (· < ·) ∧ (∀ y, y ∈ ((List.range j).foldl (cpG L k0) (L.take k0, [])).1 ↔ y ∈ L.take (k0 + j + 1)) ∧ (∀ y ∈ ((List.range j).foldl (cpG L k0) (L.take k0, [])).1, y ≤ L[k0 + j])
 | 0, hj => by
   refine ⟨hp, fun y => ?_, fun y hy => ?_⟩
   ·simp only [List.range_zero, List.foldl_nil, Nat.add_zero, List.take_succ_eq_append_getElem hk, List.mem_append, List.mem_singleton]
    refine ⟨Or.inl, fun h => h.elim id fun h => ?_⟩
    subst h
    rw [he]
    exact List.mem_take_iff_getElem.2 ⟨k0 - 1, by omega, rfl⟩
   ·simp only [List.range_zero, List.foldl_nil] at hy
    obtain ⟨i, hi, rfl⟩ := List.mem_take_iff_getElem.1 hy
    simp only [Nat.add_zero]
    exact List.pairwise_iff_getElem.1 hs i k0 (by omega) hk (by omega)
 | j + 1, hj => by
   obtain ⟨a1, a2, a3⟩ := cp_inv L hs k0 h1 hk he hp j (by omega)
   have hj' : k0 + j < L.length := by omega
   have hj2 : k0 + j + 1 < L.length := by omega
   have g1 : L.getD (k0 + j + 1) 0 = L[k0 + j + 1] := by simp [List.getD, hj2]
   have g2 : L.getD (k0 + j) 0 = L[k0 + j] := by simp [List.getD, hj']
   have hle : L[k0 + j] ≤ L[k0 + j + 1] := List.pairwise_iff_getElem.1 hs _ _ hj' hj2 (by omega)
   rw [List.range_succ, List.foldl_append]
   generalize (List.range j).foldl (cpG L k0) (L.take k0, []) = a at *
   simp only [List.foldl_cons, List.foldl_nil, cpG, g1, g2]
   have et : L.take (k0 + (j + 1) + 1) = L.take (k0 + j + 1) ++ [L[k0 + j + 1]] := by rw [show k0 + (j + 1) + 1 = (k0 + j + 1) + 1 by omega, List.take_succ_eq_append_getElem hj2]
   have ei : L[k0 + (j + 1)] = L[k0 + j + 1] := rfl
   rw [ei]
   by_cases c : L[k0 + j + 1] = L[k0 + j]
   ·rw [if_pos c]
    refine ⟨a1, fun y => ?_, fun y hy => by have := a3 y hy; omega⟩
    rw [et, List.mem_append, List.mem_singleton, a2]
    refine ⟨Or.inl, fun h => h.elim id fun h => ?_⟩
    subst h
    rw [c]
    exact List.mem_take_iff_getElem.2 ⟨k0 + j, by omega, rfl⟩
   ·rw [if_neg c]
    refine ⟨List.pairwise_append.2 ⟨a1, List.pairwise_singleton _ _, fun y hy z hz => ?_⟩, fun y => ?_, fun y hy => ?_⟩
    ·simp only [List.mem_singleton] at hz
     subst hz
     have := a3 y hy; omega
    ·rw [et, List.mem_append, List.mem_append, a2]
    ·rcases List.mem_append.1 hy with h | h
     ·have := a3 y h; omega
     ·simp only [List.mem_singleton] at h; omega
theorem e_Compact_l0 (L : List Int) (N : Nat) (hN : L.length = N) (hN2 : N < 4611686018427387904) (hs : L.Pairwise (· ≤ ·)) (d l : Nat) (X : List Int → Stk) (hd : ∀ a, ¬ d = (X a).length)
 (hget : ∀ a, sget (X a) d l = some (.arr 1 (es cInt a))) (hput : ∀ a b, sput (X a) d l (.arr 1 (es cInt b)) = X b) : ∀ (m k : Nat), k + m = N → 1 ≤ k → (L.take k).Pairwise (· < ·) →
 ∃ R A ex e, Run T b84l0 [(0, .asl d l 1 N 0 N), (3, i64 k)] ([] :: X L) = some (ex, e, [] :: X A) ∧ (ex = .ret ∧ e = [(2, .asl d l 1 N 0 R.length)] ∨ ex = .exit 0 ∧ e = [(0, .asl d l 1 N 0 N), (3, i64 N), (13, .bool false)] ∧ R.length = N) ∧
  A.length = N ∧ A.take R.length = R ∧ R.Pairwise (· < ·) ∧ ∀ y, y ∈ R ↔ y ∈ L
 | 0, k, hm, h1, hp => by
   have hk : k = N := by omega
   subst hk
   refine ⟨L, L, .exit 0, _, ?_, .inr ⟨rfl, rfl, hN⟩, hN, by simp, by rw [← hN, List.take_length] at hp; exact hp, fun y => Iff.rfl⟩
   refine loop_stop (ex := .exit 0) ?_ (by simp)
   simp (maxSteps := 1000000) (disch := first | omega | assumption | decide +kernel | (simp; done) | (simp; omega) | fail) [hd, hget, hN]
 | m + 1, k, hm, h1, hp => by
   have hk : k < L.length := by omega
   have hk1 : k - 1 < L.length := by omega
   have hkN : k < N := by omega
   have hkle : k ≤ N := by omega
   have n1 : ((k : Int) - 1).toNat = k - 1 := by omega
   have n2 : (0 : Int) ≤ (k : Int) - 1 := by omega
   have n3 : (1 : Int) ≤ (k : Int) := by omega
   have n4 : (k : Int) - 1 < N := by omega
   by_cases c : L[k] = L[k - 1]
   ·have key := compact_l1 L N hN hN2 k hkN d l X hd hget hput
    obtain ⟨i1, i2, i3⟩ := cp_inv L hs k h1 hk c hp (N - k - 1) (by omega)
    have hinv : ((List.range (N - k - 1)).foldl (cpG L k) (L.take k, [])).1.length + ((List.range (N - k - 1)).foldl (cpG L k) (L.take k, [])).2.length = k + (N - k - 1) := by
     have : ∀ j, ((List.range j).foldl (cpG L k) (L.take k, [])).1.length + ((List.range j).foldl (cpG L k) (L.take k, [])).2.length = k + j := by
      intro j
      induction j with
      | zero => simp; omega
      | succ j ih =>
        rw [List.range_succ, List.foldl_append]
        simp only [List.foldl_cons, List.foldl_nil]
        generalize (List.range j).foldl (cpG L k) (L.take k, []) = a at ih
        unfold cpG
        split <;> simp <;> omega
     exact this _
    rw [show k + (N - k - 1) + 1 = N by omega, ← hN, List.take_length, hN] at i2
    generalize (List.range (N - k - 1)).foldl (cpG L k) (L.take k, []) = q at *
    obtain ⟨R, mid⟩ := q
    simp only at key i1 i2 hinv
    have hRl : R.length < N := by omega
    have hRl2 : R.length ≤ N := by omega
    have hRl3 : ¬ N - R.length = 0 := by omega
    have hR0 : 0 < R.length := by
     refine List.length_pos_iff.2 fun h => ?_
     have := (i2 L[k]).2 (List.getElem_mem hk)
     rw [h] at this; simp at this
    obtain ⟨B, hB⟩ : ∃ B, B = R ++ (mid ++ L.drop (k + (N - k - 1))) := ⟨_, rfl⟩
    have hBl : B.length = N := by rw [hB]; simp; omega
    have hBt : B.take R.length = R := by rw [hB]; simp
    rw [← hB] at key
    have hent : es cInt (List.take R.length B) ++ (List.replicate (N - R.length) [i64 0] ++ es cInt (List.drop N B)) = es cInt (B.take R.length ++ List.replicate (N - R.length) 0) := by
     rw [List.drop_eq_nil_of_le (by omega)]
     simp [es]
    have hel : (B.take R.length ++ List.replicate (N - R.length) 0).length = N := by simp; omega
    refine ⟨R, B.take R.length ++ List.replicate (N - R.length) 0, .ret, _, ?_, .inl ⟨rfl, rfl⟩, by simp; omega, by rw [hBt]; simp, i1, i2⟩
    refine loop_stop (ex := .ret) ?_ (by simp)
    simp (maxSteps := 1000000) (disch := first | omega | assumption | decide +kernel | (simp; done) | (simp; omega) | fail) [run_drawnK, hd, hget, hput, hN, hk, hk1, hkN, hkle, n1, n2, n3, n4, c, wi, key, hBl, hRl, hRl2, hRl3, hR0, hent, hel]
   ·have hlt : L[k - 1] < L[k] := by
     have := List.pairwise_iff_getElem.1 hs (k - 1) k hk1 hk (by omega)
     omega
    have hp2 : (L.take (k + 1)).Pairwise (· < ·) := by
     rw [List.take_succ_eq_append_getElem hk]
     refine List.pairwise_append.2 ⟨hp, List.pairwise_singleton _ _, fun y hy z hz => ?_⟩
     simp only [List.mem_singleton] at hz
     subst hz
     obtain ⟨i, hi, rfl⟩ := List.mem_take_iff_getElem.1 hy
     rcases Nat.lt_or_ge i (k - 1) with h | h
     ·have := List.pairwise_iff_getElem.1 hs i (k - 1) (by omega) hk1 h
      omega
     ·have : i = k - 1 := by omega
      subst this; exact hlt
    obtain ⟨R, A, ex, e, q1, q2⟩ := e_Compact_l0 L N hN hN2 hs d l X hd hget hput m (k + 1) (by omega) (by omega) hp2
    refine ⟨R, A, ex, e, loop_next (e1 := [(0, .asl d l 1 N 0 N), (3, i64 (k + 1 : Nat))]) (s1 := [] :: X L) ?_ q1, q2⟩
    simp (maxSteps := 1000000) (disch := first | omega | assumption | decide +kernel | (simp; done) | (simp; omega) | fail) [run_drawnK, hd, hget, hN, hk, hk1, hkN, hkle, n1, n2, n3, n4, c, wi, wk k (by omega)]
theorem e_Compact (L : List Int) (N : Nat) (hN : L.length = N) (hN2 : N < 4611686018427387904) (h0 : L ≠ []) (hs : L.Pairwise (· ≤ ·)) (d l : Nat) (X : List Int → Stk) (hd : ∀ a, ¬ d = (X a).length)
 (hget : ∀ a, sget (X a) d l = some (.arr 1 (es cInt a))) (hput : ∀ a b, sput (X a) d l (.arr 1 (es cInt b)) = X b) (lab) :
 ∃ R A, den T 84 [.asl d l 1 N 0 N] lab (X L) = some (.asl d l 1 N 0 R.length, X A) ∧ A.length = N ∧ A.take R.length = R ∧ R.Pairwise (· < ·) ∧ ∀ y, y ∈ R ↔ y ∈ L := by
 by_cases c : N < 2
 ·refine ⟨L, L, ?_, hN, by simp, ?_, fun y => Iff.rfl⟩
  ·have c2 : (N : Int) < 2 := by omega
   rw [den_fn t84 _ _ _ rfl]
   simp only [b84]
   simp (maxSteps := 1000000) (disch := first | omega | assumption | decide +kernel | (simp; done) | (simp; omega) | fail) [hd, hget, c, c2, hN]
  ·match L, h0 with
   | [x], _ => exact List.pairwise_singleton _ _
   | x :: y :: r, _ => simp at hN; omega
 ·have c2 : ¬ (N : Int) < 2 := by omega
  obtain ⟨R, A, ex, e, q1, q2, q3⟩ := e_Compact_l0 L N hN hN2 hs d l X hd hget hput (N - 1) 1 (by omega) (by omega) (by
   match L, h0 with
   | x :: r, _ => exact List.pairwise_singleton _ _)
  refine ⟨R, A, ?_, q3⟩
  change Run T _ [_, (3, i64 1)] _ = _ at q1
  rw [den_fn t84 _ _ _ rfl]
  simp only [b84]
  rcases q2 with ⟨rfl, rfl⟩ | ⟨rfl, rfl, q4⟩
  ·simp (maxSteps := 1000000) (disch := first | omega | assumption | decide +kernel | (simp; done) | (simp; omega) | fail) [hd, hget, c, c2, hN, q1]
  ·simp (maxSteps := 1000000) (disch := first | omega | assumption | decide +kernel | (simp; done) | (simp; omega) | fail) [hd, hget, c, c2, hN, q1, q4]
end Go.Proofs.YtekgicoibcgecaaGreat

/-
  Chapter 13: Skies of both.
-/
namespace Go.Proofs.YtekgicoibcgecaaGreat
open Go.Ab
theorem strict_eq : ∀ (a b : List Int), a.Pairwise (· < ·) → b.Pairwise (· < ·) → (∀ y, y ∈ a ↔ y ∈ b) → a = b
 | [], [], _, _, _ => rfl
 | [], y :: b, _, _, h => by have := (h y).2 (by simp); simp at this
 | x :: a, [], _, _, h => by have := (h x).1 (by simp); simp at this
 | x :: a, y :: b, ha, hb, h => by
   obtain ⟨ha1, ha2⟩ := List.pairwise_cons.1 ha
   obtain ⟨hb1, hb2⟩ := List.pairwise_cons.1 hb
   have e : x = y := by
    rcases List.mem_cons.1 ((h x).1 (by simp)) with h1 | h1
    ·exact h1
    ·rcases List.mem_cons.1 ((h y).2 (by simp)) with h2 | h2
     ·exact h2.symm
     ·have := hb1 x h1; have := ha1 y h2; omega
   subst e
   congr 1
   refine strict_eq a b ha2 hb2 fun z => ⟨fun hz => ?_, fun hz => ?_⟩
   ·rcases List.mem_cons.1 ((h z).1 (by simp [hz])) with h1 | h1
    ·have := ha1 z hz; omega
    ·exact h1
   ·rcases List.mem_cons.1 ((h z).2 (by simp [hz])) with h1 | h1
    ·have := hb1 z hz; omega
    ·exact h1
def nextP (n : Season) (l : List Int) (k : Nat) : Bool := anyB (fun (x : Int) => inB (n.follows.getD x.toNat []) (k : Int)) l
def nextSet (n : Season) (l : List Int) : List Int := ((List.range n.skies.length).filter (nextP n l)).map fun (k : Nat) => (k : Int)
def skiesL (n : Season) (d : Nat) : List Int := (List.range d).foldl (fun l _ => nextSet n l) n.first
def SkyL (n : Season) (l : List Int) : Prop := l ≠ [] ∧ l.length ≤ 4 ∧ ∀ x : Int, x ∈ l → 0 ≤ x ∧ x < (n.skies.length : Int)
theorem nextSet_strict (n : Season) (l : List Int) : (nextSet n l).Pairwise (· < ·) := by
 refine List.pairwise_map.2 ?_
 refine List.Pairwise.imp (R := fun a b : Nat => a < b) (fun h => by omega) ?_
 exact List.Pairwise.filter _ List.pairwise_lt_range
theorem mem_nextSet {n : Season} (hok : seasonOk n = true) {l : List Int} (hl : SkyL n l) (y : Int) : y ∈ nextSet n l ↔ y ∈ l.flatMap fun (x : Int) => n.follows.getD x.toNat [] := by
 simp only [nextSet, List.mem_map, List.mem_filter, List.mem_range, List.mem_flatMap, nextP, anyB_iff, inB_iff]
 constructor
 ·rintro ⟨k, ⟨hk, x, h1, h2⟩, rfl⟩
  exact ⟨x, h1, h2⟩
 ·rintro ⟨x, h1, h2⟩
  obtain ⟨x0, x1⟩ := hl.2.2 x h1
  obtain ⟨hk2, _, hf⟩ := follows_ok hok (k := x.toNat) (by omega)
  have hfo : n.follows.getD x.toNat [] = n.follows[x.toNat] := by simp [List.getD, hk2]
  rw [hfo] at h2
  obtain ⟨y0, y1⟩ := hf y h2
  refine ⟨y.toNat, ⟨by omega, x, h1, ?_⟩, by omega⟩
  rw [hfo, show ((y.toNat : Nat) : Int) = y by omega]
  exact h2
theorem nextSet_ok {n : Season} (hok : seasonOk n = true) {l : List Int} (hl : SkyL n l) : SkyL n (nextSet n l) := by
 refine ⟨fun h => ?_, ?_, fun x hx => ?_⟩
 ·obtain ⟨x, r, rfl⟩ : ∃ x r, l = x :: r := by cases l with
   | nil => exact absurd rfl hl.1
   | cons x r => exact ⟨x, r, rfl⟩
  obtain ⟨x0, x1⟩ := hl.2.2 x (by simp)
  obtain ⟨hk2, hne, _⟩ := follows_ok hok (k := x.toNat) (by omega)
  have hfo : n.follows.getD x.toNat [] = n.follows[x.toNat] := by simp [List.getD, hk2]
  obtain ⟨y, r', hy⟩ : ∃ y r', n.follows[x.toNat] = y :: r' := by cases h2 : n.follows[x.toNat] with
   | nil => exact absurd h2 hne
   | cons y r' => exact ⟨y, r', rfl⟩
  have := (mem_nextSet hok hl y).2 (List.mem_flatMap.2 ⟨x, by simp, by rw [hfo, hy]; simp⟩)
  rw [h] at this; simp at this
 ·have h4 := (seasonOk_iff.1 hok).2.2.2.1
  rw [nextSet, List.length_map]
  exact Nat.le_trans (List.length_filter_le _ _) (by simpa using h4)
 ·simp only [nextSet, List.mem_map, List.mem_filter, List.mem_range] at hx
  obtain ⟨k, ⟨h1, _⟩, rfl⟩ := hx
  omega
theorem first_sky {n : Season} (hok : seasonOk n = true) : SkyL n n.first := ⟨(first_ok hok).1, first_len hok, (first_ok hok).2⟩
theorem skiesL_ok {n : Season} (hok : seasonOk n = true) : ∀ d, SkyL n (skiesL n d)
 | 0 => first_sky hok
 | d + 1 => by
   have := skiesL_ok hok d
   rw [skiesL, List.range_succ, List.foldl_append]
   exact nextSet_ok hok this
theorem intsOf_es (l : List Int) : intsOf (es cInt l) = some l := intsOf_map l
theorem es_cell (l : List Int) : l.map cellInt = es cInt l := rfl
theorem e_Sort (F : List Int) (h0 : F ≠ []) (hl : F.length < 4611686018427387904) (d l : Nat) (s : Stk) (h : sget s d l = some (.arr 1 (es cInt F))) (lab) :
 den T 83 [.asl d l 1 F.length 0 F.length] lab s = some (.tup [], sput s d l (.arr 1 (es cInt (sortedI F)))) := by
 rw [den_prim t83]
 have h1 : es cInt F ≠ [] := by simpa using h0
 simp [sortP, h, h1, hl, intsOf_es, es_cell]
theorem sortedI_sorted (F : List Int) : (sortedI F).Pairwise (· ≤ ·) := by
 have := List.pairwise_mergeSort (le := fun (x y : Int) => decide (x ≤ y)) (fun a b c h1 h2 => by simp at *; omega) (fun a b => by simp; omega) F
 exact this.imp (fun h => by simpa using h)
@[simp] theorem seasonCell_frz (d k z e) (n : Season) : V.mapAll (frzR d k z e) (seasonCell n) = seasonCell n := by simp [seasonCell]
theorem e_Skies_l1 (n0 : Int) (n1 : Int) (n2 : Int) (n3 : Int) (n4 : List Sp) (n5 : List Anc) (n6 : List Wal) (n7 : Int) (n8 : Int) (n9 : List Sp) (n10 : List Boat) (n11 : List Sky) (n12 : List (List Int)) (n13 : List Int) (n14 : List Sp) (hok : seasonOk (⟨⟨⟨n0, n1⟩, ⟨n2, n3⟩, n4, n5, n6⟩, ⟨⟨n7, n8⟩, n9, n10⟩, n11, n12, n13, n14⟩ : Season) = true) (day i : Int) (sky : List Int) (hsky : SkyL (⟨⟨⟨n0, n1⟩, ⟨n2, n3⟩, n4, n5, n6⟩, ⟨⟨n7, n8⟩, n9, n10⟩, n11, n12, n13, n14⟩ : Season) sky) (s : Stk) :
 Run T b31l1 [(9, .asl s.length 145 1 0 0 0), (2, .ptr s.length 32 0), (9, .sl .full 1 []), (26, i64 day), (27, i64 i), (29, .sl .no 1 (es cInt sky)), (30, i64 sky.length), (31, i64 0)] ([(32, .cell [i64 n0, i64 n1, i64 n2, i64 n3, .sl .no 2 (es cSp n4), .sl .no 2 (es cAnc n5), .sl .no 5 (es cWal n6), i64 n7, i64 n8, .sl .no 2 (es cSp n9), .sl .no 2 (es cBoat n10), .sl .no 4 (es cSky n11), .sl .no 1 (es cInts n12), .sl .no 1 (es cInt n13), .sl .no 2 (es cSp n14)]), (272, .cell (seasonCell (⟨⟨⟨n0, n1⟩, ⟨n2, n3⟩, n4, n5, n6⟩, ⟨⟨n7, n8⟩, n9, n10⟩, n11, n12, n13, n14⟩ : Season))), (145, .arr 1 [])] :: s) = some (.exit 2, [(2, .ptr s.length 32 0), (9, .asl s.length 145 1 (((sky).foldl (fun (A : List Int) (x : Int) => A ++ n12.getD x.toNat []) [])).length 0 (((sky).foldl (fun (A : List Int) (x : Int) => A ++ n12.getD x.toNat []) [])).length), (26, i64 day), (27, i64 i), (29, .sl .no 1 (es cInt sky)), (30, i64 sky.length), (31, i64 sky.length), (32, .bool false)], [(32, .cell [i64 n0, i64 n1, i64 n2, i64 n3, .sl .no 2 (es cSp n4), .sl .no 2 (es cAnc n5), .sl .no 5 (es cWal n6), i64 n7, i64 n8, .sl .no 2 (es cSp n9), .sl .no 2 (es cBoat n10), .sl .no 4 (es cSky n11), .sl .no 1 (es cInts n12), .sl .no 1 (es cInt n13), .sl .no 2 (es cSp n14)]), (272, .cell (seasonCell (⟨⟨⟨n0, n1⟩, ⟨n2, n3⟩, n4, n5, n6⟩, ⟨⟨n7, n8⟩, n9, n10⟩, n11, n12, n13, n14⟩ : Season))), (145, .arr 1 (es cInt (((sky).foldl (fun (A : List Int) (x : Int) => A ++ n12.getD x.toNat []) []))))] :: s) := by
 have key := loop_fold (T := T) (live := [2, 9, 26, 27, 29, 30, 31]) (keep := [32, 145, 256, 272, 400, 704, 736]) (b := d31l1) (sky) (fun k (A : List Int) => A.length ≤ 4 * k) (fun (A : List Int) (x : Int) => A ++ n12.getD x.toNat []) (fun k (a : List Int) => [(2, .ptr s.length 32 0), (9, .asl s.length 145 1 (a).length 0 (a).length), (26, i64 day), (27, i64 i), (29, .sl .no 1 (es cInt sky)), (30, i64 sky.length), (31, i64 k)]) (fun k (a : List Int) => [(32, .cell [i64 n0, i64 n1, i64 n2, i64 n3, .sl .no 2 (es cSp n4), .sl .no 2 (es cAnc n5), .sl .no 5 (es cWal n6), i64 n7, i64 n8, .sl .no 2 (es cSp n9), .sl .no 2 (es cBoat n10), .sl .no 4 (es cSky n11), .sl .no 1 (es cInts n12), .sl .no 1 (es cInt n13), .sl .no 2 (es cSp n14)]), (272, .cell (seasonCell (⟨⟨⟨n0, n1⟩, ⟨n2, n3⟩, n4, n5, n6⟩, ⟨⟨n7, n8⟩, n9, n10⟩, n11, n12, n13, n14⟩ : Season))), (145, .arr 1 (es cInt (a)))] :: s) (fun (a : List Int) => (.exit 2, [(2, .ptr s.length 32 0), (9, .asl s.length 145 1 (a).length 0 (a).length), (26, i64 day), (27, i64 i), (29, .sl .no 1 (es cInt sky)), (30, i64 sky.length), (31, i64 sky.length), (32, .bool false)], [(32, .cell [i64 n0, i64 n1, i64 n2, i64 n3, .sl .no 2 (es cSp n4), .sl .no 2 (es cAnc n5), .sl .no 5 (es cWal n6), i64 n7, i64 n8, .sl .no 2 (es cSp n9), .sl .no 2 (es cBoat n10), .sl .no 4 (es cSky n11), .sl .no 1 (es cInts n12), .sl .no 1 (es cInt n13), .sl .no 2 (es cSp n14)]), (272, .cell (seasonCell (⟨⟨⟨n0, n1⟩, ⟨n2, n3⟩, n4, n5, n6⟩, ⟨⟨n7, n8⟩, n9, n10⟩, n11, n12, n13, n14⟩ : Season))), (145, .arr 1 (es cInt (a)))] :: s)) (by simp) ?_ ?_ ?_ [] (by simp) [(9, .asl s.length 145 1 0 0 0), (2, .ptr s.length 32 0), (9, .sl .full 1 []), (26, i64 day), (27, i64 i), (29, .sl .no 1 (es cInt sky)), (30, i64 sky.length), (31, i64 0)] ([(32, .cell [i64 n0, i64 n1, i64 n2, i64 n3, .sl .no 2 (es cSp n4), .sl .no 2 (es cAnc n5), .sl .no 5 (es cWal n6), i64 n7, i64 n8, .sl .no 2 (es cSp n9), .sl .no 2 (es cBoat n10), .sl .no 4 (es cSky n11), .sl .no 1 (es cInts n12), .sl .no 1 (es cInt n13), .sl .no 2 (es cSp n14)]), (272, .cell (seasonCell (⟨⟨⟨n0, n1⟩, ⟨n2, n3⟩, n4, n5, n6⟩, ⟨⟨n7, n8⟩, n9, n10⟩, n11, n12, n13, n14⟩ : Season))), (145, .arr 1 [])] :: s) (by simp) (by simp)
 ·exact key
 ·intro k a hk hi
  obtain ⟨hs1, hs2, hs3⟩ := hsky
  obtain ⟨x0, x1⟩ := hs3 sky[k] (List.getElem_mem hk)
  simp only at x1
  obtain ⟨hk2, hne, hf⟩ := follows_ok hok (k := sky[k].toNat) (by simp only; omega)
  have hfl := follows_len hok (k := sky[k].toNat) (by simp only; omega) hk2
  simp only at hk2 hne hf hfl
  have hfo : n12.getD sky[k].toNat [] = n12[sky[k].toNat] := by simp [List.getD, hk2]
  rw [hfo]
  have hb1 : (a.length + n12[sky[k].toNat].length) * 8 ≤ 140737488355328 := by omega
  have hb2 : a.length + n12[sky[k].toNat].length < 140737488355328 := by omega
  simp (maxSteps := 1000000) (disch := first | omega | assumption | decide +kernel | (simp; done) | (simp; omega) | fail) [run_drawnK, hk, x0, hk2, appA_many, hb1, hb2, hne, wk k (by omega)]
 ·intro k a hk hi
  obtain ⟨hs1, hs2, hs3⟩ := hsky
  obtain ⟨x0, x1⟩ := hs3 sky[k] (List.getElem_mem hk)
  simp only at x1
  obtain ⟨hk2, hne, hf⟩ := follows_ok hok (k := sky[k].toNat) (by simp only; omega)
  have hfl := follows_len hok (k := sky[k].toNat) (by simp only; omega) hk2
  simp only at hk2 hfl
  have hfo : n12.getD sky[k].toNat [] = n12[sky[k].toNat] := by simp [List.getD, hk2]
  rw [hfo, List.length_append]
  omega
 ·intro a hi
  simp
theorem fold_flat (f : Int → List Int) : ∀ (l a : List Int), l.foldl (fun A x => A ++ f x) a = a ++ l.flatMap f
 | [], a => by simp
 | x :: l, a => by rw [List.foldl_cons, fold_flat f l]; simp
theorem es_takeI (l : List Int) (k : Nat) : (es cInt l).take k = es cInt (l.take k) := by simp [es]
set_option maxHeartbeats 1000000 in
theorem e_Skies_l0 (n0 : Int) (n1 : Int) (n2 : Int) (n3 : Int) (n4 : List Sp) (n5 : List Anc) (n6 : List Wal) (n7 : Int) (n8 : Int) (n9 : List Sp) (n10 : List Boat) (n11 : List Sky) (n12 : List (List Int)) (n13 : List Int) (n14 : List Sp) (hok : seasonOk (⟨⟨⟨n0, n1⟩, ⟨n2, n3⟩, n4, n5, n6⟩, ⟨⟨n7, n8⟩, n9, n10⟩, n11, n12, n13, n14⟩ : Season) = true) (day : Nat) (hd : day ≤ 1000) (s : Stk) :
 Run T b31l0 [(2, .ptr s.length 32 0), (8, .sl .no 1 (es cInt n13)), (26, i64 day), (27, i64 0)] ([(32, .cell [i64 n0, i64 n1, i64 n2, i64 n3, .sl .no 2 (es cSp n4), .sl .no 2 (es cAnc n5), .sl .no 5 (es cWal n6), i64 n7, i64 n8, .sl .no 2 (es cSp n9), .sl .no 2 (es cBoat n10), .sl .no 4 (es cSky n11), .sl .no 1 (es cInts n12), .sl .no 1 (es cInt n13), .sl .no 2 (es cSp n14)]), (272, .cell (seasonCell (⟨⟨⟨n0, n1⟩, ⟨n2, n3⟩, n4, n5, n6⟩, ⟨⟨n7, n8⟩, n9, n10⟩, n11, n12, n13, n14⟩ : Season)))] :: s) = some (.exit 0, [(2, .ptr s.length 32 0), (8, .sl .no 1 (es cInt (((List.range day).foldl (fun (l : List Int) (_ : Nat) => nextSet (⟨⟨⟨n0, n1⟩, ⟨n2, n3⟩, n4, n5, n6⟩, ⟨⟨n7, n8⟩, n9, n10⟩, n11, n12, n13, n14⟩ : Season) l) n13)))), (26, i64 day), (27, i64 day), (28, .bool false)], [(32, .cell [i64 n0, i64 n1, i64 n2, i64 n3, .sl .no 2 (es cSp n4), .sl .no 2 (es cAnc n5), .sl .no 5 (es cWal n6), i64 n7, i64 n8, .sl .no 2 (es cSp n9), .sl .no 2 (es cBoat n10), .sl .no 4 (es cSky n11), .sl .no 1 (es cInts n12), .sl .no 1 (es cInt n13), .sl .no 2 (es cSp n14)]), (272, .cell (seasonCell (⟨⟨⟨n0, n1⟩, ⟨n2, n3⟩, n4, n5, n6⟩, ⟨⟨n7, n8⟩, n9, n10⟩, n11, n12, n13, n14⟩ : Season)))] :: s) := by
 have key := loop_fold (T := T) (live := [2, 8, 26, 27]) (keep := [32, 256, 272, 400]) (b := d31l0) (List.range day) (fun k (l : List Int) => SkyL (⟨⟨⟨n0, n1⟩, ⟨n2, n3⟩, n4, n5, n6⟩, ⟨⟨n7, n8⟩, n9, n10⟩, n11, n12, n13, n14⟩ : Season) l) (fun (l : List Int) (_ : Nat) => nextSet (⟨⟨⟨n0, n1⟩, ⟨n2, n3⟩, n4, n5, n6⟩, ⟨⟨n7, n8⟩, n9, n10⟩, n11, n12, n13, n14⟩ : Season) l) (fun k (a : List Int) => [(2, .ptr s.length 32 0), (8, .sl .no 1 (es cInt (a))), (26, i64 day), (27, i64 k)]) (fun k (a : List Int) => [(32, .cell [i64 n0, i64 n1, i64 n2, i64 n3, .sl .no 2 (es cSp n4), .sl .no 2 (es cAnc n5), .sl .no 5 (es cWal n6), i64 n7, i64 n8, .sl .no 2 (es cSp n9), .sl .no 2 (es cBoat n10), .sl .no 4 (es cSky n11), .sl .no 1 (es cInts n12), .sl .no 1 (es cInt n13), .sl .no 2 (es cSp n14)]), (272, .cell (seasonCell (⟨⟨⟨n0, n1⟩, ⟨n2, n3⟩, n4, n5, n6⟩, ⟨⟨n7, n8⟩, n9, n10⟩, n11, n12, n13, n14⟩ : Season)))] :: s) (fun (a : List Int) => (.exit 0, [(2, .ptr s.length 32 0), (8, .sl .no 1 (es cInt (a))), (26, i64 day), (27, i64 day), (28, .bool false)], [(32, .cell [i64 n0, i64 n1, i64 n2, i64 n3, .sl .no 2 (es cSp n4), .sl .no 2 (es cAnc n5), .sl .no 5 (es cWal n6), i64 n7, i64 n8, .sl .no 2 (es cSp n9), .sl .no 2 (es cBoat n10), .sl .no 4 (es cSky n11), .sl .no 1 (es cInts n12), .sl .no 1 (es cInt n13), .sl .no 2 (es cSp n14)]), (272, .cell (seasonCell (⟨⟨⟨n0, n1⟩, ⟨n2, n3⟩, n4, n5, n6⟩, ⟨⟨n7, n8⟩, n9, n10⟩, n11, n12, n13, n14⟩ : Season)))] :: s)) (by simp) ?_ ?_ ?_ n13 (first_sky hok) [(2, .ptr s.length 32 0), (8, .sl .no 1 (es cInt n13)), (26, i64 day), (27, i64 0)] ([(32, .cell [i64 n0, i64 n1, i64 n2, i64 n3, .sl .no 2 (es cSp n4), .sl .no 2 (es cAnc n5), .sl .no 5 (es cWal n6), i64 n7, i64 n8, .sl .no 2 (es cSp n9), .sl .no 2 (es cBoat n10), .sl .no 4 (es cSky n11), .sl .no 1 (es cInts n12), .sl .no 1 (es cInt n13), .sl .no 2 (es cSp n14)]), (272, .cell (seasonCell (⟨⟨⟨n0, n1⟩, ⟨n2, n3⟩, n4, n5, n6⟩, ⟨⟨n7, n8⟩, n9, n10⟩, n11, n12, n13, n14⟩ : Season)))] :: s) (by simp) (by simp)
 ·exact key
 ·intro k a hk hi
  try simp only [List.length_range] at hk
  try simp only [List.getElem_range]
  have key := e_Skies_l1 n0 n1 n2 n3 n4 n5 n6 n7 n8 n9 n10 n11 n12 n13 n14 hok day k a hi s
  rw [fold_flat, List.nil_append] at key
  have hmem := mem_nextSet hok hi
  simp only at hmem
  have hFne : (a.flatMap fun (x : Int) => n12.getD x.toNat []) ≠ [] := by
   intro h
   have := nextSet_ok hok hi
   obtain ⟨y, r, hy⟩ : ∃ y r, nextSet (⟨⟨⟨n0, n1⟩, ⟨n2, n3⟩, n4, n5, n6⟩, ⟨⟨n7, n8⟩, n9, n10⟩, n11, n12, n13, n14⟩ : Season) a = y :: r := by cases h2 : nextSet (⟨⟨⟨n0, n1⟩, ⟨n2, n3⟩, n4, n5, n6⟩, ⟨⟨n7, n8⟩, n9, n10⟩, n11, n12, n13, n14⟩ : Season) a with
    | nil => exact absurd h2 this.1
    | cons y r => exact ⟨y, r, rfl⟩
   have := (hmem y).1 (by rw [hy]; simp)
   rw [h] at this; simp at this
  have hFl : (a.flatMap fun (x : Int) => n12.getD x.toNat []).length ≤ 4 * a.length := by
   rw [Nat.mul_comm]
   refine flat_le _ 4 a fun x hx => ?_
   obtain ⟨x0, x1⟩ := hi.2.2 x hx
   simp only at x1
   obtain ⟨hk2, _, _⟩ := follows_ok hok (k := x.toNat) (by simp only; omega)
   have hfl := follows_len hok (k := x.toNat) (by simp only; omega) hk2
   simp only at hk2 hfl
   have hfo : n12.getD x.toNat [] = n12[x.toNat] := by simp [List.getD, hk2]
   rw [hfo]; exact hfl
  have ha4 := hi.2.1
  generalize (a.flatMap fun (x : Int) => n12.getD x.toNat []) = F at *
  have hsl : (sortedI F).length = F.length := List.length_mergeSort _
  have hS := fun lab => e_Sort F hFne (by omega) s.length 145 ([(32, .cell [i64 n0, i64 n1, i64 n2, i64 n3, .sl .no 2 (es cSp n4), .sl .no 2 (es cAnc n5), .sl .no 5 (es cWal n6), i64 n7, i64 n8, .sl .no 2 (es cSp n9), .sl .no 2 (es cBoat n10), .sl .no 4 (es cSky n11), .sl .no 1 (es cInts n12), .sl .no 1 (es cInt n13), .sl .no 2 (es cSp n14)]), (272, .cell (seasonCell (⟨⟨⟨n0, n1⟩, ⟨n2, n3⟩, n4, n5, n6⟩, ⟨⟨n7, n8⟩, n9, n10⟩, n11, n12, n13, n14⟩ : Season))), (145, .arr 1 (es cInt F))] :: s) (by simp) lab
  obtain ⟨R, A, hC, hA1, hA2, hA3, hA4⟩ := e_Compact (sortedI F) F.length hsl (by omega) (by intro h; rw [h] at hsl; exact hFne (List.length_eq_zero_iff.1 hsl.symm)) (sortedI_sorted F) s.length 145 (fun a => [(32, .cell [i64 n0, i64 n1, i64 n2, i64 n3, .sl .no 2 (es cSp n4), .sl .no 2 (es cAnc n5), .sl .no 5 (es cWal n6), i64 n7, i64 n8, .sl .no 2 (es cSp n9), .sl .no 2 (es cBoat n10), .sl .no 4 (es cSky n11), .sl .no 1 (es cInts n12), .sl .no 1 (es cInt n13), .sl .no 2 (es cSp n14)]), (272, .cell (seasonCell (⟨⟨⟨n0, n1⟩, ⟨n2, n3⟩, n4, n5, n6⟩, ⟨⟨n7, n8⟩, n9, n10⟩, n11, n12, n13, n14⟩ : Season))), (145, .arr 1 (es cInt a))] :: s) (by simp) (by simp) (by simp) 736
  have hRe : R = nextSet (⟨⟨⟨n0, n1⟩, ⟨n2, n3⟩, n4, n5, n6⟩, ⟨⟨n7, n8⟩, n9, n10⟩, n11, n12, n13, n14⟩ : Season) a := strict_eq _ _ hA3 (nextSet_strict _ _) fun y => by
   rw [hA4, hmem, sortedI, List.mem_mergeSort]
  rw [hRe] at hC hA2
  have hk1 : (k : Int) < day := by omega
  have hRle : (nextSet (⟨⟨⟨n0, n1⟩, ⟨n2, n3⟩, n4, n5, n6⟩, ⟨⟨n7, n8⟩, n9, n10⟩, n11, n12, n13, n14⟩ : Season) a).length ≤ F.length := by
   have := congrArg List.length hA2
   rw [List.length_take, hA1] at this
   omega
  by_cases hq : (nextSet (⟨⟨⟨n0, n1⟩, ⟨n2, n3⟩, n4, n5, n6⟩, ⟨⟨n7, n8⟩, n9, n10⟩, n11, n12, n13, n14⟩ : Season) a).length = F.length
  ·rw [hq] at hC hA2 hRle
   simp (maxSteps := 1000000) (disch := first | omega | assumption | decide +kernel | (simp; done) | (simp; omega) | fail) [run_drawnK, hk, hk1, key, hS, hC, hA1, hA2, hq, es_takeI, wk k (by omega)]
  ·simp (maxSteps := 1000000) (disch := first | omega | assumption | decide +kernel | (simp; done) | (simp; omega) | fail) [run_drawnK, hk, hk1, key, hS, hC, hA1, hA2, hRle, hq, es_takeI, wk k (by omega)]
 ·intro k a hk hi
  try simp only [List.length_range] at hk
  try simp only [List.getElem_range]
  exact nextSet_ok hok hi
 ·intro a hi
  simp
def skiesR (n : Season) (day : Int) : List Int × Int := if seasonOk n = true then (if isDayS n day = true then (skiesL n day.toNat, 0) else ([], 1)) else ([], 130)
theorem e_Skies (n0 : Int) (n1 : Int) (n2 : Int) (n3 : Int) (n4 : List Sp) (n5 : List Anc) (n6 : List Wal) (n7 : Int) (n8 : Int) (n9 : List Sp) (n10 : List Boat) (n11 : List Sky) (n12 : List (List Int)) (n13 : List Int) (n14 : List Sp) (hs : Short (⟨⟨⟨n0, n1⟩, ⟨n2, n3⟩, n4, n5, n6⟩, ⟨⟨n7, n8⟩, n9, n10⟩, n11, n12, n13, n14⟩ : Season)) (day : Int) (lab s) : den T 31 [.agg [i64 n0, i64 n1, i64 n2, i64 n3, .sl .no 2 (es cSp n4), .sl .no 2 (es cAnc n5), .sl .no 5 (es cWal n6), i64 n7, i64 n8, .sl .no 2 (es cSp n9), .sl .no 2 (es cBoat n10), .sl .no 4 (es cSky n11), .sl .no 1 (es cInts n12), .sl .no 1 (es cInt n13), .sl .no 2 (es cSp n14)], i64 day] lab s = some (.tup [.sl .no 1 (es cInt (skiesR (⟨⟨⟨n0, n1⟩, ⟨n2, n3⟩, n4, n5, n6⟩, ⟨⟨n7, n8⟩, n9, n10⟩, n11, n12, n13, n14⟩ : Season) day).1), i64 (skiesR (⟨⟨⟨n0, n1⟩, ⟨n2, n3⟩, n4, n5, n6⟩, ⟨⟨n7, n8⟩, n9, n10⟩, n11, n12, n13, n14⟩ : Season) day).2], s) := by
 have hd := fun lab s => e_isDay13p n0 n1 n2 n3 n4 n5 n6 n7 n8 n9 n10 n11 n12 n13 n14 day hs.days lab s
 have hd0 : within day 0 (n14.length - 1) = isDayS (⟨⟨⟨n0, n1⟩, ⟨n2, n3⟩, n4, n5, n6⟩, ⟨⟨n7, n8⟩, n9, n10⟩, n11, n12, n13, n14⟩ : Season) day := rfl
 rw [den_fn t31 _ _ _ rfl]
 simp only [b31]
 cases c0 : seasonOk (⟨⟨⟨n0, n1⟩, ⟨n2, n3⟩, n4, n5, n6⟩, ⟨⟨n7, n8⟩, n9, n10⟩, n11, n12, n13, n14⟩ : Season)
 ·have ho := fun b lab loc s => e_open13_bad n0 n1 n2 n3 n4 n5 n6 n7 n8 n9 n10 n11 n12 n13 n14 hs c0 b lab loc s
  cases c1 : isDayS (⟨⟨⟨n0, n1⟩, ⟨n2, n3⟩, n4, n5, n6⟩, ⟨⟨n7, n8⟩, n9, n10⟩, n11, n12, n13, n14⟩ : Season) day
  ·simp (disch := first | omega | assumption | decide +kernel | (simp; done) | (simp; omega) | fail) [hd, hd0, c0, c1, ho, skiesR]
  ·simp (disch := first | omega | assumption | decide +kernel | (simp; done) | (simp; omega) | fail) [hd, hd0, c0, c1, ho, skiesR]
 ·have ho := fun lab loc s => e_open13_arg n0 n1 n2 n3 n4 n5 n6 n7 n8 n9 n10 n11 n12 n13 n14 hs c0 lab loc s
  cases c1 : isDayS (⟨⟨⟨n0, n1⟩, ⟨n2, n3⟩, n4, n5, n6⟩, ⟨⟨n7, n8⟩, n9, n10⟩, n11, n12, n13, n14⟩ : Season) day
  ·simp (disch := first | omega | assumption | decide +kernel | (simp; done) | (simp; omega) | fail) [hd, hd0, c0, c1, ho, skiesR]
  have hr : skiesR (⟨⟨⟨n0, n1⟩, ⟨n2, n3⟩, n4, n5, n6⟩, ⟨⟨n7, n8⟩, n9, n10⟩, n11, n12, n13, n14⟩ : Season) day = (skiesL (⟨⟨⟨n0, n1⟩, ⟨n2, n3⟩, n4, n5, n6⟩, ⟨⟨n7, n8⟩, n9, n10⟩, n11, n12, n13, n14⟩ : Season) day.toNat, 0) := by simp [skiesR, c0, c1]
  obtain ⟨day, rfl, hday⟩ := isDay_nat c1
  simp only at hday
  have h5 := (seasonOk_iff.1 c0).2.2.2.2.2.2.1
  simp only at h5
  have hp := fun lab loc s k0 => e_open13 n0 n1 n2 n3 n4 n5 n6 n7 n8 n9 n10 n11 n12 n13 n14 hs c0 lab loc s k0
  obtain ⟨f1, f2, f3⟩ := first_sky c0
  simp only at f1 f2
  have hcl := fun lab s => e_CloneI n13 f1 (by omega) lab s
  have key := fun s => e_Skies_l0 n0 n1 n2 n3 n4 n5 n6 n7 n8 n9 n10 n11 n12 n13 n14 c0 day (by omega) s
  have hfold : (List.range day).foldl (fun (l : List Int) (_ : Nat) => nextSet (⟨⟨⟨n0, n1⟩, ⟨n2, n3⟩, n4, n5, n6⟩, ⟨⟨n7, n8⟩, n9, n10⟩, n11, n12, n13, n14⟩ : Season) l) n13 = skiesL (⟨⟨⟨n0, n1⟩, ⟨n2, n3⟩, n4, n5, n6⟩, ⟨⟨n7, n8⟩, n9, n10⟩, n11, n12, n13, n14⟩ : Season) day := rfl
  simp only [hfold] at key
  rw [hr]
  simp (maxSteps := 1000000) (disch := first | omega | assumption | decide +kernel | (simp; done) | (simp; omega) | fail) [orSlow_none, hd, hd0, c0, c1, hp, hcl, key]
theorem e_SkiesOf_l2 (n0 : Int) (n1 : Int) (n2 : Int) (n3 : Int) (n4 : List Sp) (n5 : List Anc) (n6 : List Wal) (n7 : Int) (n8 : Int) (n9 : List Sp) (n10 : List Boat) (n11 : List Sky) (n12 : List (List Int)) (n13 : List Int) (n14 : List Sp) (hok : seasonOk (⟨⟨⟨n0, n1⟩, ⟨n2, n3⟩, n4, n5, n6⟩, ⟨⟨n7, n8⟩, n9, n10⟩, n11, n12, n13, n14⟩ : Season) = true) (day i : Int) (k1 : Nat) (hk1 : k1 < 1000) (acc sky : List Int) (hsky : SkyL (⟨⟨⟨n0, n1⟩, ⟨n2, n3⟩, n4, n5, n6⟩, ⟨⟨n7, n8⟩, n9, n10⟩, n11, n12, n13, n14⟩ : Season) sky) (s : Stk) :
 Run T b85l2 [(1, i64 day), (2, .ptr s.length 32 0), (5, .sl .no 1 (es cInt sky)), (6, i64 i), (7, .sl (.own s.length 113) 1 (es cInt acc)), (8, i64 k1), (9, .bool false), (10, i64 0)] ([(32, .cell [i64 n0, i64 n1, i64 n2, i64 n3, .sl .no 2 (es cSp n4), .sl .no 2 (es cAnc n5), .sl .no 5 (es cWal n6), i64 n7, i64 n8, .sl .no 2 (es cSp n9), .sl .no 2 (es cBoat n10), .sl .no 4 (es cSky n11), .sl .no 1 (es cInts n12), .sl .no 1 (es cInt n13), .sl .no 2 (es cSp n14)]), (113, .tok acc.length)] :: s) = some (.exit 4, [(1, i64 day), (2, .ptr s.length 32 0), (5, .sl .no 1 (es cInt sky)), (6, i64 i), (7, .sl (.own s.length 113) 1 (es cInt acc)), (8, i64 k1), (9, .bool ((sky).foldl (fun (b : Bool) (x : Int) => b || inB (n12.getD x.toNat []) (k1 : Int)) false)), (10, i64 sky.length), (28, .bool false)], [(32, .cell [i64 n0, i64 n1, i64 n2, i64 n3, .sl .no 2 (es cSp n4), .sl .no 2 (es cAnc n5), .sl .no 5 (es cWal n6), i64 n7, i64 n8, .sl .no 2 (es cSp n9), .sl .no 2 (es cBoat n10), .sl .no 4 (es cSky n11), .sl .no 1 (es cInts n12), .sl .no 1 (es cInt n13), .sl .no 2 (es cSp n14)]), (113, .tok acc.length)] :: s) := by
 have key := loop_fold (T := T) (live := [1, 2, 5, 6, 7, 8, 9, 10]) (keep := [32, 113, 768, 832]) (b := d85l2) (sky) (fun _ _ => True) (fun (b : Bool) (x : Int) => b || inB (n12.getD x.toNat []) (k1 : Int)) (fun k (a : Bool) => [(1, i64 day), (2, .ptr s.length 32 0), (5, .sl .no 1 (es cInt sky)), (6, i64 i), (7, .sl (.own s.length 113) 1 (es cInt acc)), (8, i64 k1), (9, .bool a), (10, i64 k)]) (fun k (a : Bool) => [(32, .cell [i64 n0, i64 n1, i64 n2, i64 n3, .sl .no 2 (es cSp n4), .sl .no 2 (es cAnc n5), .sl .no 5 (es cWal n6), i64 n7, i64 n8, .sl .no 2 (es cSp n9), .sl .no 2 (es cBoat n10), .sl .no 4 (es cSky n11), .sl .no 1 (es cInts n12), .sl .no 1 (es cInt n13), .sl .no 2 (es cSp n14)]), (113, .tok acc.length)] :: s) (fun (a : Bool) => (.exit 4, [(1, i64 day), (2, .ptr s.length 32 0), (5, .sl .no 1 (es cInt sky)), (6, i64 i), (7, .sl (.own s.length 113) 1 (es cInt acc)), (8, i64 k1), (9, .bool a), (10, i64 sky.length), (28, .bool false)], [(32, .cell [i64 n0, i64 n1, i64 n2, i64 n3, .sl .no 2 (es cSp n4), .sl .no 2 (es cAnc n5), .sl .no 5 (es cWal n6), i64 n7, i64 n8, .sl .no 2 (es cSp n9), .sl .no 2 (es cBoat n10), .sl .no 4 (es cSky n11), .sl .no 1 (es cInts n12), .sl .no 1 (es cInt n13), .sl .no 2 (es cSp n14)]), (113, .tok acc.length)] :: s)) (by simp) ?_ ?_ ?_ false (by simp) [(1, i64 day), (2, .ptr s.length 32 0), (5, .sl .no 1 (es cInt sky)), (6, i64 i), (7, .sl (.own s.length 113) 1 (es cInt acc)), (8, i64 k1), (9, .bool false), (10, i64 0)] ([(32, .cell [i64 n0, i64 n1, i64 n2, i64 n3, .sl .no 2 (es cSp n4), .sl .no 2 (es cAnc n5), .sl .no 5 (es cWal n6), i64 n7, i64 n8, .sl .no 2 (es cSp n9), .sl .no 2 (es cBoat n10), .sl .no 4 (es cSky n11), .sl .no 1 (es cInts n12), .sl .no 1 (es cInt n13), .sl .no 2 (es cSp n14)]), (113, .tok acc.length)] :: s) (by simp) (by simp)
 ·exact key
 ·intro k a hk hi
  obtain ⟨hs1, hs2, hs3⟩ := hsky
  obtain ⟨x0, x1⟩ := hs3 sky[k] (List.getElem_mem hk)
  simp only at x1
  obtain ⟨hk2, hne, hf⟩ := follows_ok hok (k := sky[k].toNat) (by simp only; omega)
  have hfl := follows_len hok (k := sky[k].toNat) (by simp only; omega) hk2
  simp only at hk2 hfl
  have hfo : n12.getD sky[k].toNat [] = n12[sky[k].toNat] := by simp [List.getD, hk2]
  have hfl2 : n12[sky[k].toNat].length < 4611686018427387904 := by omega
  rw [hfo]
  cases a
  ·simp (maxSteps := 1000000) (disch := first | omega | assumption | decide +kernel | (simp; done) | (simp; omega) | fail) [run_drawnK, hk, x0, hk2, hfl2, inB, wk k (by omega)]
  ·simp (maxSteps := 1000000) (disch := first | omega | assumption | decide +kernel | (simp; done) | (simp; omega) | fail) [run_drawnK, hk, wk k (by omega)]
 ·intro k a hk hi
  try simp
 ·intro a hi
  simp
theorem fold_any (p : Int → Bool) : ∀ (l : List Int) (b : Bool), l.foldl (fun b x => b || p x) b = (b || anyB p l)
 | [], b => by simp [anyB]
 | x :: l, b => by rw [List.foldl_cons, fold_any p l]; simp [anyB, Bool.or_assoc]
theorem fold_filter (p : Nat → Bool) : ∀ (l : List Nat) (a : List Int), l.foldl (fun a k => if p k = true then a ++ [(k : Int)] else a) a = a ++ (l.filter p).map fun (k : Nat) => (k : Int)
 | [], a => by simp
 | k :: l, a => by
   rw [List.foldl_cons, fold_filter p l]
   by_cases h : p k = true
   ·simp [h]
   ·simp [h]
theorem e_SkiesOf_l1 (n0 : Int) (n1 : Int) (n2 : Int) (n3 : Int) (n4 : List Sp) (n5 : List Anc) (n6 : List Wal) (n7 : Int) (n8 : Int) (n9 : List Sp) (n10 : List Boat) (n11 : List Sky) (n12 : List (List Int)) (n13 : List Int) (n14 : List Sp) (hok : seasonOk (⟨⟨⟨n0, n1⟩, ⟨n2, n3⟩, n4, n5, n6⟩, ⟨⟨n7, n8⟩, n9, n10⟩, n11, n12, n13, n14⟩ : Season) = true) (day i : Int) (sky : List Int) (hsky : SkyL (⟨⟨⟨n0, n1⟩, ⟨n2, n3⟩, n4, n5, n6⟩, ⟨⟨n7, n8⟩, n9, n10⟩, n11, n12, n13, n14⟩ : Season) sky) (s : Stk) :
 Run T b85l1 [(7, .sl (.own s.length 113) 1 []), (1, i64 day), (2, .ptr s.length 32 0), (5, .sl .no 1 (es cInt sky)), (6, i64 i), (7, .sl .full 1 []), (8, i64 0)] ([(32, .cell [i64 n0, i64 n1, i64 n2, i64 n3, .sl .no 2 (es cSp n4), .sl .no 2 (es cAnc n5), .sl .no 5 (es cWal n6), i64 n7, i64 n8, .sl .no 2 (es cSp n9), .sl .no 2 (es cBoat n10), .sl .no 4 (es cSky n11), .sl .no 1 (es cInts n12), .sl .no 1 (es cInt n13), .sl .no 2 (es cSp n14)]), (113, .tok 0)] :: s) = some (.exit 2, [(1, i64 day), (2, .ptr s.length 32 0), (5, .sl .no 1 (es cInt sky)), (6, i64 i), (7, .sl (.own s.length 113) 1 (es cInt ((List.range n11.length).foldl (fun (a : List Int) (k : Nat) => if nextP (⟨⟨⟨n0, n1⟩, ⟨n2, n3⟩, n4, n5, n6⟩, ⟨⟨n7, n8⟩, n9, n10⟩, n11, n12, n13, n14⟩ : Season) sky k = true then a ++ [(k : Int)] else a) []))), (8, i64 n11.length), (22, .bool false)], [(32, .cell [i64 n0, i64 n1, i64 n2, i64 n3, .sl .no 2 (es cSp n4), .sl .no 2 (es cAnc n5), .sl .no 5 (es cWal n6), i64 n7, i64 n8, .sl .no 2 (es cSp n9), .sl .no 2 (es cBoat n10), .sl .no 4 (es cSky n11), .sl .no 1 (es cInts n12), .sl .no 1 (es cInt n13), .sl .no 2 (es cSp n14)]), (113, .tok ((List.range n11.length).foldl (fun (a : List Int) (k : Nat) => if nextP (⟨⟨⟨n0, n1⟩, ⟨n2, n3⟩, n4, n5, n6⟩, ⟨⟨n7, n8⟩, n9, n10⟩, n11, n12, n13, n14⟩ : Season) sky k = true then a ++ [(k : Int)] else a) []).length)] :: s) := by
 have key := loop_fold (T := T) (live := [1, 2, 5, 6, 7, 8]) (keep := [32, 113, 832]) (b := d85l1) (List.range n11.length) (fun k (a : List Int) => a.length ≤ k) (fun (a : List Int) (k : Nat) => if nextP (⟨⟨⟨n0, n1⟩, ⟨n2, n3⟩, n4, n5, n6⟩, ⟨⟨n7, n8⟩, n9, n10⟩, n11, n12, n13, n14⟩ : Season) sky k = true then a ++ [(k : Int)] else a) (fun k (a : List Int) => [(1, i64 day), (2, .ptr s.length 32 0), (5, .sl .no 1 (es cInt sky)), (6, i64 i), (7, .sl (.own s.length 113) 1 (es cInt a)), (8, i64 k)]) (fun k (a : List Int) => [(32, .cell [i64 n0, i64 n1, i64 n2, i64 n3, .sl .no 2 (es cSp n4), .sl .no 2 (es cAnc n5), .sl .no 5 (es cWal n6), i64 n7, i64 n8, .sl .no 2 (es cSp n9), .sl .no 2 (es cBoat n10), .sl .no 4 (es cSky n11), .sl .no 1 (es cInts n12), .sl .no 1 (es cInt n13), .sl .no 2 (es cSp n14)]), (113, .tok a.length)] :: s) (fun (a : List Int) => (.exit 2, [(1, i64 day), (2, .ptr s.length 32 0), (5, .sl .no 1 (es cInt sky)), (6, i64 i), (7, .sl (.own s.length 113) 1 (es cInt a)), (8, i64 n11.length), (22, .bool false)], [(32, .cell [i64 n0, i64 n1, i64 n2, i64 n3, .sl .no 2 (es cSp n4), .sl .no 2 (es cAnc n5), .sl .no 5 (es cWal n6), i64 n7, i64 n8, .sl .no 2 (es cSp n9), .sl .no 2 (es cBoat n10), .sl .no 4 (es cSky n11), .sl .no 1 (es cInts n12), .sl .no 1 (es cInt n13), .sl .no 2 (es cSp n14)]), (113, .tok a.length)] :: s)) (by simp) ?_ ?_ ?_ [] (by simp) [(7, .sl (.own s.length 113) 1 []), (1, i64 day), (2, .ptr s.length 32 0), (5, .sl .no 1 (es cInt sky)), (6, i64 i), (7, .sl .full 1 []), (8, i64 0)] ([(32, .cell [i64 n0, i64 n1, i64 n2, i64 n3, .sl .no 2 (es cSp n4), .sl .no 2 (es cAnc n5), .sl .no 5 (es cWal n6), i64 n7, i64 n8, .sl .no 2 (es cSp n9), .sl .no 2 (es cBoat n10), .sl .no 4 (es cSky n11), .sl .no 1 (es cInts n12), .sl .no 1 (es cInt n13), .sl .no 2 (es cSp n14)]), (113, .tok 0)] :: s) (by simp) (by simp)
 ·exact key
 ·intro k a hk hi
  try simp only [List.length_range] at hk
  try simp only [List.getElem_range]
  have q4 := (seasonOk_iff.1 hok).2.2.2.1
  simp only at q4
  have hsl := hsky.2.1
  have key := e_SkiesOf_l2 n0 n1 n2 n3 n4 n5 n6 n7 n8 n9 n10 n11 n12 n13 n14 hok day i k (by omega) a sky hsky s
  rw [fold_any, Bool.false_or] at key
  change Run T _ _ _ = some (_, [_, _, _, _, _, _, (9, .bool (nextP (⟨⟨⟨n0, n1⟩, ⟨n2, n3⟩, n4, n5, n6⟩, ⟨⟨n7, n8⟩, n9, n10⟩, n11, n12, n13, n14⟩ : Season) sky k)), _, _], _) at key
  cases c : nextP (⟨⟨⟨n0, n1⟩, ⟨n2, n3⟩, n4, n5, n6⟩, ⟨⟨n7, n8⟩, n9, n10⟩, n11, n12, n13, n14⟩ : Season) sky k
  ·rw [c] at key
   simp (maxSteps := 1000000) (disch := first | omega | assumption | decide +kernel | (simp; done) | (simp; omega) | fail) [run_drawnK, hk, key, wk k (by omega)]
  ·rw [c] at key
   simp (maxSteps := 1000000) (disch := first | omega | assumption | decide +kernel | (simp; done) | (simp; omega) | fail) [run_drawnK, hk, key, appK_own1, wk k (by omega)]
 ·intro k a hk hi
  try simp only [List.length_range] at hk
  try simp only [List.getElem_range]
  split
  ·simp; omega
  ·omega
 ·intro a hi
  simp
theorem e_SkiesOf_l0 (n0 : Int) (n1 : Int) (n2 : Int) (n3 : Int) (n4 : List Sp) (n5 : List Anc) (n6 : List Wal) (n7 : Int) (n8 : Int) (n9 : List Sp) (n10 : List Boat) (n11 : List Sky) (n12 : List (List Int)) (n13 : List Int) (n14 : List Sp) (hok : seasonOk (⟨⟨⟨n0, n1⟩, ⟨n2, n3⟩, n4, n5, n6⟩, ⟨⟨n7, n8⟩, n9, n10⟩, n11, n12, n13, n14⟩ : Season) = true) (day : Nat) (hd : day ≤ 1000) (s : Stk) :
 Run T b85l0 [(1, i64 day), (2, .ptr s.length 32 0), (5, .sl .no 1 (es cInt n13)), (6, i64 0)] ([(32, .cell [i64 n0, i64 n1, i64 n2, i64 n3, .sl .no 2 (es cSp n4), .sl .no 2 (es cAnc n5), .sl .no 5 (es cWal n6), i64 n7, i64 n8, .sl .no 2 (es cSp n9), .sl .no 2 (es cBoat n10), .sl .no 4 (es cSky n11), .sl .no 1 (es cInts n12), .sl .no 1 (es cInt n13), .sl .no 2 (es cSp n14)])] :: s) = some (.exit 0, [(1, i64 day), (2, .ptr s.length 32 0), (5, .sl .no 1 (es cInt (((List.range day).foldl (fun (l : List Int) (_ : Nat) => nextSet (⟨⟨⟨n0, n1⟩, ⟨n2, n3⟩, n4, n5, n6⟩, ⟨⟨n7, n8⟩, n9, n10⟩, n11, n12, n13, n14⟩ : Season) l) n13)))), (6, i64 day), (15, .bool false)], [(32, .cell [i64 n0, i64 n1, i64 n2, i64 n3, .sl .no 2 (es cSp n4), .sl .no 2 (es cAnc n5), .sl .no 5 (es cWal n6), i64 n7, i64 n8, .sl .no 2 (es cSp n9), .sl .no 2 (es cBoat n10), .sl .no 4 (es cSky n11), .sl .no 1 (es cInts n12), .sl .no 1 (es cInt n13), .sl .no 2 (es cSp n14)])] :: s) := by
 have key := loop_fold (T := T) (live := [1, 2, 5, 6]) (keep := [32, 832]) (b := d85l0) (List.range day) (fun k (l : List Int) => SkyL (⟨⟨⟨n0, n1⟩, ⟨n2, n3⟩, n4, n5, n6⟩, ⟨⟨n7, n8⟩, n9, n10⟩, n11, n12, n13, n14⟩ : Season) l) (fun (l : List Int) (_ : Nat) => nextSet (⟨⟨⟨n0, n1⟩, ⟨n2, n3⟩, n4, n5, n6⟩, ⟨⟨n7, n8⟩, n9, n10⟩, n11, n12, n13, n14⟩ : Season) l) (fun k (a : List Int) => [(1, i64 day), (2, .ptr s.length 32 0), (5, .sl .no 1 (es cInt (a))), (6, i64 k)]) (fun k (a : List Int) => [(32, .cell [i64 n0, i64 n1, i64 n2, i64 n3, .sl .no 2 (es cSp n4), .sl .no 2 (es cAnc n5), .sl .no 5 (es cWal n6), i64 n7, i64 n8, .sl .no 2 (es cSp n9), .sl .no 2 (es cBoat n10), .sl .no 4 (es cSky n11), .sl .no 1 (es cInts n12), .sl .no 1 (es cInt n13), .sl .no 2 (es cSp n14)])] :: s) (fun (a : List Int) => (.exit 0, [(1, i64 day), (2, .ptr s.length 32 0), (5, .sl .no 1 (es cInt (a))), (6, i64 day), (15, .bool false)], [(32, .cell [i64 n0, i64 n1, i64 n2, i64 n3, .sl .no 2 (es cSp n4), .sl .no 2 (es cAnc n5), .sl .no 5 (es cWal n6), i64 n7, i64 n8, .sl .no 2 (es cSp n9), .sl .no 2 (es cBoat n10), .sl .no 4 (es cSky n11), .sl .no 1 (es cInts n12), .sl .no 1 (es cInt n13), .sl .no 2 (es cSp n14)])] :: s)) (by simp) ?_ ?_ ?_ n13 (first_sky hok) [(1, i64 day), (2, .ptr s.length 32 0), (5, .sl .no 1 (es cInt n13)), (6, i64 0)] ([(32, .cell [i64 n0, i64 n1, i64 n2, i64 n3, .sl .no 2 (es cSp n4), .sl .no 2 (es cAnc n5), .sl .no 5 (es cWal n6), i64 n7, i64 n8, .sl .no 2 (es cSp n9), .sl .no 2 (es cBoat n10), .sl .no 4 (es cSky n11), .sl .no 1 (es cInts n12), .sl .no 1 (es cInt n13), .sl .no 2 (es cSp n14)])] :: s) (by simp) (by simp)
 ·exact key
 ·intro k a hk hi
  try simp only [List.length_range] at hk
  try simp only [List.getElem_range]
  have key := e_SkiesOf_l1 n0 n1 n2 n3 n4 n5 n6 n7 n8 n9 n10 n11 n12 n13 n14 hok day k a hi s
  rw [fold_filter, List.nil_append] at key
  change Run T _ _ _ = some (_, [_, _, _, _, (7, .sl (.own s.length 113) 1 (es cInt (nextSet (⟨⟨⟨n0, n1⟩, ⟨n2, n3⟩, n4, n5, n6⟩, ⟨⟨n7, n8⟩, n9, n10⟩, n11, n12, n13, n14⟩ : Season) a))), _, _], [_, (113, .tok (nextSet (⟨⟨⟨n0, n1⟩, ⟨n2, n3⟩, n4, n5, n6⟩, ⟨⟨n7, n8⟩, n9, n10⟩, n11, n12, n13, n14⟩ : Season) a).length)] :: s) at key
  have hk1 : (k : Int) < day := by omega
  simp (maxSteps := 1000000) (disch := first | omega | assumption | decide +kernel | (simp; done) | (simp; omega) | fail) [run_drawnK, hk, hk1, key, wk k (by omega)]
 ·intro k a hk hi
  try simp only [List.length_range] at hk
  try simp only [List.getElem_range]
  exact nextSet_ok hok hi
 ·intro a hi
  simp
theorem e_SkiesOf (n0 : Int) (n1 : Int) (n2 : Int) (n3 : Int) (n4 : List Sp) (n5 : List Anc) (n6 : List Wal) (n7 : Int) (n8 : Int) (n9 : List Sp) (n10 : List Boat) (n11 : List Sky) (n12 : List (List Int)) (n13 : List Int) (n14 : List Sp) (hok : seasonOk (⟨⟨⟨n0, n1⟩, ⟨n2, n3⟩, n4, n5, n6⟩, ⟨⟨n7, n8⟩, n9, n10⟩, n11, n12, n13, n14⟩ : Season) = true) (day : Nat) (hd : day ≤ 1000) (lab s) : den T 85 [.agg [i64 n0, i64 n1, i64 n2, i64 n3, .sl .no 2 (es cSp n4), .sl .no 2 (es cAnc n5), .sl .no 5 (es cWal n6), i64 n7, i64 n8, .sl .no 2 (es cSp n9), .sl .no 2 (es cBoat n10), .sl .no 4 (es cSky n11), .sl .no 1 (es cInts n12), .sl .no 1 (es cInt n13), .sl .no 2 (es cSp n14)], i64 day] lab s = some (.sl .no 1 (es cInt (skiesL (⟨⟨⟨n0, n1⟩, ⟨n2, n3⟩, n4, n5, n6⟩, ⟨⟨n7, n8⟩, n9, n10⟩, n11, n12, n13, n14⟩ : Season) day)), s) := by
 have key := fun s => e_SkiesOf_l0 n0 n1 n2 n3 n4 n5 n6 n7 n8 n9 n10 n11 n12 n13 n14 hok day hd s
 have hfold : (List.range day).foldl (fun (l : List Int) (_ : Nat) => nextSet (⟨⟨⟨n0, n1⟩, ⟨n2, n3⟩, n4, n5, n6⟩, ⟨⟨n7, n8⟩, n9, n10⟩, n11, n12, n13, n14⟩ : Season) l) n13 = skiesL (⟨⟨⟨n0, n1⟩, ⟨n2, n3⟩, n4, n5, n6⟩, ⟨⟨n7, n8⟩, n9, n10⟩, n11, n12, n13, n14⟩ : Season) day := rfl
 simp only [hfold] at key
 obtain ⟨f1, f2, f3⟩ := skiesL_ok hok day
 generalize skiesL (⟨⟨⟨n0, n1⟩, ⟨n2, n3⟩, n4, n5, n6⟩, ⟨⟨n7, n8⟩, n9, n10⟩, n11, n12, n13, n14⟩ : Season) day = F at *
 have f4 : es cInt F ≠ [] := by simpa using f1
 rw [den_fn t85 _ _ _ rfl]
 simp only [b85]
 simp (maxSteps := 1000000) (disch := first | omega | assumption | decide +kernel | (simp; done) | (simp; omega) | fail) [run_drawnK, key, f4, appK_full, appD_full]
theorem e_Skies13 (n0 : Int) (n1 : Int) (n2 : Int) (n3 : Int) (n4 : List Sp) (n5 : List Anc) (n6 : List Wal) (n7 : Int) (n8 : Int) (n9 : List Sp) (n10 : List Boat) (n11 : List Sky) (n12 : List (List Int)) (n13 : List Int) (n14 : List Sp) (hs : ShortC (⟨⟨⟨n0, n1⟩, ⟨n2, n3⟩, n4, n5, n6⟩, ⟨⟨n7, n8⟩, n9, n10⟩, n11, n12, n13, n14⟩ : Season)) (day : Int) (lab s) : den T 32 [.agg [i64 n0, i64 n1, i64 n2, i64 n3, .sl .no 2 (es cSp n4), .sl .no 2 (es cAnc n5), .sl .no 5 (es cWal n6), i64 n7, i64 n8, .sl .no 2 (es cSp n9), .sl .no 2 (es cBoat n10), .sl .no 4 (es cSky n11), .sl .no 1 (es cInts n12), .sl .no 1 (es cInt n13), .sl .no 2 (es cSp n14)], i64 day] lab s = some (.tup [.sl .no 1 (es cInt (skiesR (⟨⟨⟨n0, n1⟩, ⟨n2, n3⟩, n4, n5, n6⟩, ⟨⟨n7, n8⟩, n9, n10⟩, n11, n12, n13, n14⟩ : Season) day).1), i64 (skiesR (⟨⟨⟨n0, n1⟩, ⟨n2, n3⟩, n4, n5, n6⟩, ⟨⟨n7, n8⟩, n9, n10⟩, n11, n12, n13, n14⟩ : Season) day).2], s) := by
 have hs1 : Short (⟨⟨⟨n0, n1⟩, ⟨n2, n3⟩, n4, n5, n6⟩, ⟨⟨n7, n8⟩, n9, n10⟩, n11, n12, n13, n14⟩ : Season) := hs.short
 have hk := fun lab s => e_IsDay13 n0 n1 n2 n3 n4 n5 n6 n7 n8 n9 n10 n11 n12 n13 n14 day hs1.days lab s
 have hk0 : within day 0 (n14.length - 1) = isDayS (⟨⟨⟨n0, n1⟩, ⟨n2, n3⟩, n4, n5, n6⟩, ⟨⟨n7, n8⟩, n9, n10⟩, n11, n12, n13, n14⟩ : Season) day := rfl
 have ha := fun b lab s => e_ask13 n0 n1 n2 n3 n4 n5 n6 n7 n8 n9 n10 n11 n12 n13 n14 hs1 b lab s
 rw [den_fn t32 _ _ _ rfl]
 simp only [b32]
 cases c0 : seasonOk (⟨⟨⟨n0, n1⟩, ⟨n2, n3⟩, n4, n5, n6⟩, ⟨⟨n7, n8⟩, n9, n10⟩, n11, n12, n13, n14⟩ : Season)
 ·simp (maxSteps := 1000000) (disch := first | omega | assumption | decide +kernel | (simp; done) | (simp; omega) | fail) [hk, hk0, ha, askE, c0, skiesR]
 ·cases c1 : isDayS (⟨⟨⟨n0, n1⟩, ⟨n2, n3⟩, n4, n5, n6⟩, ⟨⟨n7, n8⟩, n9, n10⟩, n11, n12, n13, n14⟩ : Season) day
  ·simp (maxSteps := 1000000) (disch := first | omega | assumption | decide +kernel | (simp; done) | (simp; omega) | fail) [hk, hk0, ha, askE, c0, c1, skiesR]
  have hr : skiesR (⟨⟨⟨n0, n1⟩, ⟨n2, n3⟩, n4, n5, n6⟩, ⟨⟨n7, n8⟩, n9, n10⟩, n11, n12, n13, n14⟩ : Season) day = (skiesL (⟨⟨⟨n0, n1⟩, ⟨n2, n3⟩, n4, n5, n6⟩, ⟨⟨n7, n8⟩, n9, n10⟩, n11, n12, n13, n14⟩ : Season) day.toNat, 0) := by simp [skiesR, c0, c1]
  obtain ⟨day, rfl, hday⟩ := isDay_nat c1
  simp only at hday
  have h5 := (seasonOk_iff.1 c0).2.2.2.2.2.2.1
  simp only at h5
  have hw := fun lab s => e_SkiesOf n0 n1 n2 n3 n4 n5 n6 n7 n8 n9 n10 n11 n12 n13 n14 c0 day (by omega) lab s
  rw [hr]
  simp (maxSteps := 1000000) (disch := first | omega | assumption | decide +kernel | (simp; done) | (simp; omega) | fail) [hk, hk0, ha, askE, c0, c1, hw]
end Go.Proofs.YtekgicoibcgecaaGreat

/-
  Chapter 13: Worth and Lift of the reference; SkiesWorth.
-/
namespace Go.Proofs.YtekgicoibcgecaaGreat
open Go.Ab
theorem e_Worth13 (n0 : Int) (n1 : Int) (n2 : Int) (n3 : Int) (n4 : List Sp) (n5 : List Anc) (n6 : List Wal) (n7 : Int) (n8 : Int) (n9 : List Sp) (n10 : List Boat) (n11 : List Sky) (n12 : List (List Int)) (n13 : List Int) (n14 : List Sp) (hs : ShortC (⟨⟨⟨n0, n1⟩, ⟨n2, n3⟩, n4, n5, n6⟩, ⟨⟨n7, n8⟩, n9, n10⟩, n11, n12, n13, n14⟩ : Season)) (day sky : Int) (lab s) : den T 34 [.agg [i64 n0, i64 n1, i64 n2, i64 n3, .sl .no 2 (es cSp n4), .sl .no 2 (es cAnc n5), .sl .no 5 (es cWal n6), i64 n7, i64 n8, .sl .no 2 (es cSp n9), .sl .no 2 (es cBoat n10), .sl .no 4 (es cSky n11), .sl .no 1 (es cInts n12), .sl .no 1 (es cInt n13), .sl .no 2 (es cSp n14)], i64 day, i64 sky] lab s = some (.tup [i64 (worthR (⟨⟨⟨n0, n1⟩, ⟨n2, n3⟩, n4, n5, n6⟩, ⟨⟨n7, n8⟩, n9, n10⟩, n11, n12, n13, n14⟩ : Season) day sky).1, i64 (worthR (⟨⟨⟨n0, n1⟩, ⟨n2, n3⟩, n4, n5, n6⟩, ⟨⟨n7, n8⟩, n9, n10⟩, n11, n12, n13, n14⟩ : Season) day sky).2], s) := by
 have hs1 : Short (⟨⟨⟨n0, n1⟩, ⟨n2, n3⟩, n4, n5, n6⟩, ⟨⟨n7, n8⟩, n9, n10⟩, n11, n12, n13, n14⟩ : Season) := hs.short
 have hd := fun lab s => e_IsDay13 n0 n1 n2 n3 n4 n5 n6 n7 n8 n9 n10 n11 n12 n13 n14 day hs1.days lab s
 have hd0 : within day 0 (n14.length - 1) = isDayS (⟨⟨⟨n0, n1⟩, ⟨n2, n3⟩, n4, n5, n6⟩, ⟨⟨n7, n8⟩, n9, n10⟩, n11, n12, n13, n14⟩ : Season) day := rfl
 have hk := fun lab s => e_IsSky13 n0 n1 n2 n3 n4 n5 n6 n7 n8 n9 n10 n11 n12 n13 n14 sky hs1.skies lab s
 have hk0 : within sky 0 (n11.length - 1) = isSkyS (⟨⟨⟨n0, n1⟩, ⟨n2, n3⟩, n4, n5, n6⟩, ⟨⟨n7, n8⟩, n9, n10⟩, n11, n12, n13, n14⟩ : Season) sky := rfl
 have ha := fun b lab s => e_ask13 n0 n1 n2 n3 n4 n5 n6 n7 n8 n9 n10 n11 n12 n13 n14 hs1 b lab s
 rw [den_fn t34 _ _ _ rfl]
 simp only [b34]
 cases c0 : seasonOk (⟨⟨⟨n0, n1⟩, ⟨n2, n3⟩, n4, n5, n6⟩, ⟨⟨n7, n8⟩, n9, n10⟩, n11, n12, n13, n14⟩ : Season)
 ·cases c1 : isDayS (⟨⟨⟨n0, n1⟩, ⟨n2, n3⟩, n4, n5, n6⟩, ⟨⟨n7, n8⟩, n9, n10⟩, n11, n12, n13, n14⟩ : Season) day
  ·simp (maxSteps := 1000000) (disch := first | omega | assumption | decide +kernel | (simp; done) | (simp; omega) | fail) [run_drawnK, hd, hd0, hk, hk0, ha, askE, c0, c1, worthR]
  ·cases c2 : isSkyS (⟨⟨⟨n0, n1⟩, ⟨n2, n3⟩, n4, n5, n6⟩, ⟨⟨n7, n8⟩, n9, n10⟩, n11, n12, n13, n14⟩ : Season) sky
   ·simp (maxSteps := 1000000) (disch := first | omega | assumption | decide +kernel | (simp; done) | (simp; omega) | fail) [run_drawnK, hd, hd0, hk, hk0, ha, askE, c0, c1, c2, worthR]
   ·simp (maxSteps := 1000000) (disch := first | omega | assumption | decide +kernel | (simp; done) | (simp; omega) | fail) [run_drawnK, hd, hd0, hk, hk0, ha, askE, c0, c1, c2, worthR]
 ·cases c1 : isDayS (⟨⟨⟨n0, n1⟩, ⟨n2, n3⟩, n4, n5, n6⟩, ⟨⟨n7, n8⟩, n9, n10⟩, n11, n12, n13, n14⟩ : Season) day
  ·simp (maxSteps := 1000000) (disch := first | omega | assumption | decide +kernel | (simp; done) | (simp; omega) | fail) [run_drawnK, hd, hd0, hk, hk0, ha, askE, c0, c1, worthR]
  cases c2 : isSkyS (⟨⟨⟨n0, n1⟩, ⟨n2, n3⟩, n4, n5, n6⟩, ⟨⟨n7, n8⟩, n9, n10⟩, n11, n12, n13, n14⟩ : Season) sky
  ·simp (maxSteps := 1000000) (disch := first | omega | assumption | decide +kernel | (simp; done) | (simp; omega) | fail) [run_drawnK, hd, hd0, hk, hk0, ha, askE, c0, c1, c2, worthR]
  have hr : worthR (⟨⟨⟨n0, n1⟩, ⟨n2, n3⟩, n4, n5, n6⟩, ⟨⟨n7, n8⟩, n9, n10⟩, n11, n12, n13, n14⟩ : Season) day sky = (worthS (⟨⟨⟨n0, n1⟩, ⟨n2, n3⟩, n4, n5, n6⟩, ⟨⟨n7, n8⟩, n9, n10⟩, n11, n12, n13, n14⟩ : Season) (n14.length - day.toNat) sky, 0) := by simp [worthR, c0, c1, c2]
  obtain ⟨day, rfl, hday⟩ := isDay_nat c1
  obtain ⟨sky, rfl, hsky⟩ := isSky_nat c2
  simp only at hday hsky
  have hM := fun lab s => e_Mays n0 n1 n2 n3 n4 n5 n6 n7 n8 n9 n10 n11 n12 n13 n14 hs c0 lab s
  have hw := fun lab s => e_worth13r n0 n1 n2 n3 n4 n5 n6 n7 n8 n9 n10 n11 n12 n13 n14 hs c0 (n14.length - day) day sky (by omega) (by omega) (by omega) lab s
  rw [hr]
  simp (maxSteps := 1000000) (disch := first | omega | assumption | decide +kernel | (simp; done) | (simp; omega) | fail) [run_drawnK, hd, hd0, hk, hk0, ha, askE, c0, c1, c2, hM, hw]
theorem e_Lift13 (n0 : Int) (n1 : Int) (n2 : Int) (n3 : Int) (n4 : List Sp) (n5 : List Anc) (n6 : List Wal) (n7 : Int) (n8 : Int) (n9 : List Sp) (n10 : List Boat) (n11 : List Sky) (n12 : List (List Int)) (n13 : List Int) (n14 : List Sp) (hs : ShortC (⟨⟨⟨n0, n1⟩, ⟨n2, n3⟩, n4, n5, n6⟩, ⟨⟨n7, n8⟩, n9, n10⟩, n11, n12, n13, n14⟩ : Season)) (day sky : Int) (lab s) : den T 38 [.agg [i64 n0, i64 n1, i64 n2, i64 n3, .sl .no 2 (es cSp n4), .sl .no 2 (es cAnc n5), .sl .no 5 (es cWal n6), i64 n7, i64 n8, .sl .no 2 (es cSp n9), .sl .no 2 (es cBoat n10), .sl .no 4 (es cSky n11), .sl .no 1 (es cInts n12), .sl .no 1 (es cInt n13), .sl .no 2 (es cSp n14)], i64 day, i64 sky] lab s = some (.tup [.bool (liftR (⟨⟨⟨n0, n1⟩, ⟨n2, n3⟩, n4, n5, n6⟩, ⟨⟨n7, n8⟩, n9, n10⟩, n11, n12, n13, n14⟩ : Season) day sky).1, i64 (liftR (⟨⟨⟨n0, n1⟩, ⟨n2, n3⟩, n4, n5, n6⟩, ⟨⟨n7, n8⟩, n9, n10⟩, n11, n12, n13, n14⟩ : Season) day sky).2], s) := by
 have hs1 : Short (⟨⟨⟨n0, n1⟩, ⟨n2, n3⟩, n4, n5, n6⟩, ⟨⟨n7, n8⟩, n9, n10⟩, n11, n12, n13, n14⟩ : Season) := hs.short
 have hd := fun lab s => e_IsDay13 n0 n1 n2 n3 n4 n5 n6 n7 n8 n9 n10 n11 n12 n13 n14 day hs1.days lab s
 have hd0 : within day 0 (n14.length - 1) = isDayS (⟨⟨⟨n0, n1⟩, ⟨n2, n3⟩, n4, n5, n6⟩, ⟨⟨n7, n8⟩, n9, n10⟩, n11, n12, n13, n14⟩ : Season) day := rfl
 have hk := fun lab s => e_IsSky13 n0 n1 n2 n3 n4 n5 n6 n7 n8 n9 n10 n11 n12 n13 n14 sky hs1.skies lab s
 have hk0 : within sky 0 (n11.length - 1) = isSkyS (⟨⟨⟨n0, n1⟩, ⟨n2, n3⟩, n4, n5, n6⟩, ⟨⟨n7, n8⟩, n9, n10⟩, n11, n12, n13, n14⟩ : Season) sky := rfl
 have ha := fun b lab s => e_ask13 n0 n1 n2 n3 n4 n5 n6 n7 n8 n9 n10 n11 n12 n13 n14 hs1 b lab s
 rw [den_fn t38 _ _ _ rfl]
 simp only [b38]
 cases c0 : seasonOk (⟨⟨⟨n0, n1⟩, ⟨n2, n3⟩, n4, n5, n6⟩, ⟨⟨n7, n8⟩, n9, n10⟩, n11, n12, n13, n14⟩ : Season)
 ·cases c1 : isDayS (⟨⟨⟨n0, n1⟩, ⟨n2, n3⟩, n4, n5, n6⟩, ⟨⟨n7, n8⟩, n9, n10⟩, n11, n12, n13, n14⟩ : Season) day
  ·simp (maxSteps := 1000000) (disch := first | omega | assumption | decide +kernel | (simp; done) | (simp; omega) | fail) [run_drawnK, hd, hd0, hk, hk0, ha, askE, c0, c1, liftR]
  ·cases c2 : isSkyS (⟨⟨⟨n0, n1⟩, ⟨n2, n3⟩, n4, n5, n6⟩, ⟨⟨n7, n8⟩, n9, n10⟩, n11, n12, n13, n14⟩ : Season) sky
   ·simp (maxSteps := 1000000) (disch := first | omega | assumption | decide +kernel | (simp; done) | (simp; omega) | fail) [run_drawnK, hd, hd0, hk, hk0, ha, askE, c0, c1, c2, liftR]
   ·simp (maxSteps := 1000000) (disch := first | omega | assumption | decide +kernel | (simp; done) | (simp; omega) | fail) [run_drawnK, hd, hd0, hk, hk0, ha, askE, c0, c1, c2, liftR]
 ·cases c1 : isDayS (⟨⟨⟨n0, n1⟩, ⟨n2, n3⟩, n4, n5, n6⟩, ⟨⟨n7, n8⟩, n9, n10⟩, n11, n12, n13, n14⟩ : Season) day
  ·simp (maxSteps := 1000000) (disch := first | omega | assumption | decide +kernel | (simp; done) | (simp; omega) | fail) [run_drawnK, hd, hd0, hk, hk0, ha, askE, c0, c1, liftR]
  cases c2 : isSkyS (⟨⟨⟨n0, n1⟩, ⟨n2, n3⟩, n4, n5, n6⟩, ⟨⟨n7, n8⟩, n9, n10⟩, n11, n12, n13, n14⟩ : Season) sky
  ·simp (maxSteps := 1000000) (disch := first | omega | assumption | decide +kernel | (simp; done) | (simp; omega) | fail) [run_drawnK, hd, hd0, hk, hk0, ha, askE, c0, c1, c2, liftR]
  have hr : liftR (⟨⟨⟨n0, n1⟩, ⟨n2, n3⟩, n4, n5, n6⟩, ⟨⟨n7, n8⟩, n9, n10⟩, n11, n12, n13, n14⟩ : Season) day sky = (liftS (⟨⟨⟨n0, n1⟩, ⟨n2, n3⟩, n4, n5, n6⟩, ⟨⟨n7, n8⟩, n9, n10⟩, n11, n12, n13, n14⟩ : Season) day.toNat sky, 0) := by simp [liftR, c0, c1, c2]
  obtain ⟨day, rfl, hday⟩ := isDay_nat c1
  obtain ⟨sky, rfl, hsky⟩ := isSky_nat c2
  simp only at hday hsky
  have hM := fun lab s => e_Mays n0 n1 n2 n3 n4 n5 n6 n7 n8 n9 n10 n11 n12 n13 n14 hs c0 lab s
  have hw := fun lab s => e_lift13r n0 n1 n2 n3 n4 n5 n6 n7 n8 n9 n10 n11 n12 n13 n14 hs c0 day hday sky (by omega) (by omega) lab s
  rw [hr]
  simp (maxSteps := 1000000) (disch := first | omega | assumption | decide +kernel | (simp; done) | (simp; omega) | fail) [run_drawnK, hd, hd0, hk, hk0, ha, askE, c0, c1, c2, hM, hw]
theorem skiesR_len (n : Season) (day : Int) : (skiesR n day).1.length ≤ 4 := by
 unfold skiesR
 split
 ·rename_i h
  split
  ·exact (skiesL_ok h _).2.1
  ·simp
 ·simp
set_option maxHeartbeats 4000000 in
theorem e_SkiesWorth (n0 : Int) (n1 : Int) (n2 : Int) (n3 : Int) (n4 : List Sp) (n5 : List Anc) (n6 : List Wal) (n7 : Int) (n8 : Int) (n9 : List Sp) (n10 : List Boat) (n11 : List Sky) (n12 : List (List Int)) (n13 : List Int) (n14 : List Sp) (hs : ShortC (⟨⟨⟨n0, n1⟩, ⟨n2, n3⟩, n4, n5, n6⟩, ⟨⟨n7, n8⟩, n9, n10⟩, n11, n12, n13, n14⟩ : Season)) (day sky : Int) (lab s) : den T 6 [.agg [i64 n0, i64 n1, i64 n2, i64 n3, .sl .no 2 (es cSp n4), .sl .no 2 (es cAnc n5), .sl .no 5 (es cWal n6), i64 n7, i64 n8, .sl .no 2 (es cSp n9), .sl .no 2 (es cBoat n10), .sl .no 4 (es cSky n11), .sl .no 1 (es cInts n12), .sl .no 1 (es cInt n13), .sl .no 2 (es cSp n14)], i64 day, i64 sky] lab s = some (.bool true, s) := by
 have hs1 : Short (⟨⟨⟨n0, n1⟩, ⟨n2, n3⟩, n4, n5, n6⟩, ⟨⟨n7, n8⟩, n9, n10⟩, n11, n12, n13, n14⟩ : Season) := hs.short
 have hfar := fun lab s => e_Far13 n0 n1 n2 n3 n4 n5 n6 n7 n8 n9 n10 n11 n12 n13 n14 hs1.skies hs1.follows hs1.first hs1.days hs1.each lab s
 have hx := e_works
 have hc := fun lab loc s => e_Copy13 n0 n1 n2 n3 n4 n5 n6 n7 n8 n9 n10 n11 n12 n13 n14 hs lab loc s
 have a1 := fun lab s => e_Skies n0 n1 n2 n3 n4 n5 n6 n7 n8 n9 n10 n11 n12 n13 n14 hs1 day lab s
 have a2 := fun lab s => e_Skies13 n0 n1 n2 n3 n4 n5 n6 n7 n8 n9 n10 n11 n12 n13 n14 hs day lab s
 have a3 := fun lab s => e_Worth n0 n1 n2 n3 n4 n5 n6 n7 n8 n9 n10 n11 n12 n13 n14 hs1 day sky lab s
 have a4 := fun lab s => e_Worth13 n0 n1 n2 n3 n4 n5 n6 n7 n8 n9 n10 n11 n12 n13 n14 hs day sky lab s
 have a5 := fun lab s => e_Best n0 n1 n2 n3 n4 n5 n6 n7 n8 n9 n10 n11 n12 n13 n14 hs1 lab s
 have a6 := fun lab s => e_Best13 n0 n1 n2 n3 n4 n5 n6 n7 n8 n9 n10 n11 n12 n13 n14 hs lab s
 have a7 := fun lab s => e_Lift n0 n1 n2 n3 n4 n5 n6 n7 n8 n9 n10 n11 n12 n13 n14 hs1 day sky lab s
 have a8 := fun lab s => e_Lift13 n0 n1 n2 n3 n4 n5 n6 n7 n8 n9 n10 n11 n12 n13 n14 hs day sky lab s
 have hsame := fun lab s => e_Same13 n0 n1 n2 n3 n4 n5 n6 n7 n8 n9 n10 n11 n12 n13 n14 hs lab s
 have hl := skiesR_len (⟨⟨⟨n0, n1⟩, ⟨n2, n3⟩, n4, n5, n6⟩, ⟨⟨n7, n8⟩, n9, n10⟩, n11, n12, n13, n14⟩ : Season) day
 have hl2 : (skiesR (⟨⟨⟨n0, n1⟩, ⟨n2, n3⟩, n4, n5, n6⟩, ⟨⟨n7, n8⟩, n9, n10⟩, n11, n12, n13, n14⟩ : Season) day).1.length < 4611686018427387904 := by omega
 rw [den_fn t6 _ _ _ rfl]
 simp only [b6]
 cases c0 : farSeason (⟨⟨⟨n0, n1⟩, ⟨n2, n3⟩, n4, n5, n6⟩, ⟨⟨n7, n8⟩, n9, n10⟩, n11, n12, n13, n14⟩ : Season)
 ·simp (maxSteps := 6000000) (disch := first | omega | assumption | decide +kernel | (simp; done) | (simp; omega) | fail) [run_drawnK, hfar, c0, hx, hc, copyCells, a1, a2, a3, a4, a5, a6, a7, a8, hsame]
 ·simp (maxSteps := 6000000) (disch := first | omega | assumption | decide +kernel | (simp; done) | (simp; omega) | fail) [run_drawnK, hfar, c0, hx]
end Go.Proofs.YtekgicoibcgecaaGreat
