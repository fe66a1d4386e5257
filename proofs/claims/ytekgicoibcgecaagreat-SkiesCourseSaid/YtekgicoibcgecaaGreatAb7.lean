/-
  slices.Sort at []int by the library's own contract: what it does to an array that the evaluator keeps.
-/
import Derived.Test.YtekgicoibcgecaaGreatAb5
import Derived.Sort.EveryDepth
import Derived.Shelf.Sort.AssemblyIn
set_option linter.unusedSimpArgs false
set_option linter.unusedVariables false
namespace Go.Ab
open Go.Proofs Go.Sort Go.Shelf
def intOf : List V → Option Int
 | [.int .i64 n] => some n
 | _ => none
def intsOf : List (List V) → Option (List Int)
 | [] => some []
 | x :: r => match intOf x, intsOf r with
   | some n, some l => some (n :: l)
   | _, _ => none
def cellInt (n : Int) : List V := [.int .i64 n]
theorem intsOf_map : ∀ l : List Int, intsOf (l.map cellInt) = some l
 | [] => rfl
 | n :: l => by simp only [List.map_cons, intsOf, intsOf_map l, cellInt, intOf]
theorem intOf_some {x : List V} {n : Int} (h : intOf x = some n) : x = cellInt n := by
 unfold intOf at h
 split at h
 ·cases h; rfl
 ·cases h
theorem intsOf_some : ∀ {es : List (List V)} {l : List Int}, intsOf es = some l → es = l.map cellInt
 | [], l, h => by cases h; rfl
 | x :: r, l, h => by
   simp only [intsOf] at h
   split at h
   ·rename_i n l' h1 h2
    cases h
    rw [List.map_cons, intOf_some h1, ← intsOf_some h2]
   ·cases h
def sortedI (l : List Int) : List Int := l.mergeSort fun x y => decide (x ≤ y)
def sortP : List V → Nat → Stk → Option (V × Stk)
 | [.asl d l sz q o n], _, s => match sget s d l with
   | some (.arr z es) => if z = 1 ∧ sz = 1 ∧ q = es.length ∧ o = 0 ∧ n = es.length ∧ es ≠ [] ∧ es.length < 4611686018427387904 then
    match intsOf es with
    | some zs => some (.tup [], sput s d l (.arr 1 ((sortedI zs).map cellInt)))
    | none => none
     else none
   | _ => none
 | _, _, _ => none
def Tab.ofP (l : List (FuncId × AFn)) (p : List (FuncId × (List V → Nat → Stk → Option (V × Stk)))) : Tab := ⟨fun f => match l.lookup f with
 | some fn => some (.code fn)
 | none => (p.lookup f).map .prim⟩
theorem Tab.ofP_code {l : List (FuncId × AFn)} {p} {f : FuncId} {fn : AFn} (h : l.lookup f = some fn) : (Tab.ofP l p).fns f = some (.code fn) := by simp [Tab.ofP, h]
theorem Tab.ofP_prim {l : List (FuncId × AFn)} {p} {f : FuncId} {q} (h : l.lookup f = none) (h2 : p.lookup f = some q) : (Tab.ofP l p).fns f = some (.prim q) := by simp [Tab.ofP, h, h2]
def PrimOk (P : Program) (x : FuncId × (List V → Nat → Stk → Option (V × Stk))) : Prop := ∀ args lab s v s', x.2 args lab s = some (v, s') → Enters P x.1 ∧
 ∀ w γ us, LR s.length w γ args us → SR (KP P) s w γ → Calls P x.1 us.toArray w (CPost (KP P) s w γ v s')
theorem lookup_memP {α : Type} {l : List (FuncId × α)} {f : FuncId} {fn : α} (h : l.lookup f = some fn) : (f, fn) ∈ l := by
 induction l with
 | nil => simp at h
 | cons x r ih =>
   obtain ⟨k, y⟩ := x
   simp only [List.lookup_cons] at h
   split at h
   ·rename_i hk; simp at hk; subst hk; cases h; simp
   ·exact List.mem_cons_of_mem _ (ih h)
theorem Tab.ofP_ok {P : Program} {l : List (FuncId × AFn)} {p} (h : ∀ x ∈ l, Compiled P x) (h2 : ∀ x ∈ p, PrimOk P x) : TabOk P (Tab.ofP l p) where
 code := fun f fn hf => by
  simp only [Tab.ofP] at hf
  split at hf
  ·rename_i fn' h1
   cases hf
   exact h (f, fn) (lookup_memP h1)
  ·obtain ⟨_, _, h2⟩ := Option.map_eq_some_iff.1 hf
   cases h2
 prim := fun f q hf => by
  simp only [Tab.ofP] at hf
  split at hf
  ·cases hf
  ·obtain ⟨q', h1, h3⟩ := Option.map_eq_some_iff.1 hf
   cases h3
   exact h2 (f, q) (lookup_memP h1)
theorem den_prim {T : Tab} {f : FuncId} {q} (h : T.fns f = some (.prim q)) (args lab s) : den T f args lab s = q args lab s := by unfold den enter; rw [h]
theorem sortP_inv {args lab s v s'} (h : sortP args lab s = some (v, s')) : ∃ d l zs, args = [.asl d l 1 zs.length 0 zs.length] ∧ sget s d l = some (.arr 1 (zs.map cellInt)) ∧ zs ≠ [] ∧ zs.length < 4611686018427387904 ∧ v = .tup [] ∧ s' = sput s d l (.arr 1 ((sortedI zs).map cellInt)) := by
 unfold sortP at h
 split at h
 ·rename_i _ s d l sz q o n
  split at h
  ·rename_i z es hg
   split at h
   ·rename_i hc
    obtain ⟨rfl, rfl, rfl, rfl, rfl, h6, h7⟩ := hc
    split at h
    ·rename_i zs hz
     cases h
     have := intsOf_some hz
     subst this
     exact ⟨d, l, zs, by simp, hg, by simpa using h6, by simpa using h7, rfl, rfl⟩
    ·cases h
   ·cases h
  ·cases h
 ·cases h
theorem sortP_ok {P : Program} {ρ : Shelf.Ren} (Ly : Lays.n189 P ρ) : ∀ args lab s v s', sortP args lab s = some (v, s') → Enters P (ρ.f 189) ∧
 ∀ w γ us, LR s.length w γ args us → SR (KP P) s w γ → Calls P (ρ.f 189) us.toArray w (CPost (KP P) s w γ v s') := by
 intro args lab s v s' h
 obtain ⟨d, l, zs, rfl, hg, hne, hsz, rfl, rfl⟩ := sortP_inv h
 refine ⟨fun args w => ?_, fun w γ us hl hS => ?_⟩
 ·simp [callFunc, Ly.f189, Body.n189]
 ·obtain ⟨u, rfl⟩ : ∃ u, us = [u] := by
   have := hl.1
   cases us with
   | nil => simp at this
   | cons u r => cases r with
     | nil => exact ⟨u, rfl⟩
     | cons _ _ => simp at this
  have hx := hl.2 0 _ _ rfl rfl
  obtain ⟨blk, h1, h0, h2⟩ := hS.ent d l _ hg
  have hlen : (zs.map cellInt).length = zs.length := by simp
  rw [hlen] at h1
  have hpos : 0 < zs.length := List.length_pos_iff.2 hne
  generalize hN : zs.length = N at hx
  cases hx with
  | aslnil => omega
  | aslold _ _ _ _ _ _ N' _ _ _ _ hd hb hn => rw [hb] at h1; cases h1; omega
  | asl _ _ _ _ _ _ b k hd hb hle hk =>
    subst hN
    rw [hb] at h1; cases h1
    obtain ⟨_, c, e, h3, h4, h5, h6, h7, h8⟩ := h2
    simp only [Nat.mul_one] at h5
    have hbs : b < w.heap.size := (Array.getElem?_eq_some_iff.1 h3).1
    have hcell : ∀ j (hj : j < zs.length), c[j]? = some (.int .i64 zs[j]) := by
     intro j hj
     have hjc : j < c.size := by omega
     obtain ⟨u, hu⟩ : ∃ u, c[j]? = some u := ⟨c[j], Array.getElem?_eq_getElem hjc⟩
     have := h8 j (cellInt zs[j]) 0 (.int .i64 zs[j]) u (by simp [hj]) rfl (by simpa using hu)
     cases this
     exact hu
    have hH : Holds (Value.int .i64) w b 0 zs.toArray := by
     intro j hj
     have hj' : j < zs.length := by simpa using hj
     refine ⟨?_, ?_⟩
     ·simp only [World.cell?, h3, Nat.zero_add, hcell j hj']
      simp [hj']
     ·simp [World.frozen?, h3]
    have hC := calls_of_every_depth fun D => AnyS.slices_Sort_int_in Ly D b 0 k zs w hH hbs hsz
    simp only [Nat.zero_mul, Nat.sub_zero] at hC ⊢
    refine hC.mono ?_
    rintro en w' ⟨rfl, m, os, rfl⟩
    change CPost (KP P) s w γ (.tup []) (sput s d l (.arr 1 ((sortedI zs).map cellInt))) _ (grow (putRow (Value.int .i64) (Go.Sort.ahead w m) b 0 (sortedI zs).toArray) os)
    obtain ⟨D, hD⟩ : ∃ D, D = sortedI zs := ⟨_, rfl⟩
    rw [← hD]
    have hDl : D.length = zs.length := by rw [hD, sortedI, List.length_mergeSort]
    obtain ⟨w', hw'⟩ : ∃ w', w' = grow (putRow (Value.int .i64) (Go.Sort.ahead w m) b 0 D.toArray) os := ⟨_, rfl⟩
    rw [← hw']
    have hsame : ∀ b', b' < w.heap.size → b' ≠ b → w'.heap[b']? = w.heap[b']? := by
     intro b' h1 h2
     rw [hw', heap_grow_old _ _ (by simpa [putRow, mapBlock, Go.Sort.ahead] using h1)]
     simp [putRow, mapBlock, Go.Sort.ahead, Array.getElem?_modify, Ne.symm h2]
    have hblk : w'.heap[b]? = some (.cells (putCells (Value.int .i64) 0 D.toArray c) e (0, 0)) := by
     rw [hw', heap_grow_old _ _ (by simpa [putRow, mapBlock, Go.Sort.ahead] using hbs)]
     simp [putRow, mapBlock, Go.Sort.ahead, Array.getElem?_modify, h3, onCells]
    have hsize : w.heap.size ≤ w'.heap.size := by rw [hw']; simp [putRow, mapBlock, Go.Sort.ahead]
    have hnew : ∀ j (hj : j < D.length), (putCells (Value.int .i64) 0 D.toArray c)[j]? = some (.int .i64 D[j]) := by
     intro j hj
     have hjc : j < c.size := by omega
     simp [putCells, hjc, hj]
    have hown : ∀ o, Own γ b o := fun o => ⟨d, l, _, hb, rfl⟩
    have hx : Ext s.length w γ w' γ :=
     { os := by rw [hw']; rfl
       tape := by rw [hw']; rfl
       output := by rw [hw']; rfl
       size := hsize
       cell := fun _ _ _ _ h => h
       obj := fun _ _ _ _ h => h
       arr := fun _ _ n blk _ h => ⟨n, blk, h, .inl ⟨rfl, rfl⟩⟩
       tok := fun _ _ n blk _ h => ⟨n, blk, h, .inl ⟨rfl, rfl⟩⟩
       keep := fun b' off u hu hno => by
        have hne' : b' ≠ b := fun h => hno (h ▸ hown off)
        have hlt : b' < w.heap.size := by
         apply Nat.lt_of_not_le
         intro hle
         simp [World.cell?, Array.getElem?_eq_none hle] at hu
        simp only [World.cell?, hsame b' hlt hne'] at hu ⊢
        exact hu
       free := fun _ _ _ h => h
       block := fun b' hlt hno => hsame b' hlt (fun h => hno 0 (h ▸ hown 0))
       frn := fun _ => rfl
       fheap := fun l' g b' hg' hb' => hsame b' (hS.frn l' g b' hg' hb') (fun h => hS.notfrn hb rfl l' g hg' (h ▸ hb')) }
    refine ⟨.tuple #[], γ, rfl, .tup [] #[] rfl (by simp), ?_, hx, sput_length _ _ _ _⟩
    have hset : γ.set d l (.arr zs.length (some (b, 1, k))) = γ := set_self hb
    refine hS.step (g := .arr zs.length (some (b, 1, k))) (hS.lt hb) hx hset.symm ⟨some (b, 1, k), by rw [List.length_map, hDl]; exact hb, ?_, rfl, _, e, hblk, by rw [List.length_map, hDl]; simpa using h4, by simpa [putCells] using h5, h6, h7, ?_⟩ ?_ ?_
    ·intro cs hcs
     obtain ⟨x, _, rfl⟩ := List.mem_map.1 hcs
     rfl
    ·intro i cs j v u k1 k2 k3
     simp only [List.getElem?_map, Option.map_eq_some_iff] at k1
     obtain ⟨x, k1, rfl⟩ := k1
     have hi : i < D.length := (List.getElem?_eq_some_iff.1 k1).1
     have hxi : D[i] = x := (List.getElem?_eq_some_iff.1 k1).2
     cases j with
     | succ j => simp [cellInt] at k2
     | zero =>
       simp only [Nat.mul_one, Nat.add_zero] at k3
       rw [hnew i hi] at k3
       cases k3
       simp only [cellInt, List.getElem?_cons_zero, Option.some.injEq] at k2
       subst k2
       rw [hxi]
       exact .int _ _
    ·intro d' l' g' b1 hne' hg' hb1
     refine hsame b1 (hS.blk_lt hg' hb1) ?_
     ·rintro rfl
      exact hne' (hS.inj d' l' g' d l _ b1 hg' hb hb1 rfl)
    ·intro b1 hb1 d' l' g' hne' hg' hb'
     simp [GE.blk] at hb1; subst hb1
     exact hne' (hS.inj d' l' g' d l _ b hg' hb hb' rfl)
end Go.Ab
