/-
  Operations: arrays that the frame owns.
-/
import Derived.Test.YtekgicoibcgecaaGreatAb2
import Derived.Laws.MakeOwn
import Derived.LoopNIn
import Derived.RangeFuncLeaves
set_option linter.unusedSimpArgs false
set_option linter.unusedVariables false
namespace Go.Ab
section
variable {K : KK} {s : Stk} {w : World} {γ : G} {P : Program}
theorem arr_new (hS : SR K s w γ) (hs : s ≠ []) {lab : Nat} (hn : sget s (dep s) lab = none) {w1 : World} (hx1 : ∀ γ', Ext s.length w γ' w1 γ') (hh : w1.heap = w.heap) {es : List (List V)} {sz k : Nat} (hsz : ∀ cs, cs ∈ es → cs.length = sz) (h0 : 0 < sz)
 {row : Array Value} (hrow : row.size = k * sz) (hk : es.length ≤ k) (hmax : k ≤ maxLen) {us : List Value} (hl : LR s.length w γ es.flatten us) (hr : ∀ (j : Nat) u, us[j]? = some u → row[j]? = some u) (el : TypeId) :
 ∃ γ', VR s.length (w1.alloc (.cells row el)) γ' (.asl (dep s) lab sz es.length 0 es.length) (.slice (some ⟨w.heap.size, 0, none⟩) es.length k) ∧
  SR K (sput s (dep s) lab (.arr sz es)) (w1.alloc (.cells row el)) γ' ∧ Ext s.length w γ (w1.alloc (.cells row el)) γ' := by
 have hd := dep_succ hs
 obtain ⟨g, hg⟩ : ∃ g : GE, g = .arr es.length (some (w.heap.size, sz, k)) := ⟨_, rfl⟩
 have hx0 : Ext s.length w γ w (γ.set (dep s) lab g) := Ext.name _ w γ (hS.none _ _ hn) (fun b off h => by rw [hg] at h; simp [GE.owns] at h; omega)
 have hx := (hx0.trans (hx1 _)).trans (Ext.alloc s.length w1 (γ.set (dep s) lab g) (.cells row el) (by rw [hh]; exact hS.frn_set _ _ _))
 have hblk : (w1.alloc (.cells row el)).heap[w.heap.size]? = some (.cells row el (0, 0)) := by
  have := heap_alloc_new w1 (.cells row el)
  rwa [hh] at this
 have hvr : VR s.length (w1.alloc (.cells row el)) (γ.set (dep s) lab g) (.asl (dep s) lab sz es.length 0 es.length) (.slice (some ⟨w.heap.size, 0 * sz, none⟩) es.length (k - 0)) := .asl _ _ _ _ _ _ _ _ (by omega) (by rw [G.set_same, hg]) (by omega) hk
 rw [Nat.zero_mul, Nat.sub_zero] at hvr
 refine ⟨γ.set (dep s) lab g, hvr, hS.step (by omega) hx rfl ⟨some (w.heap.size, sz, k), by rw [G.set_same, hg], hsz, rfl, row, el, hblk, hk, hrow, h0, hmax, ?_⟩ ?_ ?_, hx⟩
 ·intro i cs j v u h1 h2 h3
  rw [hd]
  have hj : j < sz := by rw [← hsz cs (List.mem_of_getElem? h1)]; exact (List.getElem?_eq_some_iff.1 h2).1
  have hf : es.flatten[i * sz + j]? = some v := by rw [flatten_get es hsz i j hj, h1]; exact h2
  have hlt : i * sz + j < us.length := by rw [← hl.1]; exact (List.getElem?_eq_some_iff.1 hf).1
  have := hr (i * sz + j) us[i * sz + j] (by simp)
  rw [h3] at this; cases this
  exact (hl.2 _ v us[i * sz + j] hf (by simp)).ext hx
 ·intro d' l' g' b _ hg' hb
  have := heap_alloc_old w1 (.cells row el) b (by rw [hh]; exact hS.blk_lt hg' hb)
  rw [this, hh]
 ·intro b hb d' l' g' _ hg' hb'
  rw [hg] at hb; simp [GE.blk] at hb
  have := hS.blk_lt hg' hb'
  omega
theorem arr_none (hS : SR K s w γ) (hs : s ≠ []) {lab : Nat} (hn : sget s (dep s) lab = none) (sz : Nat) (base : Option Addr) :
 ∃ γ', VR s.length w γ' (.asl (dep s) lab sz 0 0 0) (.slice base 0 0) ∧ SR K (sput s (dep s) lab (.arr sz [])) w γ' ∧ Ext s.length w γ w γ' := by
 have hd := dep_succ hs
 have hx : Ext s.length w γ w (γ.set (dep s) lab (.arr 0 none)) := Ext.name _ w γ (hS.none _ _ hn) (fun b off h => h.elim)
 exact ⟨_, .aslnil _ _ _ base (by omega) (G.set_same _ _ _ _), hS.step (by omega) hx rfl ⟨none, G.set_same _ _ _ _, by simp, rfl⟩ (fun _ _ _ _ _ _ _ => rfl) (fun b hb => by simp [GE.blk] at hb), hx⟩
theorem replicate_flatten_get {α : Type} (z : List α) (n j : Nat) (h : j < n * z.length) : ((List.replicate n z).flatten)[j]? = z[j % z.length]? := by
 induction n generalizing j with
 | zero => simp at h
 | succ n ih =>
   rw [List.replicate_succ, List.flatten_cons]
   by_cases hj : j < z.length
   ·rw [List.getElem?_append_left hj, Nat.mod_eq_of_lt hj]
   ·rw [List.getElem?_append_right (by omega), ih _ (by rw [Nat.add_mul] at h; omega)]
    congr 1
    exact (Nat.mod_eq_sub_mod (by omega)).symm
theorem mksl_ok (hS : SR K s w γ) (hs : s ≠ []) {lab : Nat} (hn : sget s (dep s) lab = none) {t el : TypeId} {i : TypeInfo} {z : List V} (ht : P.underlying t = some (.slice el)) (hz : zeroT P el = some z) (hi : P.info? el = some i) (h0 : 0 < z.length) (hsz : i.size = z.length)
 {n : Int} (hn0 : 0 ≤ n) (hn1 : n < 140737488355328) (hb : n * i.bytes ≤ 140737488355328) (k1 k2 : IntKind) :
 ∃ u w' γ', (Instr.makeSlice t (.int k1 n) (.int k2 n)).run P w = .ok u w' ∧ VR s.length w' γ' (.asl (dep s) lab z.length n.toNat 0 n.toNat) u ∧
  SR K (sput s (dep s) lab (.arr z.length (List.replicate n.toNat z))) w' γ' ∧ Ext s.length w γ w' γ' := by
 obtain ⟨i', zv, hi', hz', hl, _⟩ := zeroT_ok hz s.length w γ
 rw [hi] at hi'; cases hi'
 have hzl : zv.cells.size = z.length := by simpa using hl.1.symm
 have hrun := run_make (P := P) w t el i zv ht hi hz' k1 k2 n n hn0 (Int.le_refl _) (by rw [Int.mul_comm]; omega) (by omega)
 have hA : LR s.length w γ (List.replicate n.toNat z).flatten (List.replicate n.toNat zv.cells.toList).flatten := by
  refine ⟨by simp [hzl], fun j v u hv hu => ?_⟩
  have hj : j < n.toNat * z.length := by have := (List.getElem?_eq_some_iff.1 hv).1; simpa using this
  rw [replicate_flatten_get _ _ _ hj] at hv
  rw [replicate_flatten_get _ _ _ (by simpa [hzl] using hj)] at hu
  have e : zv.cells.toList.length = z.length := by simpa using hzl
  rw [e] at hu
  exact hl.2 _ v u hv hu
 have hB : ∀ (j : Nat) u, (List.replicate n.toNat zv.cells.toList).flatten[j]? = some u → (madeCells zv.cells (n.toNat * i.size))[j]? = some u := by
  intro j u hu
  have hj : j < n.toNat * zv.cells.toList.length := by have := (List.getElem?_eq_some_iff.1 hu).1; simpa using this
  rw [replicate_flatten_get _ _ _ hj] at hu
  have hj' : j < n.toNat * i.size := by rw [hsz, ← hzl]; simpa using hj
  have hm : j % zv.cells.size < zv.cells.size := Nat.mod_lt _ (by omega)
  have hj2 : (Array.range (n.toNat * i.size))[j]? = some j := by simp [hj']
  simp only [madeCells, Array.getElem?_map, hj2, Option.map_some]
  simp at hu
  rw [getElem!_pos zv.cells (j % zv.cells.size) hm, Option.some.injEq]
  simpa [hm] using hu
 obtain ⟨γ', h1, h2, h3⟩ := arr_new hS hs hn (fun γ' => Ext.refl _ w γ') rfl (es := List.replicate n.toNat z) (sz := z.length) (k := n.toNat) (fun cs hc => by rw [(List.mem_replicate.1 hc).2]) h0
  (row := madeCells zv.cells (n.toNat * i.size)) (by rw [size_madeCells, hsz]) (by simp) (by simp only [maxLen]; omega) hA hB el
 rw [List.length_replicate] at h1
 exact ⟨_, _, γ', hrun, h1, h2, h3⟩
theorem appm_ok (hS : SR K s w γ) (hs : s ≠ []) {lab : Nat} (hn : sget s (dep s) lab = none) {t e : TypeId} {i : TypeInfo} {z : Value} (ty : TypeId) (ht : P.underlying t = some (.slice e)) (hi : P.info? e = some i) (hz : i.zero = some z) (h0 : 0 < i.size) (hzs : z.cells.size = i.size)
 {sz : Nat} {ux uy : Value} {fs : List (List V)} (hb : fs.length * i.bytes ≤ 140737488355328) (hl : fs.length < 140737488355328) (hX : VR s.length w γ (.sl .full sz []) ux)
 (hY : ((uy = .slice none 0 0 ∨ ∃ a c, uy = .slice (some a) 0 c) ∧ fs = []) ∨ ∃ b off cap us, uy = .slice (some ⟨b, off, none⟩) fs.length cap ∧ (∀ cs, cs ∈ fs → cs.length = i.size) ∧ LR s.length w γ fs.flatten us ∧ RD w b off us) :
 ∃ u w' γ', (Builtin.append_ #[t, t] ty #[ux, uy]).run P w = .ok u w' ∧ VR s.length w' γ' (.asl (dep s) lab i.size fs.length 0 fs.length) u ∧ SR K (sput s (dep s) lab (.arr i.size fs)) w' γ' ∧ Ext s.length w γ w' γ' := by
 have hmax : fs.length ≤ maxLen := by simp only [maxLen]; omega
 have h63 : ((fs.length : Nat) : Int) ≤ 9223372036854775807 := by omega
 have shX : ∃ base, ux = .slice base 0 0 := by
  rcases hX.sl_inv with ⟨base, cap, rfl, _, hco, _⟩ | ⟨b, off, cap, us, rfl, _, _, _, hco, _⟩
  ·have : cap = 0 := hco
   subst this
   exact ⟨_, rfl⟩
  ·have : cap = 0 := hco
   subst this
   exact ⟨_, rfl⟩
 obtain ⟨base, rfl⟩ := shX
 by_cases hfs : fs = []
 ·subst hfs
  have hy : uy = .slice none 0 0 ∨ ∃ a c, uy = .slice (some a) 0 c := by
   rcases hY with ⟨h, _⟩ | ⟨b, off, cap, us, rfl, _⟩
   ·exact h
   ·exact .inr ⟨_, _, rfl⟩
  obtain ⟨γ', h1, h2, h3⟩ := arr_none hS hs hn i.size base
  exact ⟨_, w, γ', run_append_empty (w := w) ty ht hi base 0 0 (Nat.le_refl _) (fun _ => rfl) uy hy, h1, h2, h3⟩
 ·have hm : 0 < fs.length := List.length_pos_iff.2 hfs
  rcases hY with ⟨_, e0⟩ | ⟨b2, off2, cap2, news, rfl, hfz, hln, hrn⟩
  ·exact absurd e0 hfs
  have lnews : news.length = fs.length * i.size := by rw [← hln.1, flatten_len fs hfz]
  have key : ∀ (cap : Nat), fs.length ≤ cap → cap ≤ maxLen → ∃ γ', VR s.length (w.drew.alloc (.cells (news.toArray ++ Builtin.zeroCells z.cells (cap - fs.length)) e)) γ' (.asl (dep s) lab i.size fs.length 0 fs.length) (.slice (some ⟨w.heap.size, 0, none⟩) fs.length cap) ∧
   SR K (sput s (dep s) lab (.arr i.size fs)) (w.drew.alloc (.cells (news.toArray ++ Builtin.zeroCells z.cells (cap - fs.length)) e)) γ' ∧ Ext s.length w γ (w.drew.alloc (.cells (news.toArray ++ Builtin.zeroCells z.cells (cap - fs.length)) e)) γ' := by
   intro cap hge hle
   refine arr_new hS hs hn (fun γ' => Ext.drew _ w γ') rfl hfz h0 ?_ hge hle hln ?_ e
   ·simp only [Array.size_append, List.size_toArray, zeroCells_size, lnews, hzs, ← Nat.add_mul]; congr 1; omega
   ·intro j u hu
    have hj := (List.getElem?_eq_some_iff.1 hu).1
    rw [Array.getElem?_append_left (by simpa using hj)]
    simpa using hu
  rcases base with _ | a
  ·have hr := run_append_nil (P := P) w t ty e i z ht hi hz ⟨b2, off2, none⟩ fs.length cap2 news lnews hrn.add hm h63 (by omega)
   obtain ⟨γ', h1, h2, h3⟩ := key (grownCap w fs.length 0 e) (grownCap_ge w fs.length 0 e) (grownCap_le_maxLen w fs.length 0 e hmax)
   exact ⟨_, _, γ', hr, h1, h2, h3⟩
  ·have hr := run_append_grow (P := P) w t ty e i z ht hi hz a 0 0 [] (by simp) (fun j u hu => by simp at hu) ⟨b2, off2, none⟩ fs.length cap2 news lnews hrn.add (by omega) (by omega) (growslice_fits (by omega) (by rw [Nat.zero_add]; exact hb))
   simp only [Nat.zero_add, Array.empty_append] at hr
   obtain ⟨γ', h1, h2, h3⟩ := key (grownCap w fs.length 0 e) (grownCap_ge w fs.length 0 e) (grownCap_le_maxLen w fs.length 0 e hmax)
   exact ⟨_, _, γ', hr, h1, h2, h3⟩
theorem agrow_ok (hS : SR K s w γ) {d l sz : Nat} {es fs : List (List V)} {cap : Nat} {olds news : List Value} {el : TypeId} {z : Array Value}
 (hg : sget s d l = some (.arr sz es)) (hz : z.size = sz) (h0 : 0 < sz) (hcap : es.length + fs.length ≤ cap) (hmax : cap ≤ maxLen) (hpos : 0 < fs.length)
 (hfs : ∀ cs ∈ fs, cs.length = sz) (hlo : LR (d + 1) w γ es.flatten olds) (hln : LR (d + 1) w γ fs.flatten news) :
 ∃ γ', VR s.length (w.drew.alloc (.cells (olds.toArray ++ news.toArray ++ Builtin.zeroCells z (cap - (es.length + fs.length))) el)) γ' (.asl d l sz (es.length + fs.length) 0 (es.length + fs.length)) (.slice (some ⟨w.heap.size, 0, none⟩) (es.length + fs.length) cap) ∧
  SR K (sput s d l (.arr sz (es ++ fs))) (w.drew.alloc (.cells (olds.toArray ++ news.toArray ++ Builtin.zeroCells z (cap - (es.length + fs.length))) el)) γ' ∧
  Ext s.length w γ (w.drew.alloc (.cells (olds.toArray ++ news.toArray ++ Builtin.zeroCells z (cap - (es.length + fs.length))) el)) γ' := by
 obtain ⟨row, hrow⟩ : ∃ row, row = olds.toArray ++ news.toArray ++ Builtin.zeroCells z (cap - (es.length + fs.length)) := ⟨_, rfl⟩
 rw [← hrow]
 obtain ⟨blk, h1, hes, _⟩ := hS.ent d l _ hg
 have hd : d < s.length := hS.lt h1
 have lo : olds.length = es.length * sz := by rw [← hlo.1, flatten_len es hes]
 have ln : news.length = fs.length * sz := by rw [← hln.1, flatten_len fs hfs]
 have hsize : row.size = cap * sz := by
  rw [hrow]; simp only [Array.size_append, List.size_toArray, zeroCells_size, lo, ln, hz, ← Nat.add_mul]; congr 1; omega
 obtain ⟨g, hgd⟩ : ∃ g : GE, g = .arr (es.length + fs.length) (some (w.heap.size, sz, cap)) := ⟨_, rfl⟩
 have hx1 : Ext s.length w γ w (γ.set d l g) := by
  refine ⟨rfl, rfl, rfl, Nat.le_refl _, ?_, ?_, ?_, ?_, fun _ _ _ h _ => h, ?_, fun _ _ _ => rfl, fun _ => G.set_none _ _ _ _ _, fun _ _ _ _ _ => rfl⟩
  ·intro d' l' b _ h
   rw [G.set_other γ g]; exact h
   rintro ⟨rfl, rfl⟩
   rw [h1] at h; cases h
  ·intro d' l' b _ h
   rw [G.set_other γ g]; exact h
   rintro ⟨rfl, rfl⟩
   rw [h1] at h; cases h
  ·intro d' l' n' blk' _ h
   by_cases e : d' = d ∧ l' = l
   ·obtain ⟨rfl, rfl⟩ := e
    rw [h1] at h; cases h
    exact ⟨_, some (w.heap.size, sz, cap), by rw [G.set_same, hgd], .inr (by omega)⟩
   ·exact ⟨n', blk', by rw [G.set_other γ g e]; exact h, .inl ⟨rfl, rfl⟩⟩
  ·intro d' l' n' blk' _ h
   refine ⟨n', blk', ?_, .inl ⟨rfl, rfl⟩⟩
   rw [G.set_other γ g]; exact h
   rintro ⟨rfl, rfl⟩
   rw [h1] at h; cases h
  ·intro b off hlt hno ho
   rcases own_set ho with h | h
   ·rw [hgd] at h; simp [GE.owns] at h; omega
   ·exact hno h
 have hx : Ext s.length w γ (w.drew.alloc (.cells row el)) (γ.set d l g) := (hx1.trans (Ext.drew s.length w (γ.set d l g))).trans (Ext.alloc s.length w.drew (γ.set d l g) (.cells row el) (hS.frn_set _ _ _))
 have hblk : (w.drew.alloc (.cells row el)).heap[w.heap.size]? = some (.cells row el (0, 0)) := heap_alloc_new w.drew _
 have hvr : VR s.length (w.drew.alloc (.cells row el)) (γ.set d l g) (.asl d l sz (es.length + fs.length) 0 (es.length + fs.length)) (.slice (some ⟨w.heap.size, 0 * sz, none⟩) (es.length + fs.length) (cap - 0)) :=
  .asl _ _ _ _ _ _ _ _ hd (by rw [G.set_same, hgd]) (by omega) hcap
 rw [Nat.zero_mul, Nat.sub_zero] at hvr
 have hsz : ∀ cs, cs ∈ es ++ fs → cs.length = sz := fun cs h => by
  rcases List.mem_append.1 h with h | h
  ·exact hes cs h
  ·exact hfs cs h
 refine ⟨γ.set d l g, hvr, hS.step hd hx rfl ⟨some (w.heap.size, sz, cap), by rw [G.set_same, hgd, List.length_append], hsz, rfl, row, el, hblk, by rw [List.length_append]; exact hcap, hsize, h0, hmax, ?_⟩ ?_ ?_, hx⟩
 ·intro i cs j v u k1 k2 k3
  have hj : j < sz := by rw [← hsz cs (List.mem_of_getElem? k1)]; exact (List.getElem?_eq_some_iff.1 k2).1
  have hf : (es ++ fs).flatten[i * sz + j]? = some v := by rw [flatten_get _ hsz i j hj, k1]; exact k2
  have hl : LR (d + 1) w γ (es ++ fs).flatten (olds ++ news) := by rw [flatten_append']; exact hlo.append hln
  have hlt : i * sz + j < (olds ++ news).length := by rw [← hl.1]; exact (List.getElem?_eq_some_iff.1 hf).1
  have hq : row[i * sz + j]? = (olds ++ news)[i * sz + j]? := by
   rw [hrow]
   simp only [← Array.getElem?_toList, Array.toList_append]
   rw [List.getElem?_append_left hlt]
  rw [hq] at k3
  exact (hl.2 _ v u hf k3).ext (hx.mono (by omega))
 ·intro d' l' g' b _ hg' hb
  exact heap_alloc_old w.drew _ b (by simpa using hS.blk_lt hg' hb)
 ·intro b hb d' l' g' _ hg' hb'
  rw [hgd] at hb; simp [GE.blk] at hb
  have := hS.blk_lt hg' hb'
  omega
theorem aroom_ok (hS : SR K s w γ) {d l sz : Nat} {es fs : List (List V)} {b k : Nat} {c : Array Value} {el : TypeId} {news : List Value}
 (hg : sget s d l = some (.arr sz es)) (h1 : γ d l = some (.arr es.length (some (b, sz, k)))) (hc : w.heap[b]? = some (.cells c el (0, 0))) (hsize : c.size = k * sz) (h0 : 0 < sz) (hcap : es.length + fs.length ≤ k) (hmax : k ≤ maxLen) (hpos : 0 < fs.length)
 (hes : ∀ cs ∈ es, cs.length = sz) (hfs : ∀ cs ∈ fs, cs.length = sz) (hold : ∀ (i : Nat) cs (j : Nat) v u, es[i]? = some cs → cs[j]? = some v → c[i * sz + j]? = some u → VR (d + 1) w γ v u) (hln : LR (d + 1) w γ fs.flatten news) :
 ∃ γ', VR s.length (w.setRow b (c.toList.take (es.length * sz) ++ news ++ c.toList.drop (es.length * sz + news.length)).toArray) γ' (.asl d l sz (es.length + fs.length) 0 (es.length + fs.length)) (.slice (some ⟨b, 0, none⟩) (es.length + fs.length) k) ∧
  SR K (sput s d l (.arr sz (es ++ fs))) (w.setRow b (c.toList.take (es.length * sz) ++ news ++ c.toList.drop (es.length * sz + news.length)).toArray) γ' ∧
  Ext s.length w γ (w.setRow b (c.toList.take (es.length * sz) ++ news ++ c.toList.drop (es.length * sz + news.length)).toArray) γ' := by
 obtain ⟨row, hrow⟩ : ∃ row, row = c.toList.take (es.length * sz) ++ news ++ c.toList.drop (es.length * sz + news.length) := ⟨_, rfl⟩
 rw [← hrow]
 have hd : d < s.length := hS.lt h1
 have ln : news.length = fs.length * sz := by rw [← hln.1, flatten_len fs hfs]
 have hfit : es.length * sz + fs.length * sz ≤ c.size := by rw [hsize, ← Nat.add_mul]; exact Nat.mul_le_mul_right _ hcap
 have hcl : c.toList.length = c.size := Array.length_toList
 have hrs : row.toArray.size = k * sz := by
  rw [hrow]; simp only [List.size_toArray, List.length_append, List.length_take, List.length_drop, hcl, ln]; omega
 have hget : ∀ x, row.toArray[x]? = if es.length * sz ≤ x ∧ x < es.length * sz + news.length then news[x - es.length * sz]? else c[x]? := by
  intro x
  rw [hrow, List.getElem?_toArray, splice_get _ _ _ (by omega)]
  simp
 have hown : ∀ o, Own γ b o := fun o => ⟨d, l, _, h1, rfl⟩
 obtain ⟨g', hgd⟩ : ∃ g : GE, g = .arr (es.length + fs.length) (some (b, sz, k)) := ⟨_, rfl⟩
 have hx : Ext s.length w γ (w.setRow b row.toArray) (γ.set d l g') :=
  Ext.setRow s.length h1 rfl (fun b' off h => by rw [hgd] at h; simp only [GE.owns] at h ⊢; exact h) hc (fun off u hno _ => absurd (hown off) hno) ⟨0, rfl⟩ (hS.notfrn h1 rfl) (fun _ h => by cases h) (fun _ h => by cases h)
   (fun _ _ h => by cases h) (fun n' blk h => by cases h; exact ⟨_, some (b, sz, k), hgd, .inr (by omega)⟩)
 have hblk : (w.setRow b row.toArray).heap[b]? = some (.cells row.toArray el (0, 0)) := setRow_heap w b c _ el _ hc
 have hvr : VR s.length (w.setRow b row.toArray) (γ.set d l g') (.asl d l sz (es.length + fs.length) 0 (es.length + fs.length)) (.slice (some ⟨b, 0 * sz, none⟩) (es.length + fs.length) (k - 0)) :=
  .asl _ _ _ _ _ _ _ _ hd (by rw [G.set_same, hgd]) (by omega) hcap
 rw [Nat.zero_mul, Nat.sub_zero] at hvr
 have hsz : ∀ cs, cs ∈ es ++ fs → cs.length = sz := fun cs h => by
  rcases List.mem_append.1 h with h | h
  ·exact hes cs h
  ·exact hfs cs h
 refine ⟨γ.set d l g', hvr, hS.step hd hx rfl ⟨some (b, sz, k), by rw [G.set_same, hgd, List.length_append], hsz, rfl, row.toArray, el, hblk, by rw [List.length_append]; exact hcap, hrs, h0, hmax, ?_⟩ ?_ ?_, hx⟩
 ·intro i cs j v u k1 k2 k3
  have hj : j < sz := by rw [← hsz cs (List.mem_of_getElem? k1)]; exact (List.getElem?_eq_some_iff.1 k2).1
  rw [hget] at k3
  by_cases hi : i < es.length
  ·rw [List.getElem?_append_left hi] at k1
   have : i * sz + j < es.length * sz := by
    have := Nat.mul_le_mul_right sz (show i + 1 ≤ es.length by omega)
    rw [Nat.add_mul] at this; omega
   rw [if_neg (by omega)] at k3
   exact (hold i cs j v u k1 k2 k3).ext (hx.mono (by omega))
  ·rw [List.getElem?_append_right (by omega)] at k1
   have hlt : i - es.length < fs.length := (List.getElem?_eq_some_iff.1 k1).1
   have hf : fs.flatten[(i - es.length) * sz + j]? = some v := by rw [flatten_get _ hfs _ j hj, k1]; exact k2
   have e1 : i * sz + j = es.length * sz + ((i - es.length) * sz + j) := by
    rw [← Nat.add_assoc, ← Nat.add_mul]; congr 2; omega
   have hlt2 : (i - es.length) * sz + j < news.length := by rw [← hln.1]; exact (List.getElem?_eq_some_iff.1 hf).1
   rw [if_pos (by omega), show i * sz + j - es.length * sz = (i - es.length) * sz + j by omega] at k3
   exact (hln.2 _ v u hf k3).ext (hx.mono (by omega))
 ·intro d' l' g1 b1 hne hg1 hb1
  refine setRow_other w b b1 _ ?_
  rintro rfl
  exact hne (hS.inj d' l' g1 d l _ b1 hg1 h1 hb1 rfl)
 ·intro b1 hb1 d' l' g1 hne hg1 hb1'
  rw [hgd] at hb1; simp [GE.blk] at hb1; subst hb1
  exact hne (hS.inj d' l' g1 d l _ b hg1 h1 hb1' rfl)
theorem appa_ok (hS : SR K s w γ) {t e : TypeId} {i : TypeInfo} {z : Value} (ty : TypeId) (ht : P.underlying t = some (.slice e)) (hi : P.info? e = some i) (hz : i.zero = some z) (h0 : 0 < i.size) (hzs : z.cells.size = i.size)
 {d l : Nat} {es fs : List (List V)} {c' : Cap} {sz' : Nat} {ux uy : Value} (hb : (es.length + fs.length) * i.bytes ≤ 140737488355328) (hl : es.length + fs.length < 140737488355328) (hg : sget s d l = some (.arr i.size es))
 (hX : VR s.length w γ (.asl d l i.size es.length 0 es.length) ux) (hs2 : sz' = i.size ∨ fs = []) (hY : VR s.length w γ (.sl c' sz' fs) uy) {v : V} {f : Eff}
 (h : (if fs = [] then some (V.asl d l i.size es.length 0 es.length, (none : Eff)) else some (.asl d l i.size (es.length + fs.length) 0 (es.length + fs.length), some (d, l, .arr i.size (es ++ fs)))) = some (v, f)) :
 ∃ u w' γ', (Builtin.append_ #[t, t] ty #[ux, uy]).run P w = .ok u w' ∧ VR s.length w' γ' v u ∧ SR K (seff s f) w' γ' ∧ Ext s.length w γ w' γ' := by
 have hmax : es.length + fs.length ≤ maxLen := by simp only [maxLen]; omega
 have h63 : ((es.length + fs.length : Nat) : Int) ≤ 9223372036854775807 := by omega
 obtain ⟨blk, g1, hes, g2⟩ := hS.ent d l _ hg
 have hd : d < s.length := hS.lt g1
 have shX : (∃ base, ux = .slice base 0 0 ∧ es = [] ∧ blk = none) ∨ ∃ b k, ux = .slice (some ⟨b, 0, none⟩) es.length k ∧ blk = some (b, i.size, k) := by
  cases blk with
  | none =>
    subst g2
    cases hX with
    | asl _ _ _ _ _ _ b k _ hb' _ _ => rw [g1] at hb'; cases hb'
    | aslnil _ _ _ base _ hb' => exact .inl ⟨base, rfl, rfl, rfl⟩
    | aslold _ _ _ _ _ _ N blk _ _ _ _ hb' hn2 => rw [g1] at hb'; cases hb'; simp at hn2
  | some y =>
    obtain ⟨b, sz', k⟩ := y
    obtain ⟨rfl, _⟩ := g2
    generalize hn : es.length = n at *
    cases hX with
    | asl _ _ _ _ _ _ b k _ hb' _ _ =>
      rw [g1] at hb'; cases hb'
      exact .inr ⟨b, k, by simp, rfl⟩
    | aslnil _ _ _ base _ hb' => rw [g1] at hb'; cases hb'
    | aslold _ _ _ _ _ _ N blk _ _ _ _ hb' hn2 => rw [g1] at hb'; cases hb'; omega
 by_cases hfs : fs = []
 ·rw [if_pos hfs] at h; cases h
  subst hfs
  have hy : uy = .slice none 0 0 ∨ ∃ a c, uy = .slice (some a) 0 c := by
   rcases hY.sl_inv with ⟨base, cap, rfl, _, _, hb0⟩ | ⟨b, off, cap, us, rfl, _⟩
   ·cases base with
    | none => have := hb0 rfl; subst this; exact .inl rfl
    | some a => exact .inr ⟨_, _, rfl⟩
   ·exact .inr ⟨_, _, rfl⟩
  rcases shX with ⟨base, rfl, rfl, _⟩ | ⟨b, k, rfl, rfl⟩
  ·exact ⟨_, w, γ, run_append_empty (w := w) ty ht hi base 0 0 (Nat.le_refl _) (fun _ => rfl) uy hy, hX, hS, Ext.refl _ _ _⟩
  ·obtain ⟨_, c, e', h3, h4, _⟩ := g2
   exact ⟨_, w, γ, run_append_empty (w := w) ty ht hi _ _ k h4 (fun h => by cases h) uy hy, hX, hS, Ext.refl _ _ _⟩
 ·rw [if_neg hfs] at h; cases h
  have hm : 0 < fs.length := List.length_pos_iff.2 hfs
  have hs2' : sz' = i.size := hs2.resolve_right hfs
  subst hs2'
  rcases hY.sl_inv with ⟨_, _, _, e0, _⟩ | ⟨b2, off2, cap2, news, rfl, hfz, hfp, hle2, _, hln, hrn, _⟩
  ·exact absurd e0 hfs
  have lnews : news.length = fs.length * i.size := by rw [← hln.1, flatten_len fs hfz]
  have hln' : LR (d + 1) w γ fs.flatten news := ⟨hln.1, fun i v u hv hu => (hln.2 i v u hv hu).pure' _ (by
   obtain ⟨cs, hc, hv⟩ := List.mem_flatten.1 (List.mem_of_getElem? hv)
   exact (elemAll_mem (hfp cs hc) v hv).1)⟩
  rcases shX with ⟨base, rfl, rfl, rfl⟩ | ⟨b, k, rfl, rfl⟩
  ·have hge := grownCap_ge w fs.length 0 e
   have hle := grownCap_le_maxLen w fs.length 0 e (by simpa using hmax)
   obtain ⟨γ', h1, h2, h3⟩ := agrow_ok hS hg (fs := fs) (cap := grownCap w fs.length 0 e) (olds := []) (news := news) (el := e) (z := z.cells) hzs h0 (by simpa using hge) hle hm hfz LR.nil hln'
   simp only [List.length_nil, Nat.zero_add, List.nil_append, Array.empty_append] at h1 h2 h3 hb h63 ⊢
   rcases base with _ | a
   ·have hr := run_append_nil (P := P) w t ty e i z ht hi hz ⟨b2, off2, none⟩ fs.length cap2 news lnews hrn.add hm h63 (by omega)
    exact ⟨_, _, γ', hr, h1, h2, h3⟩
   ·have hr := run_append_grow (P := P) w t ty e i z ht hi hz a 0 0 [] (by simp) (fun j u hu => by simp at hu) ⟨b2, off2, none⟩ fs.length cap2 news lnews hrn.add (by omega) (by omega) (growslice_fits (by omega) (by rw [Nat.zero_add]; exact hb))
    simp only [Nat.zero_add, Array.empty_append] at hr
    exact ⟨_, _, γ', hr, h1, h2, h3⟩
  ·obtain ⟨_, c, el, h3, h4, h5, h6, h7, h8⟩ := g2
   by_cases hroom : es.length + fs.length ≤ k
   ·have hfit : es.length * i.size + news.length ≤ c.size := by rw [lnews, h5, ← Nat.add_mul]; exact Nat.mul_le_mul_right _ hroom
    have hst := run_storeCells_at P b (es.length * i.size) el news 0 c w h3 (by simpa using hfit) (hln.one (fun v hv => by
     obtain ⟨cs, hcs1, hv1⟩ := List.mem_flatten.1 hv
     exact (elemAll_mem (hfp cs hcs1) v hv1).2))
    simp only [Nat.add_zero] at hst
    have hf := run_firstCells_some (P := P) w i.size fs.length ⟨b2, off2, none⟩ fs.length cap2 news lnews hrn.add
    obtain ⟨γ', k1, k2, k3⟩ := aroom_ok hS hg g1 h3 h5 h0 hroom h7 hm hes hfz h8 hln'
    refine ⟨_, _, γ', ?_, k1, k2, k3⟩
    simp [Builtin.append_, run_underlying ht, sizeOf, typeInfo, hi, Builtin.lenOf, hroom, hf, Addr.add_lit, hst]
   ·have hlt : k < es.length + fs.length := by omega
    have hol : LR (d + 1) w γ es.flatten (c.toList.take (es.length * i.size)) := by
     have hfl := flatten_len es hes
     have hsize : es.length * i.size ≤ c.size := by rw [h5]; exact Nat.mul_le_mul_right _ h4
     refine ⟨by rw [hfl]; simp; omega, fun x v u hv hu => ?_⟩
     have hx : x < es.length * i.size := by rw [← hfl]; exact (List.getElem?_eq_some_iff.1 hv).1
     rw [List.getElem?_take, if_pos hx] at hu
     have hx' : x = x / i.size * i.size + x % i.size := by rw [Nat.mul_comm, Nat.div_add_mod]
     have hm2 := Nat.mod_lt x h6
     rw [hx'] at hv hu
     rw [flatten_get _ hes _ _ hm2] at hv
     obtain ⟨cs, q1, q2⟩ := Option.bind_eq_some_iff.1 hv
     exact h8 _ cs _ v u q1 q2 (by simpa using hu)
    have lus : (c.toList.take (es.length * i.size)).length = es.length * i.size := by rw [← hol.1, flatten_len es hes]
    have hro : RD w b 0 (c.toList.take (es.length * i.size)) := by
     intro j u hu
     rw [List.getElem?_take] at hu
     split at hu
     ·rw [Nat.zero_add, cell_of_row w b j c el (0, 0) h3]; simpa using hu
     ·cases hu
    have hr := run_append_grow (P := P) w t ty e i z ht hi hz ⟨b, 0, none⟩ es.length k _ lus hro.add ⟨b2, off2, none⟩ fs.length cap2 news lnews hrn.add hlt h63 (growslice_fits hlt hb)
    have hge := grownCap_ge w (es.length + fs.length) k e
    have hle := grownCap_le_maxLen w (es.length + fs.length) k e hmax
    obtain ⟨γ', k1, k2, k3⟩ := agrow_ok hS hg (cap := grownCap w (es.length + fs.length) k e) (el := e) (z := z.cells) hzs h0 hge hle hm hfz hol hln'
    exact ⟨_, _, γ', hr, k1, k2, k3⟩
end
end Go.Ab

/-
  'op_sound': what the evaluator says of an operation (but a call of a function), the model does.
-/
namespace Go.Ab
section
variable {K : KK} {P : Program} {s : Stk} {w : World} {γ : G} {e : Env} {a : Act}
theorem opdO_ok (hE : ER s.length w γ e a) {x : Option Operand} {y : Option Opd} (h : copdO x = some y) : OR s.length w γ (y.map (Opd.ev e)) (x.map a.eval) ∧ y.isSome = x.isSome := by
 cases x with
 | none => simp [copdO] at h; subst h; exact ⟨.inl ⟨rfl, rfl⟩, rfl⟩
 | some x =>
   simp only [copdO] at h
   obtain ⟨z, hz, rfl⟩ := Option.map_eq_some_iff.1 h
   exact ⟨.inr ⟨_, _, rfl, rfl, hE.opd hz⟩, rfl⟩
theorem lr_eval (xs : Array Operand) : (xs.map a.eval) = (xs.toList.map a.eval).toArray := by
 apply Array.ext'; simp
theorem copds_two {xs : List Operand} {x y : Opd} (h : copds xs = some [x, y]) : ∃ p q, xs = [p, q] ∧ copd p = some x ∧ copd q = some y := by
 match xs, h with
 | [], h => simp [copds] at h
 | [p], h =>
   simp only [copds] at h
   split at h
   ·rename_i a b h1 h2; simp at h2; subst h2; cases h
   ·cases h
 | p :: q :: r, h =>
   simp only [copds] at h
   split at h
   ·rename_i a b h1 h2
    cases h
    split at h2
    ·rename_i c d h3 h4
     cases h2
     cases r with
     | nil => exact ⟨p, q, rfl, h1, h3⟩
     | cons z r =>
       simp only [copds] at h4
       split at h4 <;> cases h4
    ·cases h2
   ·cases h
theorem nil_const {y : Operand} (h : copd y = some (.c (.sl .full 0 []))) : y = .const (.slice none 0 0) := by
 cases y with
 | const v =>
   simp only [copd] at h
   obtain ⟨v', h1, h2⟩ := Option.map_eq_some_iff.1 h
   cases h2
   cases v with
   | agg cs =>
     simp only [cv] at h1
     obtain ⟨l, _, h3⟩ := Option.map_eq_some_iff.1 h1
     cases h3
   | _ =>
     simp only [cv] at h1
     unfold cvs at h1
     split at h1 <;> first | (cases h1; done) | (rename_i he; cases he; rfl) | (rename_i he; first | (cases he; cases h1; done) | simp_all)
 | tmp t => simp [copd] at h
 | func f => simp [copd] at h
 | global g => simp [copd] at h
theorem run_equalIn_nil (w : World) (d : Nat) (t : TypeId) {el : TypeId} (ht : P.underlying t = some (.slice el)) (base : Option Addr) (n c : Nat) : (Op.equalIn (d + 1) t (.slice base n c) (.slice none 0 0)).run P w = .ok base.isNone w := by
 cases base <;> simp [Op.equalIn, run_underlying ht]
theorem isnil_base (hS : SR K s w γ) {x : V} {u : Value} (h : VR s.length w γ x u) {neg : Bool} {v : V} {f : Eff} {e : Env} {lab : Nat} {o : Opd} (ho : o.ev e = x) (hv : aop (.isnil neg o) lab e s = some (v, f)) :
 ∃ base n c, u = .slice base n c ∧ f = none ∧ VR s.length w γ v (.bool (if neg then !base.isNone else base.isNone)) := by
 simp only [aop, ho] at hv
 split at hv
 ·rename_i c z es
  cases hv
  rcases h.sl_inv with ⟨base, cap, rfl, rfl, _⟩ | ⟨b, off, cap, us, rfl, _⟩
  ·exact ⟨base, 0, cap, rfl, rfl, by simpa using VR.anyb _⟩
  ·refine ⟨_, _, _, rfl, rfl, ?_⟩
   split
   ·exact .anyb _
   ·cases neg <;> exact .bool _
 ·rename_i d l z q o' n
  split at hv
  ·rename_i hal
   cases hv
   obtain ⟨hd, ⟨base, rfl, rfl, rfl, rfl, _⟩ | ⟨b, c, rfl, _⟩⟩ := alive_asl hS h hal
   ·exact ⟨base, 0, 0, rfl, rfl, by simpa using VR.anyb _⟩
   ·refine ⟨_, _, _, rfl, rfl, ?_⟩
    split
    ·exact .anyb _
    ·cases neg <;> exact .bool _
  ·cases hv
 ·cases hv
theorem op_sound (hS : SR K s w γ) (hE : ER s.length w γ e a) (hs : s ≠ []) {o : Oper} {ao : AOp} (h : compOp P o = some ao) {lab : Nat} {v : V} {f : Eff} (hv : aop ao lab e s = some (v, f)) :
 OpOk K s w γ ((execOp a.eval o).run P w) v f := by
 cases hop : o.op with
 | move x =>
   simp only [compOp, hop] at h
   obtain ⟨y, hy, rfl⟩ := Option.map_eq_some_iff.1 h
   simp only [aop] at hv; cases hv
   simp only [execOp, hop, Sem.run_pure]
   exact OpOk.val hS (hE.opdT hy)
 | assign x =>
   simp only [compOp, hop] at h
   obtain ⟨y, hy, rfl⟩ := Option.map_eq_some_iff.1 h
   simp only [aop] at hv; cases hv
   simp only [execOp, hop, Sem.run_pure]
   exact OpOk.val hS (hE.opdT hy)
 | pick c x y =>
   simp only [compOp, hop] at h
   split at h
   ·rename_i c' x' y' h1 h2 h3
    cases h
    simp only [aop] at hv
    have hc := hE.opd h1
    split at hv
    ·rename_i hb; rw [hb] at hc
     cases hv
     simp only [execOp, hop, hc.bool_inv, asBool, Sem.run_bind, Sem.run_pure, Result.andThen_ok, if_true]
     exact OpOk.val hS (hE.opd h2)
    ·rename_i hb; rw [hb] at hc
     cases hv
     simp only [execOp, hop, hc.bool_inv, asBool, Sem.run_bind, Sem.run_pure, Result.andThen_ok, Bool.false_eq_true, if_false]
     exact OpOk.val hS (hE.opd h3)
    ·cases hv
   ·cases h
 | alloc t =>
   simp only [compOp, hop] at h
   obtain ⟨z, hz, rfl⟩ := Option.map_eq_some_iff.1 h
   simp only [aop] at hv
   split at hv
   ·rename_i hc
    cases hv
    obtain ⟨i, zv, hi, hz', hl, hrun⟩ := zeroT_ok hz s.length w γ
    have := alloc_ok (K := K) hS hc.2 (lab := lab) (by simpa using hc.1) hl t
    simpa [execOp, hop, Instr.alloc, hrun, newVar, newRow] using this
   ·cases hv
 | box t x =>
   simp only [compOp, hop] at h
   obtain ⟨y, hy, rfl⟩ := Option.map_eq_some_iff.1 h
   simp only [aop] at hv
   split at hv
   ·rename_i hc
    cases hv
    have := alloc_ok (K := K) hS hc.2.2 (lab := lab) (by simpa using hc.2.1) ((hE.opdT hy).cells hc.1) t
    simpa [execOp, hop, Instr.box, newVar, newRow] using this
   ·cases hv
 | build t ps =>
   simp only [compOp, hop] at h
   simp only [execOp, hop]
   exact build_ok hS hE h hv
 | buildSlice t len ps =>
   simp only [compOp, hop] at h
   simp only [execOp, hop]
   exact lit_ok hS hE h hv
 | load t x =>
   simp only [compOp, hop] at h
   split at h
   ·rename_i n y hn hy
    cases h
    simp only [execOp, hop]
    exact load_sound hS hn hv (hE.opd hy)
   ·cases h
 | store t x y =>
   simp only [compOp, hop] at h
   split at h
   ·rename_i n x' y' hn hx hy
    cases h
    simp only [execOp, hop]
    exact store_sound hS hs hn hv (hE.opd hx) (hE.opdT hy)
   ·cases h
 | nilCheck x =>
   simp only [compOp, hop] at h
   obtain ⟨y, hy, rfl⟩ := Option.map_eq_some_iff.1 h
   simp only [aop] at hv
   have hx := hE.opd hy
   simp only [execOp, hop]
   generalize y.ev e = z at hx hv
   generalize a.eval x = u at hx ⊢
   cases z <;> simp only [reduceCtorEq] at hv
   ·cases hv
    cases hx with
    | ptr _ _ _ b hd hb => exact OpOk.val hS (.ptr _ _ _ b hd hb)
   ·cases hv
    have hx' := hx
    cases hx with
    | ep _ b off _ _ _ _ => exact OpOk.val hS hx'
   ·cases hv
    have hx' := hx
    cases hx with
    | fn _ _ _ us ws _ _ _ _ => exact OpOk.val hS hx'
   ·cases hv
    cases hx with
    | yld _ _ b hd hb => exact OpOk.val hS (.yld _ _ b hd hb)
   ·split at hv
    ·rename_i ha
     cases hv
     obtain ⟨b, z', c, rfl, hb, hd⟩ := alive_eptr hS hx ha
     exact OpOk.val hS (.eptr _ _ _ _ _ b z' c hd hb)
    ·cases hv
 | binOp op t x y t2 =>
   simp only [compOp, hop] at h
   split at h
   ·rename_i x' y' hx hy
    have ux := hE.opd hx
    have uy := hE.opd hy
    simp only [execOp, hop]
    have eqa : ∀ (ks : List Bool) (neg : Bool), plainT P t = some ks → (∃ fs, P.underlying t = some (.struct fs)) → (op = if neg then .neq else .eql) → aop (.eqa ks neg x' y') lab e s = some (v, f) →
     OpOk K s w γ ((do pure (Next.value (← (do eqGuard op t x y (a.eval x) (a.eval y); Go.binOp op t (a.eval x) (a.eval y)))) : Sem Next).run P w) v f := by
     intro ks neg hk hfs hop' hv
     simp only [aop] at hv
     split at hv
     ·rename_i xs ys h1 h2
      obtain ⟨r, hr, hv⟩ := Option.map_eq_some_iff.1 hv
      cases hv
      rw [h1] at ux; rw [h2] at uy
      have := eqa_ok (P := P) hk hfs ux uy hr op (by rw [hop']; cases neg <;> simp) x y
      refine OpOk.of_run hS this ?_
      rw [hop']
      cases neg <;> exact .bool _
     ·cases hv
    have eqb : ∀ (neg : Bool), P.underlying t = some .bool → (op = if neg then .neq else .eql) → aop (.eqb neg x' y') lab e s = some (v, f) →
     OpOk K s w γ ((do pure (Next.value (← (do eqGuard op t x y (a.eval x) (a.eval y); Go.binOp op t (a.eval x) (a.eval y)))) : Sem Next).run P w) v f := by
     intro neg hk hop' hv
     simp only [aop] at hv
     split at hv
     ·rename_i p q h1 h2
      cases hv
      rw [h1] at ux; rw [h2] at uy
      rw [ux.bool_inv, uy.bool_inv, hop']
      cases neg
      ·refine OpOk.of_run hS (u := .bool (p == q)) ?_ (.bool _)
       simp [eqGuard, Go.binOp, Op.equal, Op.maxDepth, run_equalIn_bool' w _ t p q hk]
      ·refine OpOk.of_run hS (u := .bool (!(p == q))) ?_ (.bool _)
       simp [eqGuard, Go.binOp, Op.equal, Op.maxDepth, run_equalIn_bool' w _ t p q hk]
     ·cases hv
    have ints : aop (.bin op x' y') lab e s = some (v, f) →
     OpOk K s w γ ((do pure (Next.value (← (do eqGuard op t x y (a.eval x) (a.eval y); Go.binOp op t (a.eval x) (a.eval y)))) : Sem Next).run P w) v f := by
     intro hv
     simp only [aop] at hv
     obtain ⟨v', h1, hv⟩ := Option.map_eq_some_iff.1 hv
     cases hv
     obtain ⟨u, h2, h3⟩ := bin_run (P := P) (t := t) ux uy h1 x y
     exact OpOk.of_run hS h2 h3
    split at h
    ·rename_i fs hu
     obtain ⟨ks, hk, rfl⟩ := Option.map_eq_some_iff.1 h
     exact eqa ks false hk ⟨fs, hu⟩ rfl hv
    ·rename_i fs hu
     obtain ⟨ks, hk, rfl⟩ := Option.map_eq_some_iff.1 h
     exact eqa ks true hk ⟨fs, hu⟩ rfl hv
    ·cases h; exact ints hv
    ·rename_i el hu
     split at h
     ·cases h
      obtain ⟨base, n, c, h1, rfl, h2⟩ := isnil_base hS ux rfl hv
      have hev : a.eval (.const (.slice none 0 0)) = .slice none 0 0 := rfl
      rw [nil_const hy, h1, hev]
      refine OpOk.of_run hS ?_ h2
      simp [eqGuard, Go.binOp, Op.equal, Op.maxDepth, run_equalIn_nil w _ t hu]
     ·cases h
    ·rename_i el hu
     split at h
     ·cases h
      obtain ⟨base, n, c, h1, rfl, h2⟩ := isnil_base hS ux rfl hv
      have hev : a.eval (.const (.slice none 0 0)) = .slice none 0 0 := rfl
      rw [nil_const hy, h1, hev]
      refine OpOk.of_run hS ?_ h2
      simp [eqGuard, Go.binOp, Op.equal, Op.maxDepth, run_equalIn_nil w _ t hu]
     ·cases h
    ·rename_i hu
     cases h
     exact eqb false hu rfl hv
    ·rename_i hu
     cases h
     exact eqb true hu rfl hv
    ·cases h
   ·cases h
 | unOp op t x =>
   simp only [compOp, hop] at h
   obtain ⟨y, hy, rfl⟩ := Option.map_eq_some_iff.1 h
   simp only [aop] at hv
   obtain ⟨v', h1, hv⟩ := Option.map_eq_some_iff.1 hv
   cases hv
   obtain ⟨u, h2, h3⟩ := un_run (P := P) (hE.opd hy) h1
   simp only [execOp, hop]
   exact OpOk.of_run hS h2 h3
 | convert src dst x =>
   simp only [compOp, hop] at h
   split at h
   ·rename_i k1 k2 y h1 h2 hy
    cases h
    simp only [aop] at hv
    have hx := hE.opd hy
    split at hv
    ·rename_i k n he
     cases hv
     rw [he] at hx
     simp only [execOp, hop, hx.int_inv]
     refine OpOk.of_run hS (u := .int k2 (k2.wrap n)) ?_ (.int _ _)
     simp [convert, run_underlying h1, run_underlying h2, Conv.intToInt]
    ·cases hv
   ·cases h
 | makeFunc fn first cap =>
   cases fn with
   | func g =>
     simp only [compOp, hop] at h
     split at h
     ·rename_i x y hx hy
      cases h
      simp only [aop] at hv; cases hv
      simp only [execOp, hop]
      refine OpOk.of_run hS (u := .func (.func g) (first.map a.eval) (cap.map a.eval)) rfl ?_
      rw [lr_eval first, lr_eval cap]
      exact VR.fn_mk (hE.opds hx) (hE.opds hy)
     ·cases h
   | _ => simp [compOp, hop] at h
 | slice t x lo hi mx =>
   simp only [compOp, hop] at h
   split at h
   ·rename_i el ht
    split at h
    ·rename_i x' lo' hi' mx' z hx hlo hhi hmx hz
     split at h
     ·cases h
     ·rename_i hnb
      cases h
      simp only [aop] at hv
      split at hv
      ·rename_i c z1 es he
       split at hv
       ·rename_i hzc
        split at hv
        ·cases hv
        ·rename_i h' h1
         split at hv
         ·cases hv
         ·rename_i c' h2
          split at hv
          ·cases hv
          ·rename_i l' h3
           cases hv
           have ux := hE.opd hx
           rw [he] at ux
           simp only [execOp, hop]
           refine slice_sound hS ht hz ux (opdO_ok hE hlo).1 (opdO_ok hE hhi).1 (opdO_ok hE hmx).1 hzc h1 h2 h3 ?_
           intro hm
           have e1 := (opdO_ok hE hhi).2
           have e2 := (opdO_ok hE hmx).2
           cases mx' <;> cases hi' <;> simp_all
       ·cases hv
      ·rename_i d k z1 q o len he
       split at hv
       ·rename_i hc
        obtain ⟨ha, rfl, hmn⟩ := hc
        split at hv
        ·cases hv
        ·rename_i h' h1
         split at hv
         ·cases hv
         ·rename_i l' h3
          split at hv
          ·rename_i hlt
           cases hv
           have ux := hE.opd hx
           rw [he] at ux
           simp only [execOp, hop]
           refine aslice_sound hS ht hz ux ha (opdO_ok hE hlo).1 (opdO_ok hE hhi).1 ?_ h1 h3 hlt
           have e2 := (opdO_ok hE hmx).2
           cases mx' <;> simp_all
          ·cases hv
       ·cases hv
      ·cases hv
    ·cases h
   ·cases h
 | fieldAddr t x fl =>
   simp only [compOp, hop] at h
   split at h
   ·rename_i fs ht
    split at h
    ·rename_i fd y hf hy
     split at h
     ·rename_i n hn
      split at h
      ·cases h
      ·rename_i hn0
       cases h
       simp only [aop] at hv
       have hx := hE.opd hy
       have hrun : ∀ (b off : Nat), (Instr.fieldAt t (.pointer (some ⟨b, off, none⟩)) fl).run P w = .ok (.pointer (some ⟨b, off + fd.offset, none⟩)) w := by
        intro b off
        simp [Instr.fieldAt, run_underlying ht, hf, Instr.sureAddr, fieldPlace, run_sizeOf' hn, hn0, Addr.add_lit]
       simp only [execOp, hop]
       generalize a.eval x = ux at hx ⊢
       split at hv
       ·rename_i d l off he
        cases hv
        rw [he] at hx
        cases hx with
        | ptr _ _ _ b hd hb => exact OpOk.of_run hS (hrun b off) (.ptr _ _ _ b hd hb)
       ·rename_i cs he
        cases hv
        rw [he] at hx
        have hx' := hx
        cases hx with
        | ep _ b off _ _ _ _ => exact OpOk.of_run hS (hrun b off) (ep_drop hx' _)
       ·rename_i d l q i j he
        split at hv
        ·rename_i ha
         cases hv
         rw [he] at hx
         obtain ⟨b, sz, k, rfl, hb, hd⟩ := alive_eptr hS hx ha
         have := VR.eptr (D := s.length) (w := w) d l q i (j + fd.offset) b sz k hd hb
         rw [← Nat.add_assoc] at this
         exact OpOk.of_run hS (hrun b (i * sz + j)) this
        ·cases hv
       ·cases hv
     ·cases h
    ·cases h
   ·cases h
 | field t x fl =>
   simp only [compOp, hop] at h
   split at h
   ·rename_i fs ht
    split at h
    ·rename_i fd y hf hy
     obtain ⟨n, hn, rfl⟩ := Option.map_eq_some_iff.1 h
     simp only [aop] at hv
     have hx := hE.opd hy
     split at hv
     ·rename_i cs he
      obtain ⟨v', hp, hv⟩ := Option.map_eq_some_iff.1 hv
      cases hv
      rw [he] at hx
      obtain ⟨us, hu, hl⟩ := hx.agg_inv
      obtain ⟨u, h1, h2⟩ := part_ok (P := P) (w := w) hn hl hp
      simp only [execOp, hop, hu]
      refine OpOk.of_run hS ?_ h2
      simp [Instr.field, run_underlying ht, hf, asAgg]
      simpa using h1
     ·cases hv
    ·cases h
   ·cases h
 | indexAddr t x i =>
   simp only [compOp, hop] at h
   split at h
   ·rename_i el x' i' ht hx hi
    split at h
    ·rename_i n hn
     split at h
     ·cases h
     ·rename_i hn0
      cases h
      simp only [aop] at hv
      have ux := hE.opd hx
      have ui := hE.opd hi
      split at hv
      ·rename_i c z es k he hk
       split at hv
       ·rename_i hc
        split at hv
        ·rename_i cs hcs
         cases hv
         obtain ⟨hk0, rfl⟩ := hc
         rw [he] at ux
         obtain ⟨kk, hik⟩ := idx_inv ui hk
         obtain ⟨b, off, cap, hu, hlt, hep⟩ := sl_at ux hcs
         simp only [execOp, hop, hu, hik]
         refine OpOk.of_run hS ?_ hep
         have hlt' : k < (es.length : Int) := by omega
         simp [Instr.indexAt, run_underlying ht, asIntOf, run_sizeOf' hn, hk0, hlt', Addr.add_lit]
        ·cases hv
       ·cases hv
      ·rename_i d l z q o len k he hk
       split at hv
       ·rename_i hc
        cases hv
        obtain ⟨hk0, hk1, rfl, ha⟩ := hc
        rw [he] at ux
        obtain ⟨kk, hik⟩ := idx_inv ui hk
        generalize hux : a.eval x = u at ux
        obtain ⟨hd, ⟨base, _, rfl, rfl, rfl, _⟩ | ⟨b, c, rfl, hb, hle, hkc⟩⟩ := alive_asl hS ux ha
        ·omega
        simp only [execOp, hop, hux, hik]
        have := VR.eptr (D := s.length) (w := w) d l q (o + k.toNat) 0 b z _ hd hb
        refine OpOk.of_run hS ?_ this
        simp [Instr.indexAt, run_underlying ht, asIntOf, run_sizeOf' hn, hk0, hk1, Addr.add_lit, Nat.add_mul]
       ·cases hv
      ·cases hv
    ·cases h
   ·rename_i len el x' i' ht hx hi
    split at h
    ·rename_i n hn
     split at h
     ·cases h
     ·rename_i hn0
      cases h
      simp only [aop] at hv
      have ux := hE.opd hx
      have ui := hE.opd hi
      have hrun : ∀ (b off : Nat) (kk : IntKind) (k : Int), 0 ≤ k → k < len → (Instr.indexAt t (.pointer (some ⟨b, off, none⟩)) (.int kk k)).run P w = .ok (.pointer (some ⟨b, off + k.toNat * n, none⟩)) w := by
       intro b off kk k h0 h1
       simp [Instr.indexAt, run_underlying ht, asIntOf, Instr.sureAddr, run_sizeOf' hn, h0, h1, Addr.add_lit]
      split at hv
      ·rename_i d l off k he hk
       split at hv
       ·rename_i hc
        cases hv
        rw [he] at ux
        obtain ⟨kk, hik⟩ := idx_inv ui hk
        cases hux : a.eval x with
        | pointer p =>
          rw [hux] at ux
          cases ux with
          | ptr _ _ _ b hd hb =>
            simp only [execOp, hop, hux, hik]
            exact OpOk.of_run hS (hrun b off kk k hc.1 hc.2) (.ptr _ _ _ b hd hb)
        | _ => rw [hux] at ux; cases ux
       ·cases hv
      ·rename_i cs k he hk
       split at hv
       ·rename_i hc
        cases hv
        rw [he] at ux
        obtain ⟨kk, hik⟩ := idx_inv ui hk
        obtain ⟨b, off, us, hux, _⟩ := ux.ep_inv
        rw [hux] at ux
        simp only [execOp, hop, hux, hik]
        exact OpOk.of_run hS (hrun b off kk k hc.1 hc.2) (ep_drop ux _)
       ·cases hv
      ·rename_i d l q k0 j k he hk
       split at hv
       ·rename_i hc
        cases hv
        rw [he] at ux
        obtain ⟨kk, hik⟩ := idx_inv ui hk
        generalize hux : a.eval x = u at ux
        obtain ⟨b, sz, k', rfl, hb, hd⟩ := alive_eptr hS ux hc.2
        simp only [execOp, hop, hux, hik]
        have := VR.eptr (D := s.length) (w := w) d l q k0 (j + k.toNat * n) b sz k' hd hb
        rw [← Nat.add_assoc] at this
        exact OpOk.of_run hS (hrun b _ kk k hc.1.1 hc.1.2) this
       ·cases hv
      ·cases hv
    ·cases h
   ·cases h
 | index t x i =>
   simp only [compOp, hop] at h
   split at h
   ·rename_i ht
    split at h
    ·rename_i bs i' hi
     cases h
     simp only [aop] at hv
     have ui := hE.opd hi
     split at hv
     ·rename_i k hk
      split at hv
      ·rename_i h0
       split at hv
       ·rename_i b hb
        cases hv
        obtain ⟨kk, hik⟩ := idx_inv ui hk
        rw [List.getElem?_map] at hb
        obtain ⟨b', hb', rfl⟩ := Option.map_eq_some_iff.1 hb
        simp only [execOp, hop, hik]
        refine OpOk.of_run hS (u := .int .u8 b'.toNat) ?_ (.int _ _)
        have hev : a.eval (.const (.string bs)) = .string bs := rfl
        have hg : bs[k.toNat]? = some b' := by
         have h1 : bs.data[k.toNat]? = some b' := by simpa using hb'
         obtain ⟨hlt, h2⟩ := Array.getElem?_eq_some_iff.1 h1
         have hlt' : k.toNat < bs.size := hlt
         rw [getElem?_pos bs k.toNat hlt']
         exact congrArg some h2
        simp [hev, Instr.index, run_underlying ht, asIntOf, h0, hg]
       ·cases hv
      ·cases hv
     ·cases hv
    ·cases h
   split at h
   ·rename_i len el x' i' ht hx hi
    split at h
    ·rename_i n m hn hm
     split at h
     ·cases h
     ·rename_i hn0
      cases h
      simp only [aop] at hv
      have ux := hE.opd hx
      have ui := hE.opd hi
      split at hv
      ·rename_i cs k he hk
       split at hv
       ·rename_i hc
        obtain ⟨v', hp, hv⟩ := Option.map_eq_some_iff.1 hv
        cases hv
        rw [he] at ux
        obtain ⟨kk, hik⟩ := idx_inv ui hk
        obtain ⟨us, hux, hl⟩ := ux.agg_inv
        obtain ⟨u, h1, h2⟩ := part_ok (P := P) (w := w) hm hl hp
        simp only [execOp, hop, hux, hik]
        refine OpOk.of_run hS ?_ h2
        simp [Instr.index, run_underlying ht, asIntOf, run_sizeOf' hn, hc.1, hc.2]
        simpa using h1
       ·cases hv
      ·cases hv
    ·cases h
   ·cases h
 | extract x i =>
   simp only [compOp, hop] at h
   obtain ⟨y, hy, rfl⟩ := Option.map_eq_some_iff.1 h
   simp only [aop] at hv
   have hx := hE.opd hy
   split at hv
   ·rename_i vs he
    obtain ⟨x', hp, hv⟩ := Option.map_eq_some_iff.1 hv
    cases hv
    rw [he] at hx
    obtain ⟨us, hu, hl⟩ := hx.tup_inv
    have hlt : i < us.size := by have := (List.getElem?_eq_some_iff.1 hp).1; rw [hl.1] at this; simpa using this
    simp only [execOp, hop, hu]
    refine OpOk.of_run hS (u := us[i]) ?_ (hl.2 i _ us[i] hp (by simp [hlt]))
    simp [Instr.extract, hlt]
   ·cases hv
 | makeSlice t l c =>
   simp only [compOp, hop] at h
   split at h
   ·rename_i el ht
    split at h
    ·rename_i z i l' c' hz hi hl hc
     split at h
     ·rename_i hcond
      cases h
      simp only [aop] at hv
      split at hv
      ·rename_i n k h1 h2
       split at hv
       ·rename_i hq
        cases hv
        obtain ⟨q1, q2, q3, q4, q5, q6⟩ := hq
        subst q2
        obtain ⟨k1, e1⟩ := idx_inv (hE.opd hl) h1
        obtain ⟨k2, e2⟩ := idx_inv (hE.opd hc) h2
        obtain ⟨u, w', γ', r1, r2, r3, r4⟩ := mksl_ok (K := K) hS q6 (lab := lab) (by simpa using q5) ht hz hi hcond.1 hcond.2 q1 q3 q4 k1 k2
        refine ⟨u, w', γ', .inl ?_, r2, r3, r4⟩
        simp [execOp, hop, e1, e2, r1]
       ·cases hv
      ·cases hv
     ·cases h
    ·cases h
   ·cases h
 | call c =>
   obtain ⟨callee, args, argTypes⟩ := c
   have arr : ∀ {α : Type} {xs : Array α} {l : List α}, xs.toList = l → xs = l.toArray := fun h => by rw [← h]
   cases callee with
   | value g =>
     exfalso
     cases g with
     | func f =>
       simp only [compOp, hop] at h
       obtain ⟨y, hy, rfl⟩ := Option.map_eq_some_iff.1 h
       cases hv
     | tmp t =>
       simp only [compOp, hop] at h
       split at h
       ·cases h; cases hv
       ·cases h
     | const c =>
       simp only [compOp, hop] at h
       split at h
       ·cases h; cases hv
       ·cases h
     | global g =>
       simp only [compOp, hop] at h
       split at h
       ·cases h; cases hv
       ·cases h
   | invoke r m => simp [compOp, hop] at h
   | builtin b =>
     cases b with
     | len =>
       simp only [compOp, hop] at h
       split at h
       ·rename_i t x ha hb
        have ea := arr ha
        have eb := arr hb
        subst ea; subst eb
        split at h
        ·rename_i el y ht hy
         cases h
         simp only [aop] at hv
         have hx := hE.opd hy
         split at hv
         ·rename_i c z es he
          cases hv
          rw [he] at hx
          rcases hx.sl_inv with ⟨base, cap, hu, rfl, _⟩ | ⟨b, off, cap, us, hu, _⟩
          ·refine ⟨.int .i64 0, w, γ, .inl ?_, .int _ _, hS, Ext.refl _ _ _⟩
           simp [execOp, hop, resolve, invoke, builtin, Builtin.len_, run_underlying ht, hu, goInt]
          ·refine ⟨.int .i64 es.length, w, γ, .inl ?_, .int _ _, hS, Ext.refl _ _ _⟩
           simp [execOp, hop, resolve, invoke, builtin, Builtin.len_, run_underlying ht, hu, goInt]
         ·rename_i d l z q o n he
          split at hv
          ·rename_i hal
           cases hv
           rw [he] at hx
           generalize hux : a.eval x = u at hx
           obtain ⟨hd, ⟨base, rfl, rfl, rfl, rfl, _⟩ | ⟨b, c, rfl, _⟩⟩ := alive_asl hS hx hal
           ·refine ⟨.int .i64 0, w, γ, .inl ?_, .int _ _, hS, Ext.refl _ _ _⟩
            simp [execOp, hop, resolve, invoke, builtin, Builtin.len_, run_underlying ht, hux, goInt]
           ·refine ⟨.int .i64 n, w, γ, .inl ?_, .int _ _, hS, Ext.refl _ _ _⟩
            simp [execOp, hop, resolve, invoke, builtin, Builtin.len_, run_underlying ht, hux, goInt]
          ·cases hv
         ·cases hv
        ·rename_i n el y ht hy
         cases h
         simp only [aop, Opd.ev] at hv; cases hv
         refine ⟨.int .i64 n, w, γ, .inl ?_, .int _ _, hS, Ext.refl _ _ _⟩
         simp [execOp, hop, resolve, invoke, builtin, Builtin.len_, run_underlying ht, goInt]
        ·cases h
       ·cases h
     | append =>
       simp only [compOp, hop] at h
       split at h
       ·rename_i t u x y ha hb
        have ea := arr ha
        have eb := arr hb
        subst ea; subst eb
        split at h
        ·rename_i el el' x' y' ht hu hx hy
         split at h
         ·rename_i i hi
          split at h
          ·rename_i z hz
           split at h
           ·rename_i hc
            obtain ⟨h0, hzs, rfl⟩ := hc
            cases h
            simp only [aop] at hv
            have ux := hE.opd hx
            have uy := hE.opd hy
            split at hv
            ·rename_i c z1 es c2 z2 fs hex hey
             split at hv
             ·rename_i hc2
              rw [hex] at ux; rw [hey] at uy
              obtain ⟨u, w', γ', h1, h2, h3, h4⟩ := append_ok (P := P) hS o.type ht hi hz h0 hzs hc2.2.2.1 hc2.2.2.2 hc2.1 hc2.2.1 hv ux uy
              refine ⟨u, w', γ', .inl ?_, h2, h3, h4⟩
              simp [execOp, hop, resolve, invoke, builtin, h1]
             ·cases hv
            ·rename_i d l z1 q o k c2 z2 fs hex hey
             split at hv
             ·rename_i z3 es hg
              split at hv
              ·rename_i hc2
               obtain ⟨q1, q2, rfl, rfl, rfl, rfl, rfl, q3⟩ := hc2
               rw [hex] at ux; rw [hey] at uy
               obtain ⟨u, w', γ', h1, h2, h3, h4⟩ := appa_ok (P := P) hS o.type ht hi hz h0 hzs q1 q2 hg ux q3 uy hv
               refine ⟨u, w', γ', .inl ?_, h2, h3, h4⟩
               simp [execOp, hop, resolve, invoke, builtin, h1]
              ·cases hv
             ·cases hv
            ·cases hv
           ·cases h
          ·cases h
         ·cases h
        ·cases h
       ·cases h
     | clear =>
       simp only [compOp, hop] at h
       split at h
       ·rename_i t x ha hb
        have ea := arr ha
        have eb := arr hb
        subst ea; subst eb
        split at h
        ·rename_i el x' ht hx
         split at h
         ·rename_i z n hz hn
          split at h
          ·rename_i hc
           cases h
           obtain ⟨hz0, rfl⟩ := hc
           simp only [aop] at hv
           have ux := hE.opd hx
           split at hv
           ·rename_i c z1 es he
            split at hv
            ·rename_i h0
             subst h0
             cases hv
             rw [he] at ux
             rcases ux.sl_inv with ⟨base, cap, hu, _, _⟩ | ⟨b, off, cap, us, hu, _⟩
             ·refine ⟨.tuple #[], w, γ, .inl ?_, .undef _, hS, Ext.refl _ _ _⟩
              cases base <;> simp [execOp, hop, resolve, invoke, builtin, Builtin.clear_, run_underlying ht, hu]
             ·refine ⟨.tuple #[], w, γ, .inl ?_, .undef _, hS, Ext.refl _ _ _⟩
              simp [execOp, hop, resolve, invoke, builtin, Builtin.clear_, run_underlying ht, hu]
            ·cases hv
           ·rename_i d l sz q o n he
            rw [he] at ux
            split at hv
            ·rename_i z0 es hg
             split at hv
             ·rename_i hc2
              obtain ⟨rfl, hle, rfl, hzl, hp, ho⟩ := hc2
              have hal : aliveE es.length (sget s d l) = true := by rw [hg]; simp [aliveE]
              obtain ⟨hd, hcase⟩ := alive_asl hS ux hal
              split at hv
              ·rename_i hn0
               subst hn0
               cases hv
               rcases hcase with ⟨base, hu, _⟩ | ⟨b, c, hu, _⟩
               ·refine ⟨.tuple #[], w, γ, .inl ?_, .undef _, hS, Ext.refl _ _ _⟩
                cases base <;> simp [execOp, hop, resolve, invoke, builtin, Builtin.clear_, run_underlying ht, hu]
               ·refine ⟨.tuple #[], w, γ, .inl ?_, .undef _, hS, Ext.refl _ _ _⟩
                simp [execOp, hop, resolve, invoke, builtin, Builtin.clear_, run_underlying ht, hu]
              ·rename_i hn0
               cases hv
               rcases hcase with ⟨base, hu, _, _, h3, _⟩ | ⟨b, c, hu, hb, _, _⟩
               ·exact absurd h3 hn0
               ·obtain ⟨i, zv, hi, hz', hl, hzr⟩ := zeroT_ok hz (d + 1) w γ
                have hzs : zv.cells.size = z.length := by simpa using hl.1.symm
                obtain ⟨w', r1, r2, r3⟩ := store_run_ok (P := P) hS hg hb (o := o) (fs := List.replicate n z) (us := (Builtin.zeroCells zv.cells n).toList) (fun cs hcs => by rw [(List.mem_replicate.1 hcs).2]; exact hzl)
                 (by
                   refine ⟨by simp [zeroCells_size, hzs], fun j v u h1 h2 => ?_⟩
                   have hj : j < n * z.length := by have := (List.getElem?_eq_some_iff.1 h1).1; simpa using this
                   rw [replicate_flatten_get _ _ _ hj] at h1
                   have hm : j % zv.cells.size < zv.cells.size := Nat.mod_lt _ (by omega)
                   have hj2 : j < n * zv.cells.size := by rw [hzs]; exact hj
                   simp only [Builtin.zeroCells, Array.toList_map, List.getElem?_map, Array.toList_range, List.getElem?_range hj2, Option.map_some, Option.some.injEq] at h2
                   rw [getElem!_pos zv.cells _ hm] at h2
                   subst h2
                   exact hl.2 (j % z.length) v _ h1 (by rw [← hzs]; simp [hm])) (by
                   have : ∀ m, V.oneAll (List.replicate m z).flatten = true := by
                    intro m
                    induction m with
                    | zero => rfl
                    | succ m ih =>
                      rw [List.replicate_succ, List.flatten_cons]
                      have app : ∀ (a b : List V), V.oneAll a = true → V.oneAll b = true → V.oneAll (a ++ b) = true := by
                       intro a
                       induction a with
                       | nil => intro b _ h; exact h
                       | cons x a iha => intro b h1 h2; simp only [V.oneAll, Bool.and_eq_true, List.cons_append] at h1 ⊢; exact ⟨h1.1, iha b h1.2 h2⟩
                      exact app _ _ ho ih
                   exact this n) (by simpa using hle)
                rw [List.length_replicate] at r2
                refine ⟨.tuple #[], w', γ, .inl ?_, .undef _, r2, r3⟩
                obtain ⟨m, rfl⟩ : ∃ m, n = m + 1 := ⟨n - 1, by omega⟩
                simp [execOp, hop, resolve, invoke, builtin, Builtin.clear_, run_underlying ht, hu, hzr, r1]
             ·cases hv
            ·cases hv
           ·cases hv
          ·cases h
         ·cases h
        ·cases h
       ·cases h
     | max =>
       simp only [compOp, hop] at h
       split at h
       ·rename_i x y hc
        cases h
        obtain ⟨p, q, hl, hp, hq⟩ := copds_two hc
        have eb := arr hl
        subst eb
        simp only [aop] at hv
        have ux := hE.opd hp
        have uy := hE.opd hq
        split at hv
        ·rename_i k a1 k' b1 h1 h2
         split at hv
         ·rename_i hk
          cases hv
          subst hk
          rw [h1] at ux; rw [h2] at uy
          refine ⟨.int k (if b1 > a1 then b1 else a1), w, γ, .inl ?_, .int _ _, hS, Ext.refl _ _ _⟩
          simp [execOp, hop, resolve, invoke, builtin, ux.int_inv, uy.int_inv, Builtin.max_, Builtin.max2]
         ·cases hv
        ·cases hv
       ·cases h
     | min =>
       simp only [compOp, hop] at h
       split at h
       ·rename_i x y hc
        cases h
        obtain ⟨p, q, hl, hp, hq⟩ := copds_two hc
        have eb := arr hl
        subst eb
        simp only [aop] at hv
        have ux := hE.opd hp
        have uy := hE.opd hq
        split at hv
        ·rename_i k a1 k' b1 h1 h2
         split at hv
         ·rename_i hk
          cases hv
          subst hk
          rw [h1] at ux; rw [h2] at uy
          refine ⟨.int k (if b1 < a1 then b1 else a1), w, γ, .inl ?_, .int _ _, hS, Ext.refl _ _ _⟩
          simp [execOp, hop, resolve, invoke, builtin, ux.int_inv, uy.int_inv, Builtin.min_, Builtin.min2]
         ·cases hv
        ·cases hv
       ·cases h
     | _ => simp [compOp, hop] at h
 | _ => simp [compOp, hop] at h
theorem arr_read (hS : SR K s w γ) {d l : Nat} {u : Value} {z q f n : Nat} (h : VR s.length w γ (.asl d l z q f n) u) {z' : Nat} {es : List (List V)} (hg : sget s d l = some (.arr z' es)) (hq : q = es.length) (hn : f + n ≤ es.length) :
 ((u = .slice none 0 0 ∨ ∃ a c, u = .slice (some a) 0 c) ∧ ((es.map V.stripAll).drop f).take n = []) ∨
 ∃ b off cap us, u = .slice (some ⟨b, off, none⟩) (((es.map V.stripAll).drop f).take n).length cap ∧ (∀ cs, cs ∈ ((es.map V.stripAll).drop f).take n → cs.length = z) ∧ LR s.length w γ (((es.map V.stripAll).drop f).take n).flatten us ∧ RD w b off us ∧
  (∀ k, γ d l = some (.arr q (some (b, z, k))) → off = f * z ∧ cap = k - f) ∧ ∃ k, γ d l = some (.arr q (some (b, z, k))) := by
 obtain ⟨blk, h1, h0, h2⟩ := hS.ent d l _ hg
 have hal : aliveE q (sget s d l) = true := by rw [hg]; simp [aliveE, hq]
 rcases alive_asl hS h hal with ⟨hd, ⟨base, rfl, _, rfl, rfl, _⟩ | ⟨b, k, rfl, hb, hle, hk⟩⟩
 ·refine .inl ⟨?_, by simp⟩
  cases base with
  | none => exact .inl rfl
  | some a => exact .inr ⟨_, _, rfl⟩
 ·rw [hb, hq] at h1; cases h1
  obtain ⟨rfl, c, e, h3, h4, h5, h6, h7, h8⟩ := h2
  have hsl : ∀ (vs : List V), (V.stripAll vs).length = vs.length := by
   intro vs
   induction vs with
   | nil => rfl
   | cons x r ih => simp [V.stripAll, ih]
  have hz : ∀ cs, cs ∈ ((es.map V.stripAll).drop f).take n → cs.length = z := by
   intro cs hc
   obtain ⟨x, hx, rfl⟩ := List.mem_map.1 (List.mem_of_mem_drop (List.mem_of_mem_take hc))
   rw [hsl]; exact h0 x hx
  have hlen : (((es.map V.stripAll).drop f).take n).length = n := by simp; omega
  have hfl := flatten_len _ hz
  rw [hlen] at hfl
  have hsize : f * z + n * z ≤ c.size := by rw [h5, ← Nat.add_mul]; exact Nat.mul_le_mul_right _ (by omega)
  refine .inr ⟨b, f * z, k - f, (c.toList.drop (f * z)).take (n * z), by rw [hlen], hz, ⟨by rw [hfl]; simp; omega, fun x v u hv hu => ?_⟩, ?_, fun k' hk' => ?_, k, hb⟩
  ·have hx : x < n * z := by rw [← hfl]; exact (List.getElem?_eq_some_iff.1 hv).1
   rw [List.getElem?_take, if_pos hx, List.getElem?_drop] at hu
   have hx' : x = x / z * z + x % z := by rw [Nat.mul_comm, Nat.div_add_mod]
   have hm := Nat.mod_lt x h6
   rw [hx'] at hv hu
   rw [flatten_get _ hz _ _ hm] at hv
   obtain ⟨cs, k1, k2⟩ := Option.bind_eq_some_iff.1 hv
   rw [List.getElem?_take] at k1
   split at k1
   ·rw [List.getElem?_drop, List.getElem?_map] at k1
    obtain ⟨cs0, k3, rfl⟩ := Option.map_eq_some_iff.1 k1
    have hl0 : LR (d + 1) w γ cs0 ((c.toList.drop ((f + x / z) * z)).take z) := by
     have hlt : f + x / z < es.length := (List.getElem?_eq_some_iff.1 k3).1
     have hfit : (f + x / z) * z + z ≤ c.size := by
      rw [h5]
      calc (f + x / z) * z + z = (f + x / z + 1) * z := by rw [Nat.add_mul (f + x / z)]; omega
       _ ≤ k * z := Nat.mul_le_mul_right _ (by omega)
     refine ⟨by rw [h0 cs0 (List.mem_of_getElem? k3)]; simp; omega, fun j v u hv hu => ?_⟩
     rw [List.getElem?_take] at hu
     split at hu
     ·rw [List.getElem?_drop] at hu
      exact h8 _ cs0 j v u k3 hv (by simpa using hu)
     ·cases hu
    have hl1 := (LR.strip' _ _ hl0).mono (show d + 1 ≤ s.length by omega)
    refine hl1.2 (x % z) v u k2 ?_
    rw [List.getElem?_take, if_pos hm, List.getElem?_drop, Nat.add_mul, Nat.add_assoc]
    exact hu
   ·cases k1
  ·intro j u hu
   rw [List.getElem?_take] at hu
   split at hu
   ·rw [List.getElem?_drop] at hu
    rw [cell_of_row w b (f * z + j) c e (0, 0) h3]
    simpa using hu
   ·cases hu
  ·rw [hb] at hk'; cases hk'; exact ⟨rfl, rfl⟩
theorem op_soundM (hS : SR K s w γ) (hE : ER s.length w γ e a) (hs : s ≠ []) {o : Oper} {m : Bool} {ao : AOp} (h : compOpM P m o = some ao) {lab : Nat} {v : V} {f : Eff} (hv : aop ao lab e s = some (v, f)) :
 OpOk K s w γ ((execOp a.eval o).run P w) v f := by
 unfold compOpM at h
 split at h
 ·obtain ⟨ao0, h0, h2⟩ := Option.map_eq_some_iff.1 h
  clear h
  have h := h0
  clear h0
  subst h2
  cases ao0 with
  | app esz bytes x0 y0 =>
    simp only [AOp.mut] at hv
    cases hop : o.op with
    | call c =>
      obtain ⟨callee, args, argTypes⟩ := c
      have arr : ∀ {α : Type} {xs : Array α} {l : List α}, xs.toList = l → xs = l.toArray := fun h => by rw [← h]
      cases callee with
      | builtin b =>
        cases b with
        | append =>
          simp only [compOp, hop] at h
          split at h
          ·rename_i t u x y ha hb
           have ea := arr ha
           have eb := arr hb
           subst ea; subst eb
           split at h
           ·rename_i el el' x' y' ht hu hx hy
            split at h
            ·rename_i i hi
             split at h
             ·rename_i z hz
              split at h
              ·rename_i hc
               obtain ⟨h0, hzs, rfl⟩ := hc
               cases h
               simp only [aop] at hv
               have ux := hE.opd hx
               have uy := hE.opd hy
               split at hv
               ·rename_i z1 hex
                rw [hex] at ux
                split at hv
                ·rename_i fs hfs
                 split at hv
                 ·rename_i hc2
                  cases hv
                  obtain ⟨c1, c2, c3, c4, c5⟩ := hc2
                  have hY : ((a.eval y = .slice none 0 0 ∨ ∃ p c, a.eval y = .slice (some p) 0 c) ∧ fs = []) ∨ ∃ b off cap us, a.eval y = .slice (some ⟨b, off, none⟩) fs.length cap ∧ (∀ cs, cs ∈ fs → cs.length = i.size) ∧ LR s.length w γ fs.flatten us ∧ RD w b off us := by
                   split at hfs
                   ·rename_i c z2 gs hey
                    rw [hey] at uy
                    split at hfs
                    ·rename_i hz2
                     cases hfs
                     rcases uy.sl_inv with ⟨base, cap, e0, rfl, _, hb0⟩ | ⟨b, off, cap, us, e0, q1, q2, _, _, q3, q4, _⟩
                     ·refine .inl ⟨?_, rfl⟩
                      cases base with
                      | none => have := hb0 rfl; subst this; exact .inl e0
                      | some a => exact .inr ⟨_, _, e0⟩
                     ·by_cases hf : fs = []
                      ·subst hf
                       exact .inl ⟨.inr ⟨_, _, e0⟩, rfl⟩
                      ·refine .inr ⟨b, off, cap, us, e0, ?_, q3, q4⟩
                       rw [← hz2.resolve_right hf]; exact q1
                    ·cases hfs
                   ·rename_i d l z2 q f n hey
                    rw [hey] at uy
                    split at hfs
                    ·rename_i z3 gs hg
                     split at hfs
                     ·rename_i hz2
                      cases hfs
                      obtain ⟨rfl, hq, hn⟩ := hz2
                      rcases arr_read hS uy hg hq hn with h | ⟨b, off, cap, us, q1, q2, q3, q4, _⟩
                      ·exact .inl h
                      ·exact .inr ⟨b, off, cap, us, q1, q2, q3, q4⟩
                     ·cases hfs
                    ·cases hfs
                   ·cases hfs
                  obtain ⟨u, w', γ', h1, h2, h3, h4⟩ := appm_ok (P := P) hS c5 (by simpa using c4) o.type ht hi hz h0 hzs c1 c2 ux hY
                  refine ⟨u, w', γ', .inl ?_, h2, h3, h4⟩
                  simp [execOp, hop, resolve, invoke, builtin, h1]
                 ·cases hv
                ·cases hv
               ·cases hv
              ·cases h
             ·cases h
            ·cases h
           ·cases h
          ·cases h
        | _ =>
          exfalso
          simp only [compOp, hop, reduceCtorEq] at h
          repeat' (split at h)
          all_goals (cases h; done)
      | value g =>
        exfalso
        cases g with
        | func f =>
          simp only [compOp, hop] at h
          obtain ⟨y, hy, h⟩ := Option.map_eq_some_iff.1 h
          cases h
        | tmp t =>
          simp only [compOp, hop] at h
          split at h <;> cases h
        | const c =>
          simp only [compOp, hop] at h
          split at h <;> cases h
        | global g =>
          simp only [compOp, hop] at h
          split at h <;> cases h
      | invoke r m => simp [compOp, hop] at h
    | _ =>
      exfalso
      simp only [compOp, hop, reduceCtorEq] at h
      all_goals first
       | (obtain ⟨_, _, h⟩ := Option.map_eq_some_iff.1 h; cases h; done)
       | (repeat' (split at h)
          all_goals first | contradiction | (cases h; done) | (obtain ⟨_, _, h⟩ := Option.map_eq_some_iff.1 h; cases h; done))
  | _ => exact op_sound hS hE hs h (by simpa only [AOp.mut] using hv)
 ·exact op_sound hS hE hs h hv
end
end Go.Ab

/-
  Regions in the order of the text.
-/
namespace Go.Ab
def Wide (F : Fence) : Prop := F = Fence.wide ∨ ∃ l, F = Fence.wide.inRound l
theorem Wide.fn {F : Fence} (h : Wide F) (f : FuncId) : F.fn f := by rcases h with rfl | ⟨l, rfl⟩ <;> trivial
theorem Wide.depth {F : Fence} (h : Wide F) : F.depth = none := by rcases h with rfl | ⟨l, rfl⟩ <;> rfl
theorem Wide.calls {F : Fence} (h : Wide F) {n : Nat} {P : Program} {f : FuncId} {args : Array Value} {w : World} {R : Ending → World → Prop} (hc : Calls P f args w R) : CallsIn F n P f args w R := by
 rcases h with rfl | ⟨l, rfl⟩
 ·exact callsIn_wide.2 hc
 ·exact (callsIn_wide.2 hc : CallsIn Fence.wide n P f args w R)
theorem roundIn_wide {F : Fence} (h : Wide F) {n m : Nat} {P : Program} {l : Nat} {f : FuncId} {tmps : Array Value} {assign body : Code} {w : World} {R : Ending → World → Prop} (hc : RoundIn Fence.wide m P l f tmps assign body w R) : RoundIn F n P l f tmps assign body w R := by
 obtain ⟨_, h2⟩ := hc
 refine ⟨h.fn f, fun c cs _ => ?_⟩
 obtain ⟨e, w', h3, h4⟩ := h2 c cs (room_wide _)
 refine ⟨e, w', h3, ?_⟩
 rcases h with rfl | ⟨l', rfl⟩
 ·exact h4
 ·exact h4
section
variable (K : KK) (P : Program)
def CPost (s : Stk) (w : World) (γ : G) (v : V) (s' : Stk) : Ending → World → Prop := fun en w' =>
 ∃ u γ', en = .returned u ∧ VR s'.length w' γ' v u ∧ SR K s' w' γ' ∧ Ext s.length w γ w' γ' ∧ s'.length = s.length
def Enters (f : FuncId) : Prop := ∀ args w, (callFunc f args).run P w = .ok (.enter f args) w
def StatOk (T : Tab) (X : Exec) : Prop := ∀ f args lab s v s', enter T X f args lab s = some (v, s') → Enters P f ∧
 ∀ w γ us, LR s.length w γ args us → SR K s w γ → Calls P f us.toArray w (CPost K s w γ v s')
def YldOk (T : Tab) (X : Exec) : Prop := ∀ d l args lab s v s', enterV T X (.yld d l) args lab s = some (v, s') →
 ∀ w γ b us, γ d l = some (.obj b) → LR s.length w γ args us → SR K s w γ → ∃ f tmps assign body, (Instr.yield b us.toArray).run P w = .ok (.round b f tmps assign body) w ∧
  RoundIn Fence.wide 0 P b f tmps assign body w (CPost K s w γ v s')
end
section
variable {K : KK} {P : Program} {T : Tab} {X : Exec} {s : Stk} {w : World} {γ : G} {e : Env} {a : Act}
theorem compOp_not_defer {o : Oper} {ao : AOp} (h : compOp P o = some ao) : ∀ c, o.op ≠ .defer c := by
 intro c hc
 simp [compOp, hc] at h
theorem comp_call {o : Oper} {f : FuncId} {args : List Opd} (h : compOp P o = some (.call f args)) : ∃ cargs argTypes, o.op = .call ⟨.value (.func f), cargs, argTypes⟩ ∧ copdsT P argTypes.toList cargs.toList = some args := by
 cases hop : o.op with
 | call c =>
   obtain ⟨callee, cargs, argTypes⟩ := c
   cases callee with
   | value g =>
     cases g with
     | func g =>
       simp only [compOp, hop] at h
       obtain ⟨ys, hys, h⟩ := Option.map_eq_some_iff.1 h
       cases h
       exact ⟨cargs, argTypes, rfl, hys⟩
     | tmp t =>
       simp only [compOp, hop] at h
       split at h <;> cases h
     | const c =>
       simp only [compOp, hop] at h
       split at h <;> cases h
     | global g =>
       simp only [compOp, hop] at h
       split at h <;> cases h
   | invoke r m => simp [compOp, hop] at h
   | builtin b =>
     exfalso
     cases b <;> simp only [compOp, hop, reduceCtorEq] at h
     all_goals
      repeat' (split at h)
     all_goals first | (cases h; done)
 | _ =>
   exfalso
   simp only [compOp, hop, reduceCtorEq] at h
   all_goals first
    | (obtain ⟨_, _, h⟩ := Option.map_eq_some_iff.1 h; cases h; done)
    | (repeat' (split at h)
       all_goals first | contradiction | (cases h; done) | (obtain ⟨_, _, h⟩ := Option.map_eq_some_iff.1 h; cases h; done))
theorem comp_callv {o : Oper} {x : Opd} {args : List Opd} (h : compOp P o = some (.callv x args)) : ∃ g cargs argTypes, o.op = .call ⟨.value g, cargs, argTypes⟩ ∧ copd g = some x ∧ copdsT P argTypes.toList cargs.toList = some args := by
 cases hop : o.op with
 | call c =>
   obtain ⟨callee, cargs, argTypes⟩ := c
   cases callee with
   | value g =>
     cases g with
     | func g =>
       simp only [compOp, hop] at h
       obtain ⟨ys, hys, h⟩ := Option.map_eq_some_iff.1 h
       cases h
     | tmp t =>
       simp only [compOp, hop] at h
       split at h
       ·rename_i h1 h2; cases h; exact ⟨_, cargs, argTypes, rfl, h1, h2⟩
       ·cases h
     | const c =>
       simp only [compOp, hop] at h
       split at h
       ·rename_i h1 h2; cases h; exact ⟨_, cargs, argTypes, rfl, h1, h2⟩
       ·cases h
     | global g =>
       simp only [compOp, hop] at h
       split at h
       ·rename_i h1 h2; cases h; exact ⟨_, cargs, argTypes, rfl, h1, h2⟩
       ·cases h
   | invoke r m => simp [compOp, hop] at h
   | builtin b =>
     exfalso
     cases b <;> simp only [compOp, hop, reduceCtorEq] at h
     all_goals
      repeat' (split at h)
     all_goals first | (cases h; done)
 | _ =>
   exfalso
   simp only [compOp, hop, reduceCtorEq] at h
   all_goals first
    | (obtain ⟨_, _, h⟩ := Option.map_eq_some_iff.1 h; cases h; done)
    | (repeat' (split at h)
       all_goals first | contradiction | (cases h; done) | (obtain ⟨_, _, h⟩ := Option.map_eq_some_iff.1 h; cases h; done))
theorem compOpM_call {m : Bool} {o : Oper} {f : FuncId} {args : List Opd} (h : compOpM P m o = some (.call f args)) : compOp P o = some (.call f args) := by
 unfold compOpM at h
 split at h
 ·obtain ⟨a0, h0, h1⟩ := Option.map_eq_some_iff.1 h
  cases a0 <;> simp only [AOp.mut, reduceCtorEq] at h1
  rw [h0, ← h1]
 ·exact h
theorem compOpM_callv {m : Bool} {o : Oper} {x : Opd} {args : List Opd} (h : compOpM P m o = some (.callv x args)) : compOp P o = some (.callv x args) := by
 unfold compOpM at h
 split at h
 ·obtain ⟨a0, h0, h1⟩ := Option.map_eq_some_iff.1 h
  cases a0 <;> simp only [AOp.mut, reduceCtorEq] at h1
  rw [h0, ← h1]
 ·exact h
theorem compOpM_not_defer {m : Bool} {o : Oper} {ao : AOp} (h : compOpM P m o = some ao) : ∀ c, o.op ≠ .defer c := by
 unfold compOpM at h
 split at h
 ·obtain ⟨a0, h0, h1⟩ := Option.map_eq_some_iff.1 h
  exact compOp_not_defer h0
 ·exact compOp_not_defer h
theorem op1_sound (hst : StatOk K P T X) (hyl : YldOk K P T X) {F : Fence} (hF : Wide F) {n : Nat} (hS : SR K s w γ) (hE : ER s.length w γ e a) (hs : s ≠ []) {o : Oper} {ao : AOper} {m : Bool} (h : compOpM P m o = some ao.op)
 {v : V} {s' : Stk} (hv : op1 T X ao e s = some (v, s')) {next : Act → World → Prop} {Q : Exit → Act → World → Prop}
 (hnext : ∀ u w' γ', VR s'.length w' γ' v u → SR K s' w' γ' → Ext s.length w γ w' γ' → s'.length = s.length → next (a.put o.dst u) w') : o.wpIn F n P a w next Q := by
 have hfn := hF.fn
 refine ⟨fun f _ => hfn f, ?_⟩
 rw [Oper.semAt_eq _ _ _ (compOpM_not_defer h)]
 have hd : F.depth.isSome = true → 1 ≤ n := fun hx => by rw [hF.depth] at hx; cases hx
 have entered : ∀ (f : FuncId) (vs : List V) (us : Array Value), enter T X f vs (16 * ao.dst.getD 0) s = some (v, s') → LR s.length w γ vs us.toList →
  ∀ (r : Result Next), (∀ w', (callFunc f us).run P w = .ok (.enter f us) w' → r = .ok (.enter f us) w') → o.uponIn F n P a next Q r := by
  intro f vs us hen hl r hr
  obtain ⟨h1, h2⟩ := hst f vs _ s v s' hen
  rw [hr w (h1 us w), Oper.uponIn_enter]
  refine ⟨hd, (hF.calls (by simpa using h2 w γ us.toList hl hS)).mono ?_⟩
  rintro en w' ⟨u, γ', rfl, k1, k2, k3, k4⟩
  exact hnext u w' γ' k1 k2 k3 k4
 unfold op1 at hv
 dsimp only at hv
 split at hv
 · -- by name
  rename_i f args hc
  have hao : ao.op = .call f args := by
   cases hx : ao.op <;> rw [hx] at hc <;> simp [AOp.callOf] at hc
   obtain ⟨rfl, rfl⟩ := hc; rfl
  rw [hao] at h
  obtain ⟨cargs, argTypes, hop, hys⟩ := comp_call (compOpM_call h)
  have hl := LR.strip' _ _ (hE.opdsT hys)
  refine entered f _ (cargs.map a.eval) hv (by simpa using hl) _ ?_
  intro w' hr
  simp only [execOp, hop, resolve, Act.eval, Deferred.ofValue, Sem.run_bind, Sem.run_pure, Result.andThen_ok, invoke]
  simpa [Act.eval] using hr
 · -- a value
  rename_i x args hc
  have hao : ao.op = .callv x args := by
   cases hx : ao.op <;> rw [hx] at hc <;> simp [AOp.callOf] at hc
   obtain ⟨rfl, rfl⟩ := hc; rfl
  rw [hao] at h
  obtain ⟨g, cargs, argTypes, hop, hg, hys⟩ := comp_callv (compOpM_callv h)
  have hl := LR.strip' _ _ (hE.opdsT hys)
  have hx := hE.opd hg
  generalize hxe : x.ev e = xv at hx hv
  cases xv with
  | fn f first cap =>
    simp only [enterV] at hv
    cases hx' : a.eval g with
    | func fn us ws =>
      rw [hx'] at hx
      cases hx with
      | fn _ _ _ _ _ h1 h2 k1 k2 =>
        have l1 : LR s.length w γ first us.toList := ⟨by simpa using h1, fun i v u hv hu => k1 i v u hv (by simpa using hu)⟩
        have l2 : LR s.length w γ cap ws.toList := ⟨by simpa using h2, fun i v u hv hu => k2 i v u hv (by simpa using hu)⟩
        refine entered f _ (us ++ cargs.map a.eval ++ ws) hv (by simpa using (l1.append hl).append l2) _ ?_
        intro w' hr
        simp only [execOp, hop, resolve, hx', Deferred.ofValue, Sem.run_bind, Sem.run_pure, Result.andThen_ok, invoke]
        exact hr
    | _ => rw [hx'] at hx; cases hx
  | yld d l =>
    cases hx' : a.eval g with
    | func fn us ws =>
      rw [hx'] at hx
      cases hx with
      | yld _ _ b hd' hb =>
        obtain ⟨f, tmps, assign, body, h1, h2⟩ := hyl d l _ _ s v s' hv w γ b _ hb hl hS
        have hr : (execOp a.eval o).run P w = .ok (.round b f tmps assign body) w := by
         simp only [execOp, hop, resolve, hx', Deferred.ofValue, Sem.run_bind, Sem.run_pure, Result.andThen_ok, invoke]
         have e1 : (#[] ++ cargs.map a.eval : Array Value) = (cargs.toList.map a.eval).toArray := by apply Array.ext'; simp
         rw [e1]
         exact h1
        rw [hr, Oper.uponIn_round]
        refine ⟨hd, (roundIn_wide hF h2).mono ?_⟩
        rintro en w' ⟨u, γ', rfl, k1, k2, k3, k4⟩
        exact hnext u w' γ' k1 k2 k3 k4
    | _ => rw [hx'] at hx; cases hx
  | _ => simp [enterV] at hv
 · -- any other
  split at hv
  ·rename_i v1 f1 hop
   cases hv
   obtain ⟨u, w', γ', hr, k1, k2, k3⟩ := op_soundM hS hE hs h hop
   have hlen : (seff s f1).length = s.length := by
    cases f1 with
    | none => rfl
    | some x => obtain ⟨d, l, y⟩ := x; simp [seff]
   rw [← hlen] at k1
   rcases hr with hr | ⟨hr, rfl⟩
   ·rw [hr]; exact hnext u w' γ' k1 k2 k3 hlen
   ·rw [hr]; exact hnext undef w' γ' k1 k2 k3 hlen
  ·cases hv
structure St (K : KK) (N : Nat) (D : Nat) (w : World) (γ : G) (e : Env) (s : Stk) (a : Act) (w' : World) (γ' : G) : Prop where
 size : a.tmps.size = N
 env : ER s.length w' γ' e a
 stk : SR K s w' γ'
 ext : Ext D w γ w' γ'
theorem ER.only {D : Nat} {w : World} {γ : G} {e : Env} {a : Act} (h : ER D w γ e a) (live : List Nat) : ER D w γ (e.only live) a := by
 intro t
 have : ∀ (l : List Nat), (Env.get (l.map fun t => (t, e.get t)) t) = e.get t ∨ (Env.get (l.map fun t => (t, e.get t)) t) = .undef := by
  intro l
  induction l with
  | nil => exact .inr rfl
  | cons x r ih =>
    simp only [List.map_cons, Env.get]
    split
    ·rename_i hx; subst hx; exact .inl rfl
    ·exact ih
 rcases this live with h1 | h1
 ·unfold Env.only; rw [h1]; exact h t
 ·unfold Env.only; rw [h1]; exact .undef _
theorem yielded_of {ops : Array Oper} {g slot : Nat} (h : (ops[g]?).bind (·.dst) = some slot) {D : Nat} (hE : ER D w γ e a) {b : Bool} (hb : e.get slot = .bool b) : yielded ops a.tmps g = some b := by
 have h1 := hE slot
 rw [hb] at h1
 have h2 := h1.bool_inv
 unfold yielded
 rw [h]
 simp only [Option.bind_some]
 cases ht : a.tmps[slot]? with
 | none => simp [Array.getD_eq_getD_getElem?, ht, undef] at h2
 | some x => simp [Array.getD_eq_getD_getElem?, ht] at h2; simp [h2]
theorem yielded_skip {ops : Array Oper} {g slot : Nat} (h : (ops[g]?).bind (·.dst) = some slot) {D : Nat} (hE : ER D w γ e a) (hb : e.get slot = .skip) : yielded ops a.tmps g = none := by
 have h1 := hE slot
 rw [hb] at h1
 have h2 : a.tmps.getD slot undef = undef := by
  generalize a.tmps.getD slot undef = u at h1
  cases h1; rfl
 unfold yielded
 rw [h]
 simp only [Option.bind_some]
 cases ht : a.tmps[slot]? with
 | none => rfl
 | some x => simp [Array.getD_eq_getD_getElem?, ht] at h2; simp [h2, undef]
theorem put_size (a : Act) (dst : Option Nat) (u : Value) : (a.put dst u).tmps.size = a.tmps.size := by
 cases dst <;> simp [Act.put]
theorem put_defers (a : Act) (dst : Option Nat) (u : Value) : (a.put dst u).defers = a.defers := by
 cases dst <;> simp [Act.put]
theorem ops_sound (hst : StatOk K P T X) (hyl : YldOk K P T X) {F : Fence} (hF : Wide F) {n N : Nat} {ops : Array Oper} {Q : Exit → Act → World → Prop} : ∀ (l : List (Oper × Nat)) {als : List AOper} {muts : List Nat}, compOpers P N muts ops l = some als → (∀ x ∈ l, ops[x.2]? = some x.1) →
 ∀ {e : Env} {s : Stk} {a : Act} {w : World} {γ : G} {e' : Env} {s' : Stk}, runOps T X als e s = some (e', s') → s ≠ [] → a.tmps.size = N → ER s.length w γ e a → SR K s w γ →
 (∀ a' w' γ', St K N s.length w γ e' s' a' w' γ' → s'.length = s.length → a'.defers = a.defers → Q .normal a' w') → wpOpsIn F n P ops Q (l.map (·.2)) a w
 | [], als, muts, h, _, e, s, a, w, γ, e', s', hr, hs, hN, hE, hS, hQ => by
   simp [compOpers] at h; subst h
   simp [runOps] at hr; obtain ⟨rfl, rfl⟩ := hr
   exact hQ a w γ ⟨hN, hE, hS, Ext.refl _ _ _⟩ rfl rfl
 | (o, j) :: l, als, muts, h, hm, e, s, a, w, γ, e', s', hr, hs, hN, hE, hS, hQ => by
   have hj : ops[j]? = some o := hm (o, j) (by simp)
   have hm' : ∀ x ∈ l, ops[x.2]? = some x.1 := fun x hx => hm x (by simp [hx])
   simp only [compOpers] at h
   split at h
   ·rename_i op r h1 h2
    split at h
    ·rename_i hdst
     have hd : ∀ d, o.dst = some d → d < a.tmps.size := fun d hd => by rw [hd] at hdst; simp at hdst; rw [hN]; exact hdst
     simp only [List.map_cons, wpOpsIn, hj]
     have runs : ∀ (g : Option (Nat × Bool)), ∀ {v : V} {s1 : Stk}, op1 T X { dst := o.dst, op, guard := g } e s = some (v, s1) → runOps T X r (setDst o.dst v e) s1 = some (e', s') →
      o.wpIn F n P a w (wpOpsIn F n P ops Q (l.map (·.2))) Q := by
      intro g v s1 hv hrest
      refine op1_sound hst hyl hF hS hE hs (ao := { dst := o.dst, op, guard := g }) h1 hv (fun u w1 γ1 k1 k2 k3 k4 => ?_)
      have hs1 : s1 ≠ [] := fun e0 => by rw [e0] at k4; exact hs (List.eq_nil_of_length_eq_zero k4.symm)
      refine ops_sound hst hyl hF l h2 hm' hrest hs1 (by rw [put_size]; exact hN) ?_ k2 (fun a' w' γ' st hl hd' => ?_)
      ·rw [k4] at k1 ⊢
       exact (hE.ext k3).put k1 hd
      ·rw [k4] at hl st
       exact hQ a' w' γ' ⟨st.size, st.env, st.stk, k3.trans st.ext⟩ hl (by rw [hd', put_defers])
     have skips : ∀ {e1 : Env}, e1 = setDst o.dst .skip e → runOps T X r e1 s = some (e', s') → wpOpsIn F n P ops Q (l.map (·.2)) (a.put o.dst undef) w := by
      intro e1 he hrest
      subst he
      refine ops_sound hst hyl hF l h2 hm' hrest hs (by rw [put_size]; exact hN) (hE.put .skip hd) hS (fun a' w' γ' st hl hd' => hQ a' w' γ' st hl (by rw [hd', put_defers]))
     split at h
     ·rename_i hg
      cases h
      have hw : Region.wanted o (yielded ops a.tmps) = true := by simp [Region.wanted, hg]
      simp only [hw, if_true]
      simp only [runOps] at hr
      split at hr
      ·rename_i v s1 hv
       exact runs _ hv hr
      ·cases hr
     ·rename_i g want hg
      split at h
      ·rename_i slot hslot
       cases h
       simp only [runOps] at hr
       split at hr
       ·rename_i b hb
        have hy := yielded_of hslot hE hb
        split at hr
        ·rename_i hbw
         have hw : Region.wanted o (yielded ops a.tmps) = true := by simp [Region.wanted, hg, hy, hbw]
         simp only [hw, if_true]
         split at hr
         ·rename_i v s1 hv
          exact runs _ hv hr
         ·cases hr
        ·rename_i hbw
         have hw : Region.wanted o (yielded ops a.tmps) = false := by simp [Region.wanted, hg, hy, hbw]
         simp only [hw, Bool.false_eq_true, if_false]
         exact ⟨fun f _ => hF.fn f, skips rfl hr⟩
       ·rename_i hb
        have hy := yielded_skip hslot hE hb
        have hw : Region.wanted o (yielded ops a.tmps) = false := by simp [Region.wanted, hg, hy]
        simp only [hw, Bool.false_eq_true, if_false]
        exact ⟨fun f _ => hF.fn f, skips rfl hr⟩
       ·cases hr
      ·cases h
    ·cases h
   ·cases h
theorem zipIdx_mem {α : Type} (xs : Array α) : ∀ x ∈ xs.toList.zipIdx, xs[x.2]? = some x.1 := by
 intro x hx
 have := List.mem_zipIdx_iff_getElem?.1 hx
 simpa using this
theorem zipIdx_range {α : Type} (xs : Array α) : xs.toList.zipIdx.map (·.2) = List.range xs.size := by
 simp [List.zipIdx_map_snd, List.range_eq_range']
theorem region_sound (hst : StatOk K P T X) (hyl : YldOk K P T X) {F : Fence} (hF : Wide F) {n N id : Nat} {ops : Array Oper} {Q : Exit → Act → World → Prop} {als : List AOper} {live : List Nat} {muts : List Nat} (h : compOpers P N muts ops ops.toList.zipIdx = some als)
 {e' : Env} {s' : Stk} (hr : runOps T X als e s = some (e', s')) (hs : s ≠ []) (hN : a.tmps.size = N) (hE : ER s.length w γ e a) (hS : SR K s w γ)
 (hQ : ∀ a' w' γ', St K N s.length w γ (e'.only live) s' a' w' γ' → s'.length = s.length → a'.defers = a.defers → Q .normal a' w') : (Code.region id ops false).wpIn F n P Q a w := by
 refine wpIn_region ?_
 rw [← zipIdx_range]
 refine ops_sound hst hyl hF _ h (zipIdx_mem ops) hr hs hN hE hS (fun a' w' γ' st hl hd => hQ a' w' γ' ⟨st.size, ?_, st.stk, st.ext⟩ hl hd)
 exact st.env.only live
end
end Go.Ab

/-
  What becomes of a state when names are dropped, renamed, or turn no more.
-/
namespace Go.Ab
theorem VR.pureOwn {D : Nat} {w : World} {γ γ' : G} (own : ∀ b off, Own γ' b off → Own γ b off) {v : V} {u : Value} (h : VR D w γ v u) (D' : Nat) : v.pure = true → VR D' w γ' v u := by
 induction h with
 | undef u => exact fun _ => .undef u
 | skip => exact fun _ => .skip
 | int k n => exact fun _ => .int k n
 | bool b => exact fun _ => .bool b
 | anyb b => exact fun _ => .anyb b
 | agg cs us hl _ ih => exact fun hp => .agg cs us hl fun i v u hv hu => ih i v u hv hu (pureAll_mem (by simpa [V.pure] using hp) v (List.mem_of_getElem? hv))
 | tup cs us hl _ ih => exact fun hp => .tup cs us hl fun i v u hv hu => ih i v u hv hu (pureAll_mem (by simpa [V.pure] using hp) v (List.mem_of_getElem? hv))
 | nilp => exact fun _ => .nilp
 | ptr d l off b hd hb => exact fun hp => by simp [V.pure] at hp
 | ep cs b off _ hc hno _ ih => exact fun hp => by simp [V.pure] at hp
 | slnil c sz hcap => exact fun hp => by simp [V.pure] at hp; subst hp; exact .slnil _ _ trivial
 | sl0 c sz a cap hcap => exact fun hp => by simp [V.pure] at hp; subst hp; exact .sl0 _ _ a cap trivial
 | sl c sz es b off cap hsz hp hle hcap hc hno _ ih =>
   intro hpu
   simp [V.pure] at hpu; subst hpu
   exact .sl _ sz es b off cap hsz hp hle trivial hc (fun i cs j v h1 h2 ho => hno i cs j v h1 h2 (own _ _ ho)) fun i cs j v u h1 h2 hu => ih i cs j v u h1 h2 hu (elemAll_mem (hp cs (List.mem_of_getElem? h1)) v (List.mem_of_getElem? h2)).1
 | fn f first cap us ws h1 h2 _ _ i1 i2 =>
   intro hp
   simp [V.pure] at hp
   exact .fn f first cap us ws h1 h2 (fun i v u hv hu => i1 i v u hv hu (pureAll_mem hp.1 v (List.mem_of_getElem? hv))) (fun i v u hv hu => i2 i v u hv hu (pureAll_mem hp.2 v (List.mem_of_getElem? hv)))
 | nilf => exact fun _ => .nilf
 | yld d l b hd hb => exact fun hp => by simp [V.pure] at hp
 | asl d l sz n off len b k hd hb hle hk => exact fun hp => by simp [V.pure] at hp
 | aslnil d l sz base hd hb => exact fun hp => by simp [V.pure] at hp
 | aslold d l sz n off len N blk base ln cp hd hb hn => exact fun hp => by simp [V.pure] at hp
 | eptr d l n i j b sz k hd hb => exact fun hp => by simp [V.pure] at hp
 | eptrold d l n i j N blk p hd hb hn => exact fun hp => by simp [V.pure] at hp
structure RenOk (r : Ren) (D : Nat) (w : World) (γ : G) (D' : Nat) (γ' : G) : Prop where
 p : ∀ d l o u, VR D w γ (.ptr d l o) u → VR D' w γ' (r.p d l o) u
 c : ∀ c sz base len cap, capOk D γ c sz base len cap → capOk D' γ' (r.c c) sz base len cap
 y : ∀ d l u, VR D w γ (.yld d l) u → VR D' w γ' (r.y d l) u
 a : ∀ d l z n o k u, VR D w γ (.asl d l z n o k) u → VR D' w γ' (r.a d l z n o k) u
 e : ∀ d l n i j u, VR D w γ (.eptr d l n i j) u → VR D' w γ' (r.e d l n i j) u
 own : ∀ b off, Own γ' b off → Own γ b off
section
variable {r : Ren} {D D' : Nat} {w : World} {γ γ' : G}
mutual
theorem VR.map' (ok : RenOk r D w γ D' γ') : ∀ (v : V) (u : Value), VR D w γ v u → VR D' w γ' (v.map r) u
 | .agg cs, u, h => by
   obtain ⟨us, rfl, hl⟩ := h.agg_inv
   have := VR.agg_mk (LR.map' ok cs us.toList hl)
   simpa [V.map] using this
 | .tup cs, u, h => by
   obtain ⟨us, rfl, hl⟩ := h.tup_inv
   have := VR.tup_mk (LR.map' ok cs us.toList hl)
   simpa [V.map] using this
 | .sl c z es, u, h => by
   simp only [V.map]
   cases h with
   | slnil _ _ hc => exact .slnil _ _ (ok.c _ _ _ _ _ hc)
   | sl0 _ _ a k hc => exact .sl0 _ _ a k (ok.c _ _ _ _ _ hc)
   | sl _ _ _ b off k hsz hp hle hcap hc hno h =>
     refine .sl _ _ _ b off k hsz hp hle (ok.c _ _ _ _ _ hcap) hc (fun i cs j v h1 h2 ho => hno i cs j v h1 h2 (ok.own _ _ ho)) (fun i cs j v u h1 h2 hu => ?_)
     have hel := elemAll_mem (hp cs (List.mem_of_getElem? h1)) v (List.mem_of_getElem? h2)
     exact (h i cs j v u h1 h2 hu).pureOwn ok.own _ hel.1
 | .fn f as bs, u, h => by
   cases h with
   | fn _ _ _ us ws h1 h2 k1 k2 =>
     have e1 := LR.map' ok as us.toList ⟨by simpa using h1, fun i v u hv hu => k1 i v u hv (by simpa using hu)⟩
     have e2 := LR.map' ok bs ws.toList ⟨by simpa using h2, fun i v u hv hu => k2 i v u hv (by simpa using hu)⟩
     have := VR.fn_mk (f := f) e1 e2
     simpa [V.map] using this
 | .undef, u, h => .undef u
 | .skip, u, h => by cases h; exact .skip
 | .int k n, u, h => by cases h; exact .int k n
 | .bool b, u, h => by cases h; exact .bool b
 | .anyb, u, h => by cases h; exact .anyb _
 | .nilp, u, h => by cases h; exact .nilp
 | .ptr d l o, u, h => by simpa only [V.map] using ok.p d l o u h
 | .ep cs, u, h => by
   simp only [V.map]
   cases h with
   | ep _ b off hp hc hno h =>
     exact .ep cs b off hp hc (fun i v hv ho => hno i v hv (ok.own _ _ ho)) (fun i v u hv hu => (h i v u hv hu).pureOwn ok.own _ (pureAll_mem hp v (List.mem_of_getElem? hv)))
 | .nilf, u, h => by cases h; exact .nilf
 | .yld d l, u, h => by simpa only [V.map] using ok.y d l u h
 | .asl d l z n o k, u, h => by simpa only [V.map] using ok.a d l z n o k u h
 | .eptr d l n i j, u, h => by simpa only [V.map] using ok.e d l n i j u h
theorem LR.map' (ok : RenOk r D w γ D' γ') : ∀ (vs : List V) (us : List Value), LR D w γ vs us → LR D' w γ' (V.mapAll r vs) us
 | [], us, h => ⟨h.1, fun i v u hv => by simp [V.mapAll] at hv⟩
 | v :: t, us, h => by
   obtain ⟨u, us', rfl, h1, h2⟩ := h.inv
   exact LR.cons (VR.map' ok v u h1) (LR.map' ok t us' h2)
end
theorem env_ren (e : Env) (t : Nat) : (Env.ren r e).get t = (e.get t).map r := by
 induction e with
 | nil => rfl
 | cons x l ih =>
   obtain ⟨k, v⟩ := x
   simp only [Env.ren, List.map_cons, Env.get]
   split
   ·rfl
   ·exact ih
theorem ER.map (ok : RenOk r D w γ D' γ') {e : Env} {a : Act} (h : ER D w γ e a) : ER D' w γ' (Env.ren r e) a := fun t => by
 rw [env_ren]; exact VR.map' ok _ _ (h t)
theorem mapAll_length : ∀ (vs : List V), (V.mapAll r vs).length = vs.length
 | [] => rfl
 | _ :: t => by simp [V.mapAll, mapAll_length t]
theorem mapAll_get : ∀ (vs : List V) (i : Nat), (V.mapAll r vs)[i]? = (vs[i]?).map (V.map r)
 | [], i => by simp [V.mapAll]
 | v :: t, 0 => by simp [V.mapAll]
 | v :: t, i + 1 => by simp [V.mapAll, mapAll_get t i]
theorem EnR.map {K : KK} {d l d' l' : Nat} {x : Entry} (h : EnR K w γ d l x) (ok : RenOk r (d + 1) w γ (d' + 1) γ') (hg : ∀ g, γ d l = some g → γ' d' l' = some g) : EnR K w γ' d' l' (x.map r) := by
 cases x with
 | cell cs =>
   obtain ⟨b, c, e, h1, h2, h3⟩ := h
   exact ⟨b, c, e, hg _ h1, h2, LR.map' ok _ _ h3⟩
 | tok n =>
   obtain ⟨blk, h1, h2⟩ := h
   exact ⟨blk, hg _ h1, h2⟩
 | arr sz es =>
   obtain ⟨blk, h1, h0, h2⟩ := h
   refine ⟨blk, by rw [List.length_map]; exact hg _ h1, fun cs hc => ?_, ?_⟩
   ·obtain ⟨c0, hc0, rfl⟩ := List.mem_map.1 hc
    rw [mapAll_length]; exact h0 c0 hc0
   ·cases blk with
    | none => have h2 : es = [] := h2; subst h2; rfl
    | some y =>
      obtain ⟨b, sz', k⟩ := y
      obtain ⟨e1, c, e, h3, h4, h5, h6, h7, h8⟩ := h2
      refine ⟨e1, c, e, h3, by simpa using h4, h5, h6, h7, fun i cs j v u k1 k2 k3 => ?_⟩
      rw [List.getElem?_map] at k1
      obtain ⟨c0, k4, rfl⟩ := Option.map_eq_some_iff.1 k1
      rw [mapAll_get] at k2
      obtain ⟨v0, k5, rfl⟩ := Option.map_eq_some_iff.1 k2
      exact VR.map' ok _ _ (h8 i c0 j v0 u k4 k5 k3)
 | loop ps A B env o p =>
   obtain ⟨b, q, h1, h2, h3, h4, h5⟩ := h
   exact ⟨b, q, hg _ h1, h2, h3, fun t => by rw [env_ren]; exact VR.map' ok _ _ (h4 t), h5⟩
end
def idR : Ren := ⟨.ptr, id, .yld, .asl, .eptr⟩
mutual
theorem map_id : ∀ (v : V), v.map idR = v
 | .agg cs => by simp [V.map, mapAll_id cs]
 | .tup cs => by simp [V.map, mapAll_id cs]
 | .fn f a b => by simp [V.map, mapAll_id a, mapAll_id b]
 | .sl _ _ _ | .undef | .skip | .int _ _ | .bool _ | .nilp | .ptr _ _ _ | .ep _ | .nilf | .yld _ _ | .asl _ _ _ _ _ _ | .eptr _ _ _ _ _ | .anyb => by simp [V.map, idR]
theorem mapAll_id : ∀ (vs : List V), V.mapAll idR vs = vs
 | [] => rfl
 | v :: t => by simp [V.mapAll, map_id v, mapAll_id t]
end
theorem ent_id (x : Entry) : x.map idR = x := by
 cases x with
 | cell cs => simp [Entry.map, mapAll_id]
 | tok n => rfl
 | arr z es =>
   have : V.mapAll idR = id := funext mapAll_id
   simp [Entry.map, this]
 | loop ps a b env o p =>
   simp only [Entry.map, Env.ren]
   congr 1
   have : (fun x : Nat × V => (x.1, x.2.map idR)) = id := by funext x; simp [map_id]
   rw [this]; simp
theorem RenOk.id {D D' : Nat} {w : World} {γ γ' : G} (hD : D ≤ D') (hg : ∀ (d l : Nat) g, d < D → γ d l = some g → γ' d l = some g) (ho : ∀ b off, Own γ' b off → Own γ b off) : RenOk idR D w γ D' γ' where
 p := fun d l o u h => by
  cases h with
  | ptr _ _ _ b hd hb => exact .ptr _ _ _ b (by omega) (hg d l _ hd hb)
 c := fun c sz base len cap h => by
  cases c with
  | no => trivial
  | full => exact h
  | own d l =>
    obtain ⟨hd, n, blk, h1, h2⟩ := h
    exact ⟨by omega, n, blk, hg d l _ hd h1, h2⟩
 y := fun d l u h => by
  cases h with
  | yld _ _ b hd hb => exact .yld _ _ b (by omega) (hg d l _ hd hb)
 a := fun d l z n o k u h => by
  cases h with
  | asl _ _ _ _ _ _ b k hd hb hle hk => exact .asl _ _ _ _ _ _ b k (by omega) (hg d l _ hd hb) hle hk
  | aslnil _ _ _ base hd hb => exact .aslnil _ _ _ base (by omega) (hg d l _ hd hb)
  | aslold _ _ _ _ _ _ N blk base ln cp hd hb hn2 => exact .aslold _ _ _ _ _ _ N blk base ln cp (by omega) (hg d l _ hd hb) hn2
 e := fun d l n i j u h => by
  cases h with
  | eptr _ _ _ _ _ b sz k hd hb => exact .eptr _ _ _ _ _ b sz k (by omega) (hg d l _ hd hb)
  | eptrold _ _ _ _ _ N blk p hd hb hn2 => exact .eptrold _ _ _ _ _ N blk p (by omega) (hg d l _ hd hb) hn2
 own := ho
theorem VR.restrict {D D' : Nat} {w : World} {γ γ' : G} {v : V} {u : Value} (h : VR D w γ v u) (hD : D ≤ D') (hg : ∀ (d l : Nat) g, d < D → γ d l = some g → γ' d l = some g) (ho : ∀ b off, Own γ' b off → Own γ b off) : VR D' w γ' v u := by
 have := VR.map' (RenOk.id hD hg ho) v u h
 rwa [map_id] at this
theorem EnR.restrict {K : KK} {d l : Nat} {w : World} {γ γ' : G} {x : Entry} (h : EnR K w γ d l x) (hg : ∀ (d' l' : Nat) g, d' ≤ d → γ d' l' = some g → γ' d' l' = some g) (ho : ∀ b off, Own γ' b off → Own γ b off) : EnR K w γ' d l x := by
 have := EnR.map (d' := d) (l' := l) h (RenOk.id (Nat.le_refl _) (fun d' l' g h' => hg d' l' g (by omega)) ho) (fun g => hg d l g (Nat.le_refl _))
 rwa [ent_id] at this
def G.drop (γ : G) (d : Nat) (keep : List Nat) : G := fun d' l => if d' = some d ∧ l ∉ keep then none else γ d' l
theorem G.drop_eq {γ : G} {d : Nat} {keep : List Nat} {d' l : Nat} (h : ¬ (d' = d ∧ l ∉ keep)) : γ.drop d keep d' l = γ d' l := by
 simp only [G.drop]; rw [if_neg (by rintro ⟨e, h2⟩; cases e; exact h ⟨rfl, h2⟩)]
theorem G.drop_none {γ : G} {d : Nat} {keep : List Nat} {l : Nat} : γ.drop d keep none l = γ none l := by simp [G.drop]
theorem G.drop_some {γ : G} {d : Nat} {keep : List Nat} {d' : Option Nat} {l : Nat} {g : GE} (h : γ.drop d keep d' l = some g) : γ d' l = some g := by
 unfold G.drop at h
 split at h
 ·cases h
 ·exact h
theorem own_drop {γ : G} {d : Nat} {keep : List Nat} : ∀ b off, Own (γ.drop d keep) b off → Own γ b off := by
 rintro b off ⟨d', l, g, h1, h2⟩
 exact ⟨d', l, g, G.drop_some h1, h2⟩
theorem RenOk.drop {D : Nat} {w : World} {γ : G} {d : Nat} {keep : List Nat} : RenOk (dropR d keep) D w γ D (γ.drop d keep) where
 p := fun d' l o u h => by
  simp only [dropR]
  split
  ·exact .undef _
  ·rename_i hn
   cases h with
   | ptr _ _ _ b hd hb => exact .ptr _ _ _ b hd ((G.drop_eq hn).trans hb)
 c := fun c sz base len cap h => by
  cases c with
  | no => trivial
  | full => exact h
  | own d' l =>
    simp only [dropR, Cap.drop]
    split
    ·trivial
    ·rename_i hn
     obtain ⟨hd, n, blk, h1, h2⟩ := h
     exact ⟨hd, n, blk, (G.drop_eq hn).trans h1, h2⟩
 y := fun d' l u h => by
  simp only [dropR]
  split
  ·exact .undef _
  ·rename_i hn
   cases h with
   | yld _ _ b hd hb => exact .yld _ _ b hd ((G.drop_eq hn).trans hb)
 a := fun d' l z n o k u h => by
  simp only [dropR]
  split
  ·exact .undef _
  ·rename_i hn
   cases h with
   | asl _ _ _ _ _ _ b k hd hb hle hk => exact .asl _ _ _ _ _ _ b k hd ((G.drop_eq hn).trans hb) hle hk
   | aslnil _ _ _ base hd hb => exact .aslnil _ _ _ base hd ((G.drop_eq hn).trans hb)
   | aslold _ _ _ _ _ _ N blk base ln cp hd hb hn2 => exact .aslold _ _ _ _ _ _ N blk base ln cp hd ((G.drop_eq hn).trans hb) hn2
 e := fun d' l n i j u h => by
  simp only [dropR]
  split
  ·exact .undef _
  ·rename_i hn
   cases h with
   | eptr _ _ _ _ _ b sz k hd hb => exact .eptr _ _ _ _ _ b sz k hd ((G.drop_eq hn).trans hb)
   | eptrold _ _ _ _ _ N blk p hd hb hn2 => exact .eptrold _ _ _ _ _ N blk p hd ((G.drop_eq hn).trans hb) hn2
 own := own_drop
theorem lget_ren (r : Ren) (loc : Loc) (l : Nat) : (Loc.ren r loc).get l = (loc.get l).map (Entry.map r) := by
 induction loc with
 | nil => rfl
 | cons x t ih =>
   obtain ⟨k, x⟩ := x
   simp only [Loc.ren, List.map_cons, Loc.get]
   split
   ·rfl
   ·exact ih
theorem lget_filter (keep : List Nat) (loc : Loc) (l : Nat) : Loc.get (loc.filter fun x => keep.contains x.1) l = if l ∈ keep then loc.get l else none := by
 induction loc with
 | nil => simp [Loc.get]
 | cons x t ih =>
   obtain ⟨k, x⟩ := x
   simp only [List.filter_cons]
   split
   ·rename_i hk
    simp only [Loc.get]
    split
    ·rename_i h; subst h; rw [if_pos (by simpa using hk)]
    ·exact ih
   ·rename_i hk
    rw [ih]
    simp only [Loc.get]
    split
    ·split
     ·rename_i h1 h2; subst h2; exact absurd h1 (by simpa using hk)
     ·rfl
    ·rfl
theorem sget_lt {s : Stk} {d l : Nat} {x : Entry} (h : sget s d l = some x) : d < s.length := by
 apply Nat.lt_of_not_le; intro hle; rw [sget_none hle] at h; cases h
theorem SR.gc {K : KK} {s : Stk} {w : World} {γ : G} (h : SR K s w γ) (keep : List Nat) : SR K (gcStk keep s) w (γ.drop (dep s) keep) := by
 cases s with
 | nil =>
   refine ⟨fun d l x hx => by simp [gcStk, sget] at hx, fun d l _ => ?_, fun d l g d' l' g' b h1 h2 => h.inj d l g d' l' g' b (G.drop_some h1) (G.drop_some h2), fun l g b h1 => h.frn l g b (G.drop_some h1)⟩
   unfold G.drop; split
   ·rfl
   ·exact h.none d l rfl
 | cons loc r =>
   have hdep : dep (loc :: r) = r.length := by simp [dep]
   rw [hdep]
   refine ⟨fun d l x hx => ?_, fun d l hx => ?_, fun d l g d' l' g' b h1 h2 => h.inj d l g d' l' g' b (G.drop_some h1) (G.drop_some h2), fun l g b h1 => h.frn l g b (G.drop_some h1)⟩
   ·simp only [gcStk, sget] at hx
    split at hx
    ·rename_i hd
     subst hd
     rw [Loc.gc, lget_ren, lget_filter] at hx
     split at hx
     ·rename_i hk
      obtain ⟨y, hy, rfl⟩ := Option.map_eq_some_iff.1 hx
      have he := h.ent r.length l y (by simp [sget, hy])
      exact EnR.map he RenOk.drop (fun g h => (G.drop_eq (by simp [hk])).trans h)
     ·cases hx
    ·rename_i hd
     have he := h.ent d l x (by simp [sget, hd, hx])
     have hlt := sget_lt hx
     exact he.restrict (fun d' l' g h' h => (G.drop_eq (by omega)).trans h) own_drop
   ·simp only [gcStk, sget] at hx
    split at hx
    ·rename_i hd
     subst hd
     rw [Loc.gc, lget_ren, lget_filter] at hx
     unfold G.drop
     split
     ·rfl
     ·rename_i hk
      have hk' : l ∈ keep := by
       by_cases hm : l ∈ keep
       ·exact hm
       ·exact absurd ⟨rfl, hm⟩ hk
      rw [if_pos hk'] at hx
      exact h.none _ l (by simpa [sget] using hx)
    ·rename_i hd
     rw [G.drop_eq (by omega)]
     exact h.none d l (by simp [sget, hd, hx])
theorem gcStk_length (keep : List Nat) (s : Stk) : (gcStk keep s).length = s.length := by cases s <;> simp [gcStk]
theorem ER.gc {w : World} {γ : G} {e : Env} {a : Act} {s : Stk} (h : ER s.length w γ e a) (live keep : List Nat) : ER s.length w (γ.drop (dep s) keep) (gcEnv live keep e s) a :=
 ER.map RenOk.drop (h.only live)
theorem Ext.drop {D : Nat} {w : World} {γ : G} {d : Nat} {keep : List Nat} (hD : D ≤ d) : Ext D w γ w (γ.drop d keep) := by
 have hne : ∀ {d' l : Nat}, d' < D → γ.drop d keep d' l = γ d' l := fun h => G.drop_eq (by omega)
 refine ⟨rfl, rfl, rfl, Nat.le_refl _, fun d' l b h hb => by rw [hne h]; exact hb, fun d' l b h hb => by rw [hne h]; exact hb, fun d' l n blk h hb => ⟨n, blk, by rw [hne h]; exact hb, .inl ⟨rfl, rfl⟩⟩, fun d' l n blk h hb => ⟨n, blk, by rw [hne h]; exact hb, .inl ⟨rfl, rfl⟩⟩, fun _ _ _ h _ => h, fun b off _ hno ho => hno (own_drop b off ho), fun _ _ _ => rfl, fun _ => G.drop_none, fun _ _ _ _ _ => rfl⟩
end Go.Ab
