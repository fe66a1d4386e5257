/-
  How an abstract state reads in a world: the relations, and that they abide later worlds.
-/
import Derived.Test.YtlcnoldkekcifaaGreatAb1
import Derived.Laws.AppendOwn
import Derived.Laws.Cells
import Derived.Laws.StructEq
set_option linter.unusedSimpArgs false
set_option linter.unusedVariables false
namespace Go.Ab
inductive GE where
 | cell (b : Nat)
 | tok (n : Nat) (blk : Option (Nat × Nat × Nat))
 | obj (b : Nat)
 | arr (n : Nat) (blk : Option (Nat × Nat × Nat))
 | harr (lo n sz : Nat) (f : Nat → Nat × Nat)
def GE.owns : GE → Nat → Nat → Prop
 | .cell b, b', _ => b' = b
 | .obj b, b', _ => b' = b
 | .tok n (some (b, sz, _)), b', off => b' = b ∧ n * sz ≤ off
 | .tok _ none, _, _ => False
 | .arr _ (some (b, _, _)), b', _ => b' = b
 | .arr _ none, _, _ => False
 | .harr _ n _ f, b', _ => b' = (f n).1
def GE.blk : GE → Option Nat
 | .cell b => some b
 | .obj b => some b
 | .tok _ (some (b, _, _)) => some b
 | .tok _ none => none
 | .arr _ (some (b, _, _)) => some b
 | .arr _ none => none
 | .harr _ n _ f => some (f n).1
abbrev G := Option Nat → Nat → Option GE
def Own (γ : G) (b off : Nat) : Prop := ∃ (d : Option Nat) (l : Nat) (g : GE), γ d l = some g ∧ g.owns b off
def capOk (D : Nat) (γ : G) (c : Cap) (sz : Nat) (base : Option Addr) (len cap : Nat) : Prop :=
 match c with
 | .no => True
 | .full => cap = len
 | .own d l => d < D ∧ ∃ n blk, γ d l = some (.tok n blk) ∧ len ≤ n ∧ (n = len → match blk with
   | none => cap = len
   | some (b, sz', k) => base = some ⟨b, 0, none⟩ ∧ cap = k ∧ sz' = sz)
inductive VR (D : Nat) (w : World) (γ : G) : V → Value → Prop where
 | undef (u : Value) : VR D w γ .undef u
 | skip : VR D w γ .skip undef
 | int (k : IntKind) (n : Int) : VR D w γ (.int k n) (.int k n)
 | bool (b : Bool) : VR D w γ (.bool b) (.bool b)
 | anyb (b : Bool) : VR D w γ .anyb (.bool b)
 | csl (p : V) (n cap : Nat) (a : Addr) (hle : n ≤ cap) (h : VR D w γ p (.pointer (some a))) : VR D w γ (.csl p n) (.slice (some a) n cap)
 | agg (cs : List V) (us : Array Value) (hl : cs.length = us.size) (h : ∀ (i : Nat) v u, cs[i]? = some v → us[i]? = some u → VR D w γ v u) : VR D w γ (.agg cs) (.agg us)
 | tup (cs : List V) (us : Array Value) (hl : cs.length = us.size) (h : ∀ (i : Nat) v u, cs[i]? = some v → us[i]? = some u → VR D w γ v u) : VR D w γ (.tup cs) (.tuple us)
 | nilp : VR D w γ .nilp (.pointer none)
 | ptr (d l off b : Nat) (hd : d < D) (hb : γ d l = some (.cell b)) : VR D w γ (.ptr d l off) (.pointer (some ⟨b, off, none⟩))
 | ep (cs : List V) (b off : Nat) (hp : V.pureAll cs = true) (hc : ∀ (i : Nat) v, cs[i]? = some v → ∃ u, w.cell? ⟨b, off + i, none⟩ = some u)
  (hno : ∀ (i : Nat) v, cs[i]? = some v → ¬ Own γ b (off + i))
  (h : ∀ (i : Nat) v u, cs[i]? = some v → w.cell? ⟨b, off + i, none⟩ = some u → VR D w γ v u) : VR D w γ (.ep cs) (.pointer (some ⟨b, off, none⟩))
 | slnil (c : Cap) (sz : Nat) (hcap : capOk D γ c sz none 0 0) : VR D w γ (.sl c sz []) (.slice none 0 0)
 | sl0 (c : Cap) (sz : Nat) (a : Addr) (cap : Nat) (hcap : capOk D γ c sz (some a) 0 cap) : VR D w γ (.sl c sz []) (.slice (some a) 0 cap)
 | sl (c : Cap) (sz : Nat) (es : List (List V)) (b off cap : Nat) (hsz : ∀ cs, cs ∈ es → cs.length = sz) (hp : ∀ cs, cs ∈ es → V.elemAll cs = true)
  (hle : es.length ≤ cap) (hcap : capOk D γ c sz (some ⟨b, off, none⟩) es.length cap)
  (hc : ∀ (i : Nat) (cs : List V) (j : Nat) v, es[i]? = some cs → cs[j]? = some v → ∃ u, w.cell? ⟨b, off + (i * sz + j), none⟩ = some u)
  (hno : ∀ (i : Nat) (cs : List V) (j : Nat) v, es[i]? = some cs → cs[j]? = some v → ¬ Own γ b (off + (i * sz + j)))
  (h : ∀ (i : Nat) (cs : List V) (j : Nat) v u, es[i]? = some cs → cs[j]? = some v → w.cell? ⟨b, off + (i * sz + j), none⟩ = some u → VR D w γ v u) :
  VR D w γ (.sl c sz es) (.slice (some ⟨b, off, none⟩) es.length cap)
 | fn (f : FuncId) (first cap : List V) (us ws : Array Value) (h1 : first.length = us.size) (h2 : cap.length = ws.size)
  (k1 : ∀ (i : Nat) v u, first[i]? = some v → us[i]? = some u → VR D w γ v u) (k2 : ∀ (i : Nat) v u, cap[i]? = some v → ws[i]? = some u → VR D w γ v u) : VR D w γ (.fn f first cap) (.func (.func f) us ws)
 | nilf : VR D w γ .nilf .nilFunc
 | yld (d l b : Nat) (hd : d < D) (hb : γ d l = some (.obj b)) : VR D w γ (.yld d l) (.func (.yield b) #[] #[])
 | asl (d l sz n off len b k : Nat) (hd : d < D) (hb : γ d l = some (.arr n (some (b, sz, k)))) (hle : off + len ≤ n) (hk : n ≤ k) : VR D w γ (.asl d l sz n off len) (.slice (some ⟨b, off * sz, none⟩) len (k - off))
 | aslnil (d l sz : Nat) (base : Option Addr) (hd : d < D) (hb : γ d l = some (.arr 0 none)) : VR D w γ (.asl d l sz 0 0 0) (.slice base 0 0)
 | aslold (d l sz n off len N : Nat) (blk : Option (Nat × Nat × Nat)) (base : Option Addr) (ln cp : Nat) (hd : d < D) (hb : γ d l = some (.arr N blk)) (hn : n < N) : VR D w γ (.asl d l sz n off len) (.slice base ln cp)
 | eptr (d l n i j b sz k : Nat) (hd : d < D) (hb : γ d l = some (.arr n (some (b, sz, k)))) : VR D w γ (.eptr d l n i j) (.pointer (some ⟨b, i * sz + j, none⟩))
 | aslh (d l sz n off len lo N : Nat) (f : Nat → Nat × Nat) (hd : d < D) (hb : γ d l = some (.harr lo N sz f)) (hn : lo ≤ n ∧ n ≤ N) (hle : off + len ≤ n) (hk : n ≤ (f n).2) : VR D w γ (.asl d l sz n off len) (.slice (some ⟨(f n).1, off * sz, none⟩) len ((f n).2 - off))
 | eptrh (d l n i j sz lo N : Nat) (f : Nat → Nat × Nat) (hd : d < D) (hb : γ d l = some (.harr lo N sz f)) (hn : lo ≤ n ∧ n ≤ N) : VR D w γ (.eptr d l n i j) (.pointer (some ⟨(f n).1, i * sz + j, none⟩))
 | aslho (d l sz n off len lo N sz' : Nat) (f : Nat → Nat × Nat) (base : Option Addr) (ln cp : Nat) (hd : d < D) (hb : γ d l = some (.harr lo N sz' f)) (hn : n < lo) : VR D w γ (.asl d l sz n off len) (.slice base ln cp)
 | eptrho (d l n i j lo N sz' : Nat) (f : Nat → Nat × Nat) (p : Option Addr) (hd : d < D) (hb : γ d l = some (.harr lo N sz' f)) (hn : n < lo) : VR D w γ (.eptr d l n i j) (.pointer p)
 | eptrold (d l n i j N : Nat) (blk : Option (Nat × Nat × Nat)) (p : Option Addr) (hd : d < D) (hb : γ d l = some (.arr N blk)) (hn : n < N) : VR D w γ (.eptr d l n i j) (.pointer p)
structure Ext (D : Nat) (w : World) (γ : G) (w' : World) (γ' : G) : Prop where
 os : w'.os = w.os
 tape : w'.tape = w.tape
 output : w'.output = w.output
 size : w.heap.size ≤ w'.heap.size
 drawn : w.drawn ≤ w'.drawn
 cell : ∀ (d l b : Nat), d < D → γ d l = some (.cell b) → γ' d l = some (.cell b)
 obj : ∀ (d l b : Nat), d < D → γ d l = some (.obj b) → γ' d l = some (.obj b)
 arr : ∀ (d l n : Nat) blk, d < D → γ d l = some (.arr n blk) → ∃ n' blk', γ' d l = some (.arr n' blk') ∧ (n' = n ∧ blk' = blk ∨ n < n')
 harr : ∀ (d l lo N sz : Nat) (f : Nat → Nat × Nat), d < D → γ d l = some (.harr lo N sz f) → ∃ lo' N' f', γ' d l = some (.harr lo' N' sz f') ∧ lo ≤ lo' ∧ N ≤ N' ∧ ∀ m, lo' ≤ m → m ≤ N → f' m = f m
 tok : ∀ (d l n : Nat) blk, d < D → γ d l = some (.tok n blk) → ∃ n' blk', γ' d l = some (.tok n' blk') ∧ (n' = n ∧ blk' = blk ∨ n < n')
 keep : ∀ b off u, w.cell? ⟨b, off, none⟩ = some u → ¬ Own γ b off → w'.cell? ⟨b, off, none⟩ = some u
 free : ∀ b off, b < w.heap.size → ¬ Own γ b off → ¬ Own γ' b off
 block : ∀ b, b < w.heap.size → (∀ off, ¬ Own γ b off) → w'.heap[b]? = w.heap[b]?
 frn : ∀ l, γ' none l = γ none l
 fheap : ∀ l g b, γ none l = some g → g.blk = some b → w'.heap[b]? = w.heap[b]?
theorem Ext.refl (D : Nat) (w : World) (γ : G) : Ext D w γ w γ :=
 ⟨rfl, rfl, rfl, Nat.le_refl _, Nat.le_refl _, fun _ _ _ _ h => h, fun _ _ _ _ h => h, fun _ _ n blk _ h => ⟨n, blk, h, .inl ⟨rfl, rfl⟩⟩, fun _ _ lo N _ f _ h => ⟨lo, N, f, h, Nat.le_refl _, Nat.le_refl _, fun _ _ _ => rfl⟩, fun _ _ n blk _ h => ⟨n, blk, h, .inl ⟨rfl, rfl⟩⟩, fun _ _ _ h _ => h, fun _ _ _ h => h, fun _ _ _ => rfl, fun _ => rfl, fun _ _ _ _ _ => rfl⟩
theorem Ext.mono {D D' : Nat} {w w' : World} {γ γ' : G} (h : Ext D w γ w' γ') (hD : D' ≤ D) : Ext D' w γ w' γ' :=
 ⟨h.os, h.tape, h.output, h.size, h.drawn, fun d l b hd => h.cell d l b (by omega), fun d l b hd => h.obj d l b (by omega), fun d l n blk hd => h.arr d l n blk (by omega), fun d l lo N sz f hd => h.harr d l lo N sz f (by omega), fun d l n blk hd => h.tok d l n blk (by omega), h.keep, h.free, h.block, h.frn, h.fheap⟩
theorem Ext.trans {D : Nat} {w w1 w2 : World} {γ γ1 γ2 : G} (h : Ext D w γ w1 γ1) (k : Ext D w1 γ1 w2 γ2) : Ext D w γ w2 γ2 := by
 refine ⟨k.os.trans h.os, k.tape.trans h.tape, k.output.trans h.output, Nat.le_trans h.size k.size, Nat.le_trans h.drawn k.drawn, fun d l b hd hb => k.cell d l b hd (h.cell d l b hd hb), fun d l b hd hb => k.obj d l b hd (h.obj d l b hd hb), ?_, ?_, ?_, ?_, ?_, ?_, fun l => (k.frn l).trans (h.frn l),
  fun l g b hg hb => (k.fheap l g b ((h.frn l).trans hg) hb).trans (h.fheap l g b hg hb)⟩
 ·intro d l n blk hd hb
  obtain ⟨n1, blk1, h1, h2⟩ := h.arr d l n blk hd hb
  obtain ⟨n2, blk2, k1, k2⟩ := k.arr d l n1 blk1 hd h1
  refine ⟨n2, blk2, k1, ?_⟩
  rcases h2 with ⟨rfl, rfl⟩ | h2
  ·exact k2
  ·rcases k2 with ⟨rfl, rfl⟩ | k2
   ·exact .inr h2
   ·exact .inr (by omega)
 ·intro d l lo N sz f hd hb
  obtain ⟨lo1, N1, f1, h1, h2, h3, h4⟩ := h.harr d l lo N sz f hd hb
  obtain ⟨lo2, N2, f2, k1, k2, k3, k4⟩ := k.harr d l lo1 N1 sz f1 hd h1
  exact ⟨lo2, N2, f2, k1, by omega, by omega, fun m m1 m2 => (k4 m m1 (by omega)).trans (h4 m (by omega) m2)⟩
 ·intro d l n blk hd hb
  obtain ⟨n1, blk1, h1, h2⟩ := h.tok d l n blk hd hb
  obtain ⟨n2, blk2, k1, k2⟩ := k.tok d l n1 blk1 hd h1
  refine ⟨n2, blk2, k1, ?_⟩
  rcases h2 with ⟨rfl, rfl⟩ | h2
  ·exact k2
  ·rcases k2 with ⟨rfl, rfl⟩ | k2
   ·exact .inr h2
   ·exact .inr (by omega)
 ·intro b off u hc hn
  have hlt : b < w.heap.size := World.block_lt_of_cell? w _ hc
  exact k.keep b off u (h.keep b off u hc hn) (h.free b off hlt hn)
 ·intro b off hlt hn
  exact k.free b off (Nat.lt_of_lt_of_le hlt h.size) (h.free b off hlt hn)
 ·intro b hlt hn
  rw [k.block b (Nat.lt_of_lt_of_le hlt h.size) (fun off => h.free b off hlt (hn off)), h.block b hlt hn]
theorem capOk.ext {D : Nat} {w w' : World} {γ γ' : G} {c : Cap} {sz : Nat} {base : Option Addr} {len cap : Nat} (h : capOk D γ c sz base len cap) (x : Ext D w γ w' γ') : capOk D γ' c sz base len cap := by
 cases c with
 | no => trivial
 | full => exact h
 | own d l =>
   obtain ⟨hd, n, blk, h1, h2, h3⟩ := h
   obtain ⟨n', blk', k1, k2⟩ := x.tok d l n blk hd h1
   refine ⟨hd, n', blk', k1, ?_, ?_⟩
   ·rcases k2 with ⟨rfl, rfl⟩ | k2 <;> omega
   ·intro e
    rcases k2 with ⟨rfl, rfl⟩ | k2
    ·exact h3 e
    ·omega
theorem capOk.mono {D D' : Nat} {γ : G} {c : Cap} {sz : Nat} {base : Option Addr} {len cap : Nat} (h : capOk D γ c sz base len cap) (hD : D ≤ D') : capOk D' γ c sz base len cap := by
 cases c with
 | no => trivial
 | full => exact h
 | own d l => obtain ⟨hd, r⟩ := h; exact ⟨by omega, r⟩
theorem VR.ext {D : Nat} {w w' : World} {γ γ' : G} {v : V} {u : Value} (h : VR D w γ v u) (x : Ext D w γ w' γ') : VR D w' γ' v u := by
 induction h with
 | undef u => exact .undef u
 | skip => exact .skip
 | int k n => exact .int k n
 | bool b => exact .bool b
 | anyb b => exact .anyb b
 | csl p n cap a hle _ ih => exact .csl p n cap a hle ih
 | agg cs us hl _ ih => exact .agg cs us hl ih
 | tup cs us hl _ ih => exact .tup cs us hl ih
 | nilp => exact .nilp
 | ptr d l off b hd hb => exact .ptr d l off b hd (x.cell d l b hd hb)
 | ep cs b off hp hc hno _ ih =>
   refine .ep cs b off hp (fun i v hv => ?_) (fun i v hv => ?_) (fun i v u hv hu => ?_)
   ·obtain ⟨u, hu⟩ := hc i v hv
    exact ⟨u, x.keep _ _ _ hu (hno i v hv)⟩
   ·obtain ⟨u, hu⟩ := hc i v hv
    exact x.free _ _ (World.block_lt_of_cell? w _ hu) (hno i v hv)
   ·obtain ⟨u', hu'⟩ := hc i v hv
    have := x.keep _ _ _ hu' (hno i v hv)
    rw [this] at hu
    cases hu
    exact ih i v _ hv hu'
 | slnil c sz hcap => exact .slnil c sz (hcap.ext x)
 | sl0 c sz a cap hcap => exact .sl0 c sz a cap (hcap.ext x)
 | sl c sz es b off cap hsz hp hle hcap hc hno _ ih =>
   refine .sl c sz es b off cap hsz hp hle (hcap.ext x) (fun i cs j v hi hj => ?_) (fun i cs j v hi hj => ?_) (fun i cs j v u hi hj hu => ?_)
   ·obtain ⟨u, hu⟩ := hc i cs j v hi hj
    exact ⟨u, x.keep _ _ _ hu (hno i cs j v hi hj)⟩
   ·obtain ⟨u, hu⟩ := hc i cs j v hi hj
    exact x.free _ _ (World.block_lt_of_cell? w _ hu) (hno i cs j v hi hj)
   ·obtain ⟨u', hu'⟩ := hc i cs j v hi hj
    have := x.keep _ _ _ hu' (hno i cs j v hi hj)
    rw [this] at hu
    cases hu
    exact ih i cs j v _ hi hj hu'
 | fn f first cap us ws h1 h2 _ _ i1 i2 => exact .fn f first cap us ws h1 h2 i1 i2
 | nilf => exact .nilf
 | yld d l b hd hb => exact .yld d l b hd (x.obj d l b hd hb)
 | asl d l sz n off len b k hd hb hle hk =>
   obtain ⟨n', blk', h1, ⟨rfl, rfl⟩ | h2⟩ := x.arr d l _ _ hd hb
   ·exact .asl d l sz _ off len b k hd h1 hle hk
   ·exact .aslold d l sz n off len n' blk' _ _ _ hd h1 h2
 | aslnil d l sz base hd hb =>
   obtain ⟨n', blk', h1, ⟨rfl, rfl⟩ | h2⟩ := x.arr d l _ _ hd hb
   ·exact .aslnil d l sz base hd h1
   ·exact .aslold d l sz 0 0 0 n' blk' _ _ _ hd h1 h2
 | aslold d l sz n off len N blk base ln cp hd hb hn =>
   obtain ⟨n', blk', h1, h2⟩ := x.arr d l _ _ hd hb
   exact .aslold d l sz n off len n' blk' _ _ _ hd h1 (by rcases h2 with ⟨rfl, _⟩ | h2 <;> omega)
 | eptr d l n i j b sz k hd hb =>
   obtain ⟨n', blk', h1, ⟨rfl, rfl⟩ | h2⟩ := x.arr d l _ _ hd hb
   ·exact .eptr d l _ i j b sz k hd h1
   ·exact .eptrold d l n i j n' blk' _ hd h1 h2
 | aslh d l sz n off len lo N f hd hb hn hle hk =>
   obtain ⟨lo', N', f', h1, h2, h3, h4⟩ := x.harr d l lo N sz f hd hb
   by_cases hm : lo' ≤ n
   ·rw [← h4 n hm hn.2] at hk ⊢
    exact .aslh d l sz n off len lo' N' f' hd h1 ⟨hm, by omega⟩ hle hk
   ·exact .aslho d l sz n off len lo' N' sz f' _ _ _ hd h1 (by omega)
 | eptrh d l n i j sz lo N f hd hb hn =>
   obtain ⟨lo', N', f', h1, h2, h3, h4⟩ := x.harr d l lo N sz f hd hb
   by_cases hm : lo' ≤ n
   ·rw [← h4 n hm hn.2]
    exact .eptrh d l n i j sz lo' N' f' hd h1 ⟨hm, by omega⟩
   ·exact .eptrho d l n i j lo' N' sz f' _ hd h1 (by omega)
 | aslho d l sz n off len lo N sz' f base ln cp hd hb hn =>
   obtain ⟨lo', N', f', h1, h2, h3, h4⟩ := x.harr d l lo N sz' f hd hb
   exact .aslho d l sz n off len lo' N' sz' f' base ln cp hd h1 (by omega)
 | eptrho d l n i j lo N sz' f p hd hb hn =>
   obtain ⟨lo', N', f', h1, h2, h3, h4⟩ := x.harr d l lo N sz' f hd hb
   exact .eptrho d l n i j lo' N' sz' f' p hd h1 (by omega)
 | eptrold d l n i j N blk p hd hb hn =>
   obtain ⟨n', blk', h1, h2⟩ := x.arr d l _ _ hd hb
   exact .eptrold d l n i j n' blk' _ hd h1 (by rcases h2 with ⟨rfl, _⟩ | h2 <;> omega)
theorem VR.mono {D D' : Nat} {w : World} {γ : G} {v : V} {u : Value} (h : VR D w γ v u) (hD : D ≤ D') : VR D' w γ v u := by
 induction h with
 | undef u => exact .undef u
 | skip => exact .skip
 | int k n => exact .int k n
 | bool b => exact .bool b
 | anyb b => exact .anyb b
 | csl p n cap a hle _ ih => exact .csl p n cap a hle ih
 | agg cs us hl _ ih => exact .agg cs us hl ih
 | tup cs us hl _ ih => exact .tup cs us hl ih
 | nilp => exact .nilp
 | ptr d l off b hd hb => exact .ptr d l off b (by omega) hb
 | ep cs b off hp hc hno _ ih => exact .ep cs b off hp hc hno ih
 | slnil c sz hcap => exact .slnil c sz (hcap.mono hD)
 | sl0 c sz a cap hcap => exact .sl0 c sz a cap (hcap.mono hD)
 | sl c sz es b off cap hsz hp hle hcap hc hno _ ih => exact .sl c sz es b off cap hsz hp hle (hcap.mono hD) hc hno ih
 | fn f first cap us ws h1 h2 _ _ i1 i2 => exact .fn f first cap us ws h1 h2 i1 i2
 | nilf => exact .nilf
 | yld d l b hd hb => exact .yld d l b (by omega) hb
 | asl d l sz n off len b k hd hb hle hk => exact .asl d l sz n off len b k (by omega) hb hle hk
 | aslnil d l sz base hd hb => exact .aslnil d l sz base (by omega) hb
 | aslold d l sz n off len N blk base ln cp hd hb hn => exact .aslold d l sz n off len N blk _ _ _ (by omega) hb hn
 | eptr d l n i j b sz k hd hb => exact .eptr d l n i j b sz k (by omega) hb
 | eptrold d l n i j N blk p hd hb hn => exact .eptrold d l n i j N blk p (by omega) hb hn
 | aslh d l sz n off len lo N f hd hb hn hle hk => exact .aslh d l sz n off len lo N f (by omega) hb hn hle hk
 | eptrh d l n i j sz lo N f hd hb hn => exact .eptrh d l n i j sz lo N f (by omega) hb hn
 | aslho d l sz n off len lo N sz' f base ln cp hd hb hn => exact .aslho d l sz n off len lo N sz' f base ln cp (by omega) hb hn
 | eptrho d l n i j lo N sz' f p hd hb hn => exact .eptrho d l n i j lo N sz' f p (by omega) hb hn
def LR (D : Nat) (w : World) (γ : G) (vs : List V) (us : List Value) : Prop := vs.length = us.length ∧ ∀ (i : Nat) v u, vs[i]? = some v → us[i]? = some u → VR D w γ v u
theorem LR.ext {D w γ w' γ'} {vs : List V} {us : List Value} (h : LR D w γ vs us) (x : Ext D w γ w' γ') : LR D w' γ' vs us := ⟨h.1, fun i v u hv hu => (h.2 i v u hv hu).ext x⟩
theorem LR.mono {D D' w γ} {vs : List V} {us : List Value} (h : LR D w γ vs us) (hD : D ≤ D') : LR D' w γ vs us := ⟨h.1, fun i v u hv hu => (h.2 i v u hv hu).mono hD⟩
theorem LR.nil {D w γ} : LR D w γ [] [] := ⟨rfl, fun i v u hv => by simp at hv⟩
theorem LR.cons {D w γ} {v : V} {u : Value} {vs : List V} {us : List Value} (h : VR D w γ v u) (h' : LR D w γ vs us) : LR D w γ (v :: vs) (u :: us) := by
 refine ⟨by simp [h'.1], fun i a b ha hb => ?_⟩
 cases i with
 | zero => simp at ha hb; subst ha hb; exact h
 | succ i => simp at ha hb; exact h'.2 i a b ha hb
theorem LR.inv {D w γ} {v : V} {vs : List V} {us : List Value} (h : LR D w γ (v :: vs) us) : ∃ u us', us = u :: us' ∧ VR D w γ v u ∧ LR D w γ vs us' := by
 cases us with
 | nil => have := h.1; simp at this
 | cons u us' =>
   refine ⟨u, us', rfl, h.2 0 v u rfl rfl, by have := h.1; simpa using this, fun i a b ha hb => h.2 (i + 1) a b (by simpa using ha) (by simpa using hb)⟩
theorem LR.append {D w γ} {vs vs' : List V} {us us' : List Value} (h : LR D w γ vs us) (h' : LR D w γ vs' us') : LR D w γ (vs ++ vs') (us ++ us') := by
 refine ⟨by simp [h.1, h'.1], fun i a b ha hb => ?_⟩
 by_cases hi : i < vs.length
 ·rw [List.getElem?_append_left hi] at ha
  rw [List.getElem?_append_left (by rw [← h.1]; exact hi)] at hb
  exact h.2 i a b ha hb
 ·rw [List.getElem?_append_right (by omega)] at ha
  rw [List.getElem?_append_right (by rw [← h.1]; omega)] at hb
  rw [← h.1] at hb
  exact h'.2 _ a b ha hb
theorem LR.drop {D w γ} {vs : List V} {us : List Value} (h : LR D w γ vs us) (n : Nat) : LR D w γ (vs.drop n) (us.drop n) :=
 ⟨by simp [h.1], fun i a b ha hb => h.2 (n + i) a b (by simpa using ha) (by simpa using hb)⟩
theorem LR.take {D w γ} {vs : List V} {us : List Value} (h : LR D w γ vs us) (n : Nat) : LR D w γ (vs.take n) (us.take n) := by
 refine ⟨by simp [h.1], fun i a b ha hb => ?_⟩
 rw [List.getElem?_take] at ha hb
 split at ha
 ·rename_i hi
  simp only [hi, if_true] at hb
  exact h.2 i a b ha hb
 ·cases ha
theorem LR.set {D w γ} {vs : List V} {us : List Value} (h : LR D w γ vs us) (n : Nat) {v : V} {u : Value} (hv : VR D w γ v u) : LR D w γ (vs.set n v) (us.set n u) := by
 refine ⟨by simp [h.1], fun i a b ha hb => ?_⟩
 rw [List.getElem?_set] at ha hb
 split at ha
 ·rename_i hi
  subst hi
  simp only [if_true] at hb
  split at ha
  ·rename_i hlt
   rw [if_pos (by rw [← h.1]; exact hlt)] at hb
   cases ha; cases hb; exact hv
  ·cases ha
 ·rename_i hi
  rw [if_neg hi] at hb
  exact h.2 i a b ha hb
def Ex.code : Ex → Code
 | .normal => .skip
 | .exit id => .exit id
 | .ret => .ret
abbrev KK := List Nat → AC → AC → FuncId → Nat → Array Tmp → Code → Code → Prop
def EnR (K : KK) (w : World) (γ : G) (d l : Nat) : Entry → Prop
 | .cell cs => ∃ b c e, γ d l = some (.cell b) ∧ w.heap[b]? = some (.cells c e (0, 0)) ∧ LR (d + 1) w γ cs c.toList
 | .tok n => ∃ blk, γ d l = some (.tok n blk) ∧ ∀ b sz k, blk = some (b, sz, k) → ∃ c e, w.heap[b]? = some (.cells c e (0, 0)) ∧ n ≤ k ∧ c.size = k * sz ∧ 0 < sz ∧ k ≤ maxLen
 | .arr sz es => ∃ blk, γ d l = some (.arr es.length blk) ∧ (∀ cs, cs ∈ es → cs.length = sz) ∧ match blk with
   | none => es = []
   | some (b, sz', k) => sz' = sz ∧ ∃ c e, w.heap[b]? = some (.cells c e (0, 0)) ∧ es.length ≤ k ∧ c.size = k * sz ∧ 0 < sz ∧ k ≤ maxLen ∧
     ∀ (i : Nat) cs (j : Nat) v u, es[i]? = some cs → cs[j]? = some v → c[i * sz + j]? = some u → VR (d + 1) w γ v u
 | .harr lo sz es => ∃ f, γ d l = some (.harr lo es.length sz f) ∧ (∀ cs, cs ∈ es → cs.length = sz ∧ V.elemAll cs = true) ∧ 0 < sz ∧ lo ≤ es.length ∧
  (∃ c e, w.heap[(f es.length).1]? = some (.cells c e (0, 0)) ∧ c.size = (f es.length).2 * sz ∧ (f es.length).2 ≤ maxLen) ∧
  ∀ m, lo ≤ m → m ≤ es.length → m ≤ (f m).2 ∧ ((f m).1 = (f es.length).1 ∨ (f m).1 < w.heap.size ∧ ∀ off, ¬ Own γ (f m).1 off) ∧
  ∀ (i : Nat) cs (j : Nat) v, i < m → es[i]? = some cs → cs[j]? = some v → ∃ u, w.cell? ⟨(f m).1, i * sz + j, Option.none⟩ = some u ∧ VR (d + 1) w γ v u
 | .loop ps A B env st pend => ∃ b r, γ d l = some (.obj b) ∧ w.heap[b]? = some (.loop r) ∧ K ps A B r.fn r.tmps.size r.params r.assign r.body ∧
  (∀ t, VR (d + 1) w γ (env.get t) (r.tmps.getD t undef)) ∧ r.state = st ∧ r.pending = pend.map Ex.code
structure SR (K : KK) (s : Stk) (w : World) (γ : G) : Prop where
 ent : ∀ d l x, sget s d l = some x → EnR K w γ d l x
 none : ∀ (d l : Nat), sget s d l = none → γ d l = none
 inj : ∀ (d : Option Nat) (l : Nat) (g : GE) (d' : Option Nat) (l' : Nat) (g' : GE) (b : Nat), γ d l = some g → γ d' l' = some g' → g.blk = some b → g'.blk = some b → d = d' ∧ l = l'
 frn : ∀ l g b, γ .none l = some g → g.blk = some b → b < w.heap.size
theorem sget_none {s : Stk} {d l : Nat} (h : s.length ≤ d) : sget s d l = none := by
 induction s with
 | nil => rfl
 | cons loc r ih =>
   simp only [sget]
   rw [if_neg (by simp at h; omega)]
   exact ih (by simp at h; omega)
theorem SR.lt {K s w γ} (h : SR K s w γ) {d l : Nat} {g} (hg : γ d l = some g) : d < s.length := by
 apply Nat.lt_of_not_le
 intro hle
 rw [h.none d l (sget_none hle)] at hg
 cases hg
theorem SR.cell {K s w γ} (h : SR K s w γ) {d l : Nat} {cs} (hs : sget s d l = some (.cell cs)) : ∃ b c e, γ d l = some (.cell b) ∧ w.heap[b]? = some (.cells c e (0, 0)) ∧ LR (d + 1) w γ cs c.toList := h.ent d l _ hs
theorem SR.tok {K s w γ} (h : SR K s w γ) {d l n : Nat} (hs : sget s d l = some (.tok n)) : ∃ blk, γ d l = some (.tok n blk) ∧ ∀ b sz k, blk = some (b, sz, k) → ∃ c e, w.heap[b]? = some (.cells c e (0, 0)) ∧ n ≤ k ∧ c.size = k * sz ∧ 0 < sz ∧ k ≤ maxLen := h.ent d l _ hs
theorem lget_put_same (loc : Loc) (l : Nat) (x : Entry) : (loc.put l x).get l = some x := by
 induction loc with
 | nil => simp [Loc.put, Loc.get]
 | cons y r ih =>
   obtain ⟨k, y⟩ := y
   simp only [Loc.put]
   split
   ·rename_i h; subst h; simp [Loc.get]
   ·rename_i h; simp [Loc.get, h, ih]
theorem lget_put_other (loc : Loc) {l l' : Nat} (x : Entry) (h : l' ≠ l) : (loc.put l x).get l' = loc.get l' := by
 induction loc with
 | nil => simp [Loc.put, Loc.get, h]
 | cons y r ih =>
   obtain ⟨k, y⟩ := y
   simp only [Loc.put]
   split
   ·rename_i hk; subst hk; simp [Loc.get, h]
   ·simp only [Loc.get]; split <;> simp_all
@[simp] theorem sput_length (s : Stk) (d l : Nat) (x : Entry) : (sput s d l x).length = s.length := by
 induction s with
 | nil => rfl
 | cons loc r ih => simp only [sput]; split <;> simp [ih]
theorem sget_put_same (s : Stk) {d : Nat} (l : Nat) (x : Entry) (h : d < s.length) : sget (sput s d l x) d l = some x := by
 induction s with
 | nil => simp at h
 | cons loc r ih =>
   simp only [sput]
   split
   ·rename_i hd; simp [sget, hd, lget_put_same]
   ·rename_i hd; simp only [sget, sput_length, hd, if_false]; exact ih (by simp at h; omega)
theorem sget_put_other (s : Stk) {d l d' l' : Nat} (x : Entry) (h : ¬ (d' = d ∧ l' = l)) : sget (sput s d l x) d' l' = sget s d' l' := by
 induction s with
 | nil => rfl
 | cons loc r ih =>
   simp only [sput]
   split
   ·rename_i hd
    simp only [sget]
    split
    ·rename_i hd'; rw [lget_put_other]; intro e; exact h ⟨by omega, e⟩
    ·rfl
   ·rename_i hd
    simp only [sget, sput_length]
    split
    ·rfl
    ·exact ih
theorem EnR.ext {K : KK} {w w' : World} {γ γ' : G} {d l : Nat} {x : Entry} {D : Nat} (h : EnR K w γ d l x) (hd : d < D) (hx : Ext D w γ w' γ') (hg : γ' d l = γ d l)
 (hb : ∀ g b, γ d l = some g → g.blk = some b → w'.heap[b]? = w.heap[b]?) : EnR K w' γ' d l x := by
 cases x with
 | cell cs =>
   obtain ⟨b, c, e, h1, h2, h3⟩ := h
   exact ⟨b, c, e, hg.trans h1, (hb _ b h1 rfl).trans h2, h3.ext (hx.mono (by omega))⟩
 | tok n =>
   obtain ⟨blk, h1, h2⟩ := h
   refine ⟨blk, hg.trans h1, fun b sz k e => ?_⟩
   obtain ⟨c, el, h3, h4⟩ := h2 b sz k e
   exact ⟨c, el, (hb _ b h1 (by rw [e]; rfl)).trans h3, h4⟩
 | arr sz es =>
   obtain ⟨blk, h1, h0, h2⟩ := h
   refine ⟨blk, hg.trans h1, h0, ?_⟩
   cases blk with
   | none => exact h2
   | some x =>
     obtain ⟨b, sz', k⟩ := x
     obtain ⟨e1, c, e, h3, h4, h5, h6, h7, h8⟩ := h2
     exact ⟨e1, c, e, (hb _ b h1 rfl).trans h3, h4, h5, h6, h7, fun i cs j v u k1 k2 k3 => (h8 i cs j v u k1 k2 k3).ext (hx.mono (by omega))⟩
 | harr lo sz es =>
   obtain ⟨f, h1, h0, hz, hlo, ⟨c, e, h4, h5, h6⟩, h2⟩ := h
   have hcur := hb _ (f es.length).1 h1 rfl
   refine ⟨f, hg.trans h1, h0, hz, hlo, ⟨c, e, hcur.trans h4, h5, h6⟩, fun m m1 m2 => ?_⟩
   obtain ⟨h7, h3, h8⟩ := h2 m m1 m2
   refine ⟨h7, ?_, fun i cs j v k0 k1 k2 => ?_⟩
   ·rcases h3 with h3 | h3
    ·exact .inl h3
    ·exact .inr ⟨Nat.lt_of_lt_of_le h3.1 hx.size, fun off' => hx.free _ off' h3.1 (h3.2 off')⟩
   ·obtain ⟨u, k3, k4⟩ := h8 i cs j v k0 k1 k2
    refine ⟨u, ?_, k4.ext (hx.mono (by omega))⟩
    rcases h3 with h3 | h3
    ·simp only [World.cell?, h3, hcur] at k3 ⊢; exact k3
    ·exact hx.keep _ _ _ k3 (h3.2 _)
 | loop ps A B env o p =>
   obtain ⟨b, r, h1, h2, h3, h4, h5⟩ := h
   exact ⟨b, r, hg.trans h1, (hb _ b h1 rfl).trans h2, h3, fun t => (h4 t).ext (hx.mono (by omega)), h5⟩
def ER (D : Nat) (w : World) (γ : G) (e : Env) (a : Act) : Prop := ∀ t, VR D w γ (e.get t) (a.tmps.getD t undef)
theorem ER.ext {D w γ w' γ'} {e : Env} {a : Act} (h : ER D w γ e a) (x : Ext D w γ w' γ') : ER D w' γ' e a := fun t => (h t).ext x
theorem ER.put {D w γ} {e : Env} {a : Act} (h : ER D w γ e a) {dst : Option Nat} {v : V} {u : Value} (hv : VR D w γ v u) (hd : ∀ d, dst = some d → d < a.tmps.size) : ER D w γ (setDst dst v e) (a.put dst u) := by
 intro t
 cases dst with
 | none => exact h t
 | some d =>
   have hd := hd d rfl
   simp only [setDst, Env.get, Act.put]
   split
   ·rename_i e; subst e; simpa [hd] using hv
   ·rename_i hne
    have h1 := h t
    simpa [Array.getElem?_setIfInBounds, Ne.symm hne] using h1
def G.set (γ : G) (d l : Nat) (g : GE) : G := fun d' l' => if d' = some d ∧ l' = l then some g else γ d' l'
theorem G.set_same (γ : G) (d l : Nat) (g : GE) : γ.set d l g d l = some g := by simp [G.set]
theorem G.set_other (γ : G) {d l d' l' : Nat} (g : GE) (h : ¬ (d' = d ∧ l' = l)) : γ.set d l g d' l' = γ d' l' := by simp [G.set, h]
theorem G.set_other' (γ : G) {d l : Nat} {d' : Option Nat} {l' : Nat} (g : GE) (h : ¬ (d' = some d ∧ l' = l)) : γ.set d l g d' l' = γ d' l' := by simp [G.set, h]
theorem G.set_none (γ : G) (d l : Nat) (g : GE) (l' : Nat) : γ.set d l g none l' = γ none l' := by simp [G.set]
theorem own_set {γ : G} {d l : Nat} {g : GE} {b off : Nat} (h : Own (γ.set d l g) b off) : g.owns b off ∨ Own γ b off := by
 obtain ⟨d', l', g', h1, h2⟩ := h
 by_cases e : d' = some d ∧ l' = l
 ·obtain ⟨rfl, rfl⟩ := e
  rw [G.set_same] at h1
  cases h1
  exact .inl h2
 ·rw [G.set_other' γ g e] at h1
  exact .inr ⟨d', l', g', h1, h2⟩
theorem own_set' {γ : G} {d l : Nat} {g : GE} {b off : Nat} (h : Own (γ.set d l g) b off) : g.owns b off ∨ ∃ (d' : Option Nat) (l' : Nat) (g' : GE), ¬ (d' = some d ∧ l' = l) ∧ γ d' l' = some g' ∧ g'.owns b off := by
 obtain ⟨d', l', g', h1, h2⟩ := h
 by_cases e : d' = some d ∧ l' = l
 ·obtain ⟨rfl, rfl⟩ := e
  rw [G.set_same] at h1
  cases h1
  exact .inl h2
 ·rw [G.set_other' γ g e] at h1
  exact .inr ⟨d', l', g', e, h1, h2⟩
theorem GE.owns_blk {g : GE} {b off : Nat} (h : g.owns b off) : g.blk = some b := by
 cases g with
 | cell c => simp [GE.owns] at h; simp [GE.blk, h]
 | obj c => simp [GE.owns] at h; simp [GE.blk, h]
 | tok n blk => cases blk with
   | none => exact h.elim
   | some x => obtain ⟨c, sz, k⟩ := x; simp [GE.owns] at h; simp [GE.blk, h.1]
 | arr n blk => cases blk with
   | none => exact h.elim
   | some x => obtain ⟨c, sz, k⟩ := x; simp [GE.owns] at h; simp [GE.blk, h]
 | harr lo n sz f => simp [GE.owns] at h; simp [GE.blk, h]
theorem Ext.alloc (D : Nat) (w : World) (γ : G) (o : Obj) (hf : ∀ l g b, γ none l = some g → g.blk = some b → b < w.heap.size) : Ext D w γ (w.alloc o) γ := by
 refine ⟨rfl, rfl, rfl, by simp, Nat.le_refl _, fun _ _ _ _ h => h, fun _ _ _ _ h => h, fun _ _ n blk _ h => ⟨n, blk, h, .inl ⟨rfl, rfl⟩⟩, fun _ _ lo N _ f _ h => ⟨lo, N, f, h, Nat.le_refl _, Nat.le_refl _, fun _ _ _ => rfl⟩, fun _ _ n blk _ h => ⟨n, blk, h, .inl ⟨rfl, rfl⟩⟩, ?_, fun _ _ _ h => h, ?_, fun _ => rfl, ?_⟩
 ·intro b off u h _
  rw [World.cell?_alloc_lt w o _ (World.block_lt_of_cell? w _ h)]
  exact h
 ·intro b h _
  exact heap_alloc_old w o b h
 ·intro l g b hg hb
  exact heap_alloc_old w o b (hf l g b hg hb)
theorem Ext.drew (D : Nat) (w : World) (γ : G) : Ext D w γ w.drew γ :=
 ⟨rfl, rfl, rfl, Nat.le_refl _, Nat.le_succ _, fun _ _ _ _ h => h, fun _ _ _ _ h => h, fun _ _ n blk _ h => ⟨n, blk, h, .inl ⟨rfl, rfl⟩⟩, fun _ _ lo N _ f _ h => ⟨lo, N, f, h, Nat.le_refl _, Nat.le_refl _, fun _ _ _ => rfl⟩, fun _ _ n blk _ h => ⟨n, blk, h, .inl ⟨rfl, rfl⟩⟩, fun _ _ _ h _ => h, fun _ _ _ h => h, fun _ _ _ => rfl, fun _ => rfl, fun _ _ _ _ _ => rfl⟩
theorem Ext.name (D : Nat) (w : World) (γ : G) {d l : Nat} {g : GE} (hn : γ d l = none) (hg : ∀ b off, g.owns b off → w.heap.size ≤ b) : Ext D w γ w (γ.set d l g) := by
 have hne : ∀ {d' l' : Nat} {x : GE}, γ d' l' = some x → ¬ (d' = d ∧ l' = l) := by
  rintro d' l' x hx ⟨rfl, rfl⟩
  rw [hn] at hx; cases hx
 refine ⟨rfl, rfl, rfl, Nat.le_refl _, Nat.le_refl _, fun d' l' b _ h => by rw [G.set_other γ g (hne h)]; exact h, fun d' l' b _ h => by rw [G.set_other γ g (hne h)]; exact h, fun d' l' n blk _ h => ⟨n, blk, by rw [G.set_other γ g (hne h)]; exact h, .inl ⟨rfl, rfl⟩⟩,
  fun d' l' lo N _ f _ h => ⟨lo, N, f, by rw [G.set_other γ g (hne h)]; exact h, Nat.le_refl _, Nat.le_refl _, fun _ _ _ => rfl⟩, fun d' l' n blk _ h => ⟨n, blk, by rw [G.set_other γ g (hne h)]; exact h, .inl ⟨rfl, rfl⟩⟩, fun _ _ _ h _ => h, ?_, fun _ _ _ => rfl, fun _ => G.set_none _ _ _ _ _, fun _ _ _ _ _ => rfl⟩
 intro b off hlt hno ho
 rcases own_set ho with h | h
 ·have := hg b off h; omega
 ·exact hno h
theorem SR.ext {K : KK} {s : Stk} {w w' : World} {γ γ' : G} (h : SR K s w γ) (hx : Ext s.length w γ w' γ') (hg : γ' = γ)
 (hb : ∀ (d : Option Nat) l g b, γ d l = some g → g.blk = some b → w'.heap[b]? = w.heap[b]?) : SR K s w' γ' := by
 subst hg
 refine ⟨fun d l x hs => ?_, h.none, h.inj, fun l g b hg hb' => Nat.lt_of_lt_of_le (h.frn l g b hg hb') hx.size⟩
 have hlt : d < s.length := by
  apply Nat.lt_of_not_le; intro hle; rw [sget_none hle] at hs; cases hs
 exact (h.ent d l x hs).ext hlt hx rfl (fun g b hg hb' => hb d l g b hg hb')
theorem SR.step {K : KK} {s : Stk} {w w' : World} {γ γ' : G} (h : SR K s w γ) {d l : Nat} {x : Entry} {g : GE} (hd : d < s.length) (hx : Ext s.length w γ w' γ') (hg : γ' = γ.set d l g)
 (hen : EnR K w' γ' d l x) (hb : ∀ (d' : Option Nat) l' g' b, ¬ (d' = some d ∧ l' = l) → γ d' l' = some g' → g'.blk = some b → w'.heap[b]? = w.heap[b]?)
 (hi : ∀ b, g.blk = some b → ∀ (d' : Option Nat) l' g', ¬ (d' = some d ∧ l' = l) → γ d' l' = some g' → g'.blk ≠ some b) : SR K (sput s d l x) w' γ' := by
 subst hg
 refine ⟨fun d' l' x' hs => ?_, fun d' l' hs => ?_, ?_, fun l' g' b' hg' hb' => Nat.lt_of_lt_of_le (h.frn l' g' b' (by rwa [G.set_none] at hg') hb') hx.size⟩
 ·by_cases e : d' = d ∧ l' = l
  ·obtain ⟨rfl, rfl⟩ := e
   rw [sget_put_same s l' x hd] at hs
   cases hs
   exact hen
  ·rw [sget_put_other s x e] at hs
   have hlt : d' < s.length := by
    apply Nat.lt_of_not_le; intro hle; rw [sget_none hle] at hs; cases hs
   exact (h.ent d' l' x' hs).ext hlt hx (G.set_other γ g e) (fun g' b hg' hb' => hb d' l' g' b (by rintro ⟨e1, e2⟩; cases e1; exact e ⟨rfl, e2⟩) hg' hb')
 ·by_cases e : d' = d ∧ l' = l
  ·obtain ⟨rfl, rfl⟩ := e
   rw [sget_put_same s l' x hd] at hs
   cases hs
  ·rw [sget_put_other s x e] at hs
   rw [G.set_other γ g e]
   exact h.none d' l' hs
 ·intro d1 l1 g1 d2 l2 g2 b h1 h2 b1 b2
  by_cases e1 : d1 = some d ∧ l1 = l
  ·by_cases e2 : d2 = some d ∧ l2 = l
   ·exact ⟨e1.1.trans e2.1.symm, e1.2.trans e2.2.symm⟩
   ·obtain ⟨rfl, rfl⟩ := e1
    rw [G.set_same] at h1
    cases h1
    rw [G.set_other' γ _ e2] at h2
    exact absurd b2 (hi b b1 d2 l2 g2 e2 h2)
  ·rw [G.set_other' γ g e1] at h1
   by_cases e2 : d2 = some d ∧ l2 = l
   ·obtain ⟨rfl, rfl⟩ := e2
    rw [G.set_same] at h2
    cases h2
    exact absurd b1 (hi b b2 d1 l1 g1 e1 h1)
   ·rw [G.set_other' γ g e2] at h2
    exact h.inj d1 l1 g1 d2 l2 g2 b h1 h2 b1 b2
theorem SR.blk_lt {K : KK} {s : Stk} {w : World} {γ : G} (h : SR K s w γ) {d : Option Nat} {l : Nat} {g : GE} {b : Nat} (hg : γ d l = some g) (hb : g.blk = some b) : b < w.heap.size := by
 cases d with
 | none => exact h.frn l g b hg hb
 | some d =>
 cases hs : sget s d l with
 | none => rw [h.none d l hs] at hg; cases hg
 | some x =>
   have he := h.ent d l x hs
   cases x with
   | cell cs =>
     obtain ⟨b', c, e, h1, h2, _⟩ := he
     rw [h1] at hg; cases hg
     simp [GE.blk] at hb; subst hb
     exact (Array.getElem?_eq_some_iff.1 h2).1
   | tok n =>
     obtain ⟨blk, h1, h2⟩ := he
     rw [h1] at hg; cases hg
     cases blk with
     | none => simp [GE.blk] at hb
     | some y =>
       obtain ⟨b', sz, k⟩ := y
       simp [GE.blk] at hb; subst hb
       obtain ⟨c, e, h3, _⟩ := h2 _ _ _ rfl
       exact (Array.getElem?_eq_some_iff.1 h3).1
   | arr sz es =>
     obtain ⟨blk, h1, _, h2⟩ := he
     rw [h1] at hg; cases hg
     cases blk with
     | none => simp [GE.blk] at hb
     | some y =>
       obtain ⟨b', sz, k⟩ := y
       simp [GE.blk] at hb; subst hb
       obtain ⟨_, c, e, h3, _⟩ := h2
       exact (Array.getElem?_eq_some_iff.1 h3).1
   | harr lo sz es =>
     obtain ⟨f, h1, _, _, hlo, ⟨c, e, h4, _⟩, _⟩ := he
     rw [h1] at hg; cases hg
     simp [GE.blk] at hb; subst hb
     exact (Array.getElem?_eq_some_iff.1 h4).1
   | loop ps A B env o p =>
     obtain ⟨b', r, h1, h2, _⟩ := he
     rw [h1] at hg; cases hg
     simp [GE.blk] at hb; subst hb
     exact (Array.getElem?_eq_some_iff.1 h2).1
theorem SR.alloc {K : KK} {s : Stk} {w : World} {γ : G} (h : SR K s w γ) (o : Obj) : SR K s (w.alloc o) γ :=
 h.ext (Ext.alloc _ w γ o h.frn) rfl fun _ _ _ b hg hb => heap_alloc_old w o b (h.blk_lt hg hb)
theorem SR.drew {K : KK} {s : Stk} {w : World} {γ : G} (h : SR K s w γ) : SR K s w.drew γ :=
 h.ext (Ext.drew _ w γ) rfl fun _ _ _ _ _ _ => rfl
theorem SR.frn_set {K : KK} {s : Stk} {w : World} {γ : G} (h : SR K s w γ) (d l : Nat) (g : GE) : ∀ l' g' b, γ.set d l g Option.none l' = some g' → g'.blk = some b → b < w.heap.size :=
 fun l' g' b hg hb => h.frn l' g' b (by rwa [G.set_none] at hg) hb
theorem SR.notfrn {K : KK} {s : Stk} {w : World} {γ : G} (h : SR K s w γ) {d l b : Nat} {g : GE} (hg : γ d l = some g) (hb : g.blk = some b) : ∀ l' g', γ Option.none l' = some g' → g'.blk ≠ some b :=
 fun l' g' h1 h2 => by have := (h.inj Option.none l' g' (some d) l g b h1 hg h2 hb).1; cases this
theorem Ext.setRow (D : Nat) {w : World} {γ : G} {d l b : Nat} {g g' : GE} {c c' : Array Value} {el : TypeId} (hg : γ d l = some g) (hb : g.blk = some b) (hb' : ∀ b' off, g'.owns b' off → g.owns b' off)
 (hc : w.heap[b]? = some (.cells c el (0, 0))) (hkeep : ∀ off u, ¬ Own γ b off → c[off]? = some u → c'[off]? = some u)
 (hk : ∃ off, g.owns b off) (hfr : ∀ l g, γ none l = some g → g.blk ≠ some b)
 (hcell : ∀ b, g = .cell b → g' = .cell b) (hobj : ∀ b, g = .obj b → g' = .obj b) (htok : ∀ n blk, g = .tok n blk → ∃ n' blk', g' = .tok n' blk' ∧ (n' = n ∧ blk' = blk ∨ n < n'))
 (harr : ∀ n blk, g = .arr n blk → ∃ n' blk', g' = .arr n' blk' ∧ (n' = n ∧ blk' = blk ∨ n < n') := by intro n b hb; cases hb)
 (hharr : ∀ lo N sz f, g = .harr lo N sz f → ∃ lo' N' f', g' = .harr lo' N' sz f' ∧ lo ≤ lo' ∧ N ≤ N' ∧ ∀ m, lo' ≤ m → m ≤ N → f' m = f m := by intro lo N sz f hb; cases hb) :
 Ext D w γ (w.setRow b c') (γ.set d l g') := by
 refine ⟨rfl, rfl, rfl, by simp, Nat.le_refl _, ?_, ?_, ?_, ?_, ?_, ?_, ?_, ?_, fun _ => G.set_none _ _ _ _ _, ?_⟩
 ·intro d' l' b1 _ h
  by_cases e : d' = d ∧ l' = l
  ·obtain ⟨rfl, rfl⟩ := e
   rw [hg] at h; cases h
   rw [G.set_same, hcell b1 rfl]
  ·rw [G.set_other γ g' e]; exact h
 ·intro d' l' b1 _ h
  by_cases e : d' = d ∧ l' = l
  ·obtain ⟨rfl, rfl⟩ := e
   rw [hg] at h; cases h
   rw [G.set_same, hobj b1 rfl]
  ·rw [G.set_other γ g' e]; exact h
 ·intro d' l' n blk _ h
  by_cases e : d' = d ∧ l' = l
  ·obtain ⟨rfl, rfl⟩ := e
   rw [hg] at h; cases h
   obtain ⟨n', blk', h1, h2⟩ := harr n blk rfl
   exact ⟨n', blk', by rw [G.set_same, h1], h2⟩
  ·exact ⟨n, blk, by rw [G.set_other γ g' e]; exact h, .inl ⟨rfl, rfl⟩⟩
 ·intro d' l' lo N sz f _ h
  by_cases e : d' = d ∧ l' = l
  ·obtain ⟨rfl, rfl⟩ := e
   rw [hg] at h; cases h
   obtain ⟨lo', N', f', h1, h2⟩ := hharr lo N sz f rfl
   exact ⟨lo', N', f', by rw [G.set_same, h1], h2⟩
  ·exact ⟨lo, N, f, by rw [G.set_other γ g' e]; exact h, Nat.le_refl _, Nat.le_refl _, fun _ _ _ => rfl⟩
 ·intro d' l' n blk _ h
  by_cases e : d' = d ∧ l' = l
  ·obtain ⟨rfl, rfl⟩ := e
   rw [hg] at h; cases h
   obtain ⟨n', blk', h1, h2⟩ := htok n blk rfl
   exact ⟨n', blk', by rw [G.set_same, h1], h2⟩
  ·exact ⟨n, blk, by rw [G.set_other γ g' e]; exact h, .inl ⟨rfl, rfl⟩⟩
 ·intro b1 off u h hno
  by_cases e : b1 = b
  ·subst e
   rw [cell_setRow_same w b1 off c c' el (0, 0) hc]
   have : w.cell? ⟨b1, off, none⟩ = c[off]? := by simp [World.cell?, hc]
   rw [this] at h
   exact hkeep off u hno h
  ·rw [cell_setRow_other w b c' ⟨b1, off, none⟩ e]; exact h
 ·intro b1 off _ hno ho
  rcases own_set ho with h1 | h1
  ·exact hno ⟨d, l, g, hg, hb' b1 off h1⟩
  ·exact hno h1
 ·intro b1 _ hno
  refine setRow_other w b b1 c' ?_
  rintro rfl
  obtain ⟨off, ho⟩ := hk
  exact hno off ⟨d, l, g, hg, ho⟩
 ·intro l1 g1 b1 h1 h2
  refine setRow_other w b b1 c' ?_
  rintro rfl
  exact hfr l1 g1 h1 h2
end Go.Ab

/-
  Operations: what the evaluator says of one (but a call), the model does. Reading.
-/
namespace Go.Ab
section
variable {D : Nat} {w : World} {γ : G}
theorem VR.int_inv {k n u} (h : VR D w γ (.int k n) u) : u = .int k n := by cases h; rfl
theorem VR.bool_inv {b u} (h : VR D w γ (.bool b) u) : u = .bool b := by cases h; rfl
theorem VR.agg_inv {cs u} (h : VR D w γ (.agg cs) u) : ∃ us : Array Value, u = .agg us ∧ LR D w γ cs us.toList := by
 cases h with
 | agg _ us hl h => exact ⟨us, rfl, by simpa using hl, fun i v u hv hu => h i v u hv (by simpa using hu)⟩
theorem VR.tup_inv {cs u} (h : VR D w γ (.tup cs) u) : ∃ us : Array Value, u = .tuple us ∧ LR D w γ cs us.toList := by
 cases h with
 | tup _ us hl h => exact ⟨us, rfl, by simpa using hl, fun i v u hv hu => h i v u hv (by simpa using hu)⟩
theorem VR.agg_mk {cs : List V} {us : List Value} (h : LR D w γ cs us) : VR D w γ (.agg cs) (.agg us.toArray) :=
 .agg cs us.toArray (by simpa using h.1) fun i v u hv hu => h.2 i v u hv (by simpa using hu)
theorem VR.tup_mk {cs : List V} {us : List Value} (h : LR D w γ cs us) : VR D w γ (.tup cs) (.tuple us.toArray) :=
 .tup cs us.toArray (by simpa using h.1) fun i v u hv hu => h.2 i v u hv (by simpa using hu)
theorem VR.fn_mk {f : FuncId} {as bs : List V} {us ws : List Value} (h : LR D w γ as us) (h' : LR D w γ bs ws) : VR D w γ (.fn f as bs) (.func (.func f) us.toArray ws.toArray) :=
 .fn f as bs us.toArray ws.toArray (by simpa using h.1) (by simpa using h'.1) (fun i v u hv hu => h.2 i v u hv (by simpa using hu)) (fun i v u hv hu => h'.2 i v u hv (by simpa using hu))
theorem VR.cells {v : V} {u : Value} (h : VR D w γ v u) (hd : v.isDef = true) : LR D w γ v.cells u.cells.toList := by
 have one : ∀ {v : V} {u : Value}, VR D w γ v u → LR D w γ [v] [u] := fun h => LR.cons h LR.nil
 cases h with
 | undef u => simp [V.isDef] at hd
 | skip => simp [V.isDef] at hd
 | agg cs us hl h => exact ⟨by simpa [V.cells, Value.cells] using hl, fun i v u hv hu => h i v u hv (by simpa [Value.cells] using hu)⟩
 | int k n => exact one (.int k n)
 | bool b => exact one (.bool b)
 | anyb b => exact one (.anyb b)
 | csl p n cap a hle h => exact one (.csl p n cap a hle h)
 | tup cs us hl h => exact one (.tup cs us hl h)
 | nilp => exact one .nilp
 | ptr d l off b hd' hb => exact one (.ptr d l off b hd' hb)
 | ep cs b off hp hc hno h => exact one (.ep cs b off hp hc hno h)
 | slnil c sz hcap => exact one (.slnil c sz hcap)
 | sl0 c sz a cap hcap => exact one (.sl0 c sz a cap hcap)
 | sl c sz es b off cap hsz hp hle hcap hc hno h => exact one (.sl c sz es b off cap hsz hp hle hcap hc hno h)
 | fn f first cap us ws h1 h2 k1 k2 => exact one (.fn f first cap us ws h1 h2 k1 k2)
 | nilf => exact one .nilf
 | yld d l b hd' hb => exact one (.yld d l b hd' hb)
 | asl d l sz n off len b k hd' hb hle hk => exact one (.asl d l sz n off len b k hd' hb hle hk)
 | aslnil d l sz base hd' hb => exact one (.aslnil d l sz base hd' hb)
 | aslold d l sz n off len N blk base ln cp hd' hb hn => exact one (.aslold d l sz n off len N blk base ln cp hd' hb hn)
 | eptr d l n i j b sz k hd' hb => exact one (.eptr d l n i j b sz k hd' hb)
 | eptrold d l n i j N blk p hd' hb hn => exact one (.eptrold d l n i j N blk p hd' hb hn)
 | aslh d l sz n off len lo N f hd' hb hn hle hk => exact one (.aslh d l sz n off len lo N f hd' hb hn hle hk)
 | eptrh d l n i j sz lo N f hd' hb hn => exact one (.eptrh d l n i j sz lo N f hd' hb hn)
 | aslho d l sz n off len lo N sz' f base ln cp hd' hb hn => exact one (.aslho d l sz n off len lo N sz' f base ln cp hd' hb hn)
 | eptrho d l n i j lo N sz' f p hd' hb hn => exact one (.eptrho d l n i j lo N sz' f p hd' hb hn)
theorem VR.one {v : V} {u : Value} (h : VR D w γ v u) (ho : v.one = true) : u.oneCell' = true := by
 cases h <;> first | rfl | simp [V.one] at ho
theorem oneAll_mem {vs : List V} (h : V.oneAll vs = true) : ∀ v ∈ vs, v.one = true := by
 induction vs with
 | nil => simp
 | cons x r ih => simp [V.oneAll] at h; intro v hv; cases hv with
   | head => exact h.1
   | tail _ hv => exact ih h.2 v hv
theorem elemAll_mem {vs : List V} (h : V.elemAll vs = true) : ∀ v ∈ vs, v.pure = true ∧ v.one = true := by
 induction vs with
 | nil => simp
 | cons x r ih => simp [V.elemAll] at h; intro v hv; cases hv with
   | head => exact h.1
   | tail _ hv => exact ih h.2 v hv
theorem LR.one {vs : List V} {us : List Value} (h : LR D w γ vs us) (ho : ∀ v ∈ vs, v.one = true) : ∀ u ∈ us, u.oneCell' = true := by
 intro u hu
 obtain ⟨i, hi, rfl⟩ := List.getElem_of_mem hu
 have hi' : i < vs.length := by rw [h.1]; exact hi
 exact (h.2 i vs[i] us[i] (by simp) (by simp)).one (ho _ (List.getElem_mem hi'))
def RD (w : World) (b off : Nat) (us : List Value) : Prop := ∀ j u, us[j]? = some u → w.cell? ⟨b, off + j, none⟩ = some u
theorem RD.drop {w b off us} (h : RD w b off us) (n : Nat) : RD w b (off + n) (us.drop n) := by
 intro j u hu
 rw [List.getElem?_drop] at hu
 have := h (n + j) u hu
 rwa [← Nat.add_assoc] at this
theorem RD.row {w b c e fr} (h : w.heap[b]? = some (.cells c e fr)) (off : Nat) : RD w b off (c.toList.drop off) := by
 intro j u hu
 rw [cell_of_row w b (off + j) c e fr h]
 rw [List.getElem?_drop] at hu
 simpa using hu
theorem VR.ep_inv {cs u} (h : VR D w γ (.ep cs) u) : ∃ b off us, u = .pointer (some ⟨b, off, none⟩) ∧ LR D w γ cs us ∧ RD w b off us ∧ ∀ i, i < cs.length → ¬ Own γ b (off + i) := by
 cases h with
 | ep _ b off hp hc hno h =>
   refine ⟨b, off, (List.range cs.length).map fun i => (w.cell? ⟨b, off + i, none⟩).getD Go.undef, rfl, ⟨by simp, fun i v u hv hu => ?_⟩, fun j u hu => ?_, fun i hi => ?_⟩
   ·have hi : i < cs.length := (List.getElem?_eq_some_iff.1 hv).1
    simp [hi] at hu
    obtain ⟨u', hu'⟩ := hc i v hv
    rw [hu'] at hu; simp at hu; subst hu
    exact h i v _ hv hu'
   ·have hj : j < cs.length := by have := (List.getElem?_eq_some_iff.1 hu).1; simpa using this
    simp [hj] at hu
    obtain ⟨u', hu'⟩ := hc j cs[j] (by simp)
    rw [hu'] at hu ⊢; simpa using hu
   ·exact hno i cs[i] (by simp)
theorem VR.ep_pure {cs u} (h : VR D w γ (.ep cs) u) : V.pureAll cs = true := by
 cases h with
 | ep _ b off hp _ _ _ => exact hp
theorem VR.ep_mk {cs : List V} {us : List Value} {b off : Nat} (hp : V.pureAll cs = true) (h : LR D w γ cs us) (hr : RD w b off us) (hno : ∀ i, i < cs.length → ¬ Own γ b (off + i)) : VR D w γ (.ep cs) (.pointer (some ⟨b, off, none⟩)) := by
 refine .ep cs b off hp (fun i v hv => ?_) (fun i v hv => hno i (List.getElem?_eq_some_iff.1 hv).1) (fun i v u hv hu => ?_)
 ·have hi : i < us.length := by rw [← h.1]; exact (List.getElem?_eq_some_iff.1 hv).1
  exact ⟨us[i], hr i us[i] (by simp)⟩
 ·have hi : i < us.length := by rw [← h.1]; exact (List.getElem?_eq_some_iff.1 hv).1
  have := hr i us[i] (by simp)
  rw [this] at hu; cases hu
  exact h.2 i v us[i] hv (by simp)
end
theorem VR.cvs {D w γ} {v : Value} {c : V} (h : cvs v = some c) : VR D w γ c v := by
 unfold Ab.cvs at h
 split at h
 ·cases h; exact .int _ _
 ·cases h; exact .bool _
 ·cases h; exact .slnil _ _ rfl
 ·cases h; exact .nilp
 ·cases h; exact .nilf
 ·cases h
theorem LR.cvL {D w γ} : ∀ {us : List Value} {cs : List V}, cvL us = some cs → LR D w γ cs us
 | [], cs, h => by simp [Ab.cvL] at h; subst h; exact LR.nil
 | v :: r, cs, h => by
   unfold Ab.cvL at h
   split at h
   ·rename_i a b h1 h2
    cases h
    exact LR.cons (VR.cvs h1) (LR.cvL h2)
   ·cases h
theorem VR.cv {D w γ} {v : Value} {c : V} (h : cv v = some c) : VR D w γ c v := by
 unfold Ab.cv at h
 split at h
 ·rename_i cs
  cases h1 : Ab.cvL cs.toList with
  | none => rw [h1] at h; cases h
  | some l =>
    rw [h1] at h; cases h
    have := VR.agg_mk (LR.cvL (D := D) (w := w) (γ := γ) h1)
    simpa using this
 ·exact VR.cvs h
theorem VR.nilAs {D w γ} {v : V} {u : Value} (h : VR D w γ v u) (z : Nat) : VR D w γ (nilAs z v) u := by
 unfold Ab.nilAs
 split
 ·cases h with
  | slnil _ _ hc => exact .slnil _ _ hc
  | sl0 _ _ a cap hc => exact .sl0 _ _ a cap hc
  | sl c sz es b off cap hsz hp hle hcap hc hno h =>
    exact .sl _ z [] b off cap (by simp) (by simp) hle hcap (fun i cs j v hi => by simp at hi) (fun i cs j v hi => by simp at hi) (fun i cs j v u hi => by simp at hi)
 ·exact h
theorem LR.nilsAs {D w γ} : ∀ {zs : List Nat} {vs : List V} {us : List Value}, LR D w γ vs us → LR D w γ (nilsAs zs vs) us
 | [], vs, us, h => by simpa [Ab.nilsAs] using h
 | z :: zs, [], us, h => by simpa [Ab.nilsAs] using h
 | z :: zs, v :: vs, us, h => by
   obtain ⟨u, us', rfl, h1, h2⟩ := h.inv
   exact LR.cons (h1.nilAs z) (LR.nilsAs h2)
section
variable {P : Program} {D : Nat} {w : World} {γ : G} {e : Env} {a : Act}
theorem ER.opd (hE : ER D w γ e a) {x : Operand} {y : Opd} (h : copd x = some y) : VR D w γ (y.ev e) (a.eval x) := by
 cases x with
 | tmp t => simp [copd] at h; subst h; exact hE t
 | const v =>
   simp only [copd] at h
   cases h1 : cv v with
   | none => rw [h1] at h; cases h
   | some c => rw [h1] at h; cases h; exact VR.cv h1
 | global g => cases h
 | func f => simp [copd] at h; subst h; exact VR.fn_mk LR.nil LR.nil
theorem ER.opdT (hE : ER D w γ e a) {t : TypeId} {x : Operand} {y : Opd} (h : copdT P t x = some y) : VR D w γ (y.ev e) (a.eval x) := by
 unfold copdT at h
 split at h
 ·rename_i cs h1
  cases h
  obtain ⟨us, hu, hl⟩ := (hE.opd h1).agg_inv
  rw [hu]
  have := VR.agg_mk (LR.nilsAs (zs := cellSz P 12 t) hl)
  simpa [Opd.ev] using this
 ·rename_i v _ h1
  cases h
  exact (hE.opd h1).nilAs _
 ·exact hE.opd h
theorem ER.opds (hE : ER D w γ e a) : ∀ {xs : List Operand} {ys : List Opd}, copds xs = some ys → LR D w γ (opdAll e ys) (xs.map a.eval)
 | [], ys, h => by simp [copds] at h; subst h; exact LR.nil
 | x :: r, ys, h => by
   unfold copds at h
   split at h
   ·rename_i p q h1 h2
    cases h
    exact LR.cons (hE.opd h1) (hE.opds h2)
   ·cases h
theorem ER.opdsT (hE : ER D w γ e a) : ∀ {ts : List TypeId} {xs : List Operand} {ys : List Opd}, copdsT P ts xs = some ys → LR D w γ (opdAll e ys) (xs.map a.eval)
 | ts, [], ys, h => by cases ts <;> (simp [copdsT] at h; subst h; exact LR.nil)
 | t :: ts, x :: r, ys, h => by
   unfold copdsT at h
   split at h
   ·rename_i p q h1 h2
    cases h
    exact LR.cons (hE.opdT h1) (hE.opdsT h2)
   ·cases h
 | [], x :: r, ys, h => by
   unfold copdsT at h
   split at h
   ·rename_i p q h1 h2
    cases h
    exact LR.cons (hE.opd h1) (hE.opdsT h2)
   ·cases h
theorem run_isAgg {t : TypeId} {b : Bool} (h : isAggT P t = some b) (w : World) : (isAgg t).run P w = .ok b w := by
 unfold isAggT at h
 cases hu : P.underlying t with
 | none => rw [hu] at h; cases h
 | some d =>
   rw [hu] at h
   unfold isAgg
   simp only [Sem.run_bind, run_underlying hu, Result.andThen_ok]
   cases d <;> simp at h <;> subst h <;> rfl
theorem run_sizeOf' {t : TypeId} {n : Nat} (h : sizeT P t = some n) (w : World) : (sizeOf t).run P w = .ok n w := by
 unfold sizeT at h
 cases hi : P.info? t with
 | none => rw [hi] at h; cases h
 | some i => rw [hi] at h; cases h; simp [sizeOf, typeInfo, hi]
theorem part_drop {n : Option Nat} {cs : List V} {off : Nat} {v : V} (h : part n cs off = some v) : part n (cs.drop off) 0 = some v := by
 cases n with
 | none => simpa [part] using h
 | some n =>
   simp only [part] at h ⊢
   split at h
   ·rename_i hle
    rw [if_pos (by simp; omega)]
    simpa using h
   ·cases h
theorem load_ok {t : TypeId} {n : Option Nat} (hn : nT P t = some n) {cs : List V} {us : List Value} (hl : LR D w γ cs us) {b off : Nat} (hr : RD w b off us) {v : V} (hp : part n cs 0 = some v) :
 ∃ u, (loadVar t ⟨b, off, none⟩).run P w = .ok u w ∧ VR D w γ v u := by
 unfold nT at hn
 split at hn
 ·rename_i m h1 h2
  cases hn
  simp only [part] at hp
  split at hp
  ·rename_i hle
   cases hp
   have hle' : m ≤ us.length := by rw [← hl.1]; omega
   refine ⟨.agg (us.take m).toArray, ?_, ?_⟩
   ·unfold loadVar
    simp only [Sem.run_bind, run_isAgg h1, Result.andThen_ok, if_true, run_sizeOf' h2]
    have := run_loadCells_list (P := P) w ⟨b, off, none⟩ (us.take m) (fun j v hj => by
     rw [List.getElem?_take] at hj
     split at hj
     ·have := hr j v hj; rwa [Addr.add_lit]
     ·cases hj)
    rw [show (us.take m).length = m by simp [hle']] at this
    simp [this]
   ·simpa using VR.agg_mk (hl.take m)
  ·cases hp
 ·rename_i h1 h2
  cases hn
  simp only [part] at hp
  have h0 : 0 < us.length := by rw [← hl.1]; exact (List.getElem?_eq_some_iff.1 hp).1
  have hu : us[0]? = some us[0] := by simp
  refine ⟨us[0], ?_, hl.2 0 v us[0] hp hu⟩
  unfold loadVar
  have hc := hr 0 us[0] hu
  simp only [Nat.add_zero] at hc
  simp [run_isAgg h1, hc]
 ·cases hn
theorem part_ok {t : TypeId} {n : Option Nat} (hn : nT P t = some n) {cs : List V} {us : List Value} (hl : LR D w γ cs us) {off : Nat} {v : V} (hp : part n cs off = some v) :
 ∃ u, (Go.part t us.toArray off).run P w = .ok u w ∧ VR D w γ v u := by
 unfold nT at hn
 split at hn
 ·rename_i m h1 h2
  cases hn
  simp only [part] at hp
  split at hp
  ·rename_i hle
   cases hp
   refine ⟨.agg ((us.drop off).take m).toArray, ?_, ?_⟩
   ·unfold Go.part
    simp [run_isAgg h1, run_sizeOf' h2, List.take_drop]
   ·simpa using VR.agg_mk ((hl.drop off).take m)
  ·cases hp
 ·rename_i h1 h2
  cases hn
  simp only [part] at hp
  have h0 : off < us.length := by rw [← hl.1]; exact (List.getElem?_eq_some_iff.1 hp).1
  refine ⟨us[off], ?_, hl.2 off v us[off] hp (by simp)⟩
  unfold Go.part
  simp [run_isAgg h1, h0]
 ·cases hn
end
end Go.Ab

/-
  Operations: memory that is laid, written, appended to.
-/
namespace Go.Ab
def OpOk (K : KK) (s : Stk) (w : World) (γ : G) (r : Result Next) (v : V) (f : Eff) : Prop :=
 ∃ u w' γ', (r = .ok (.value u) w' ∨ (r = .ok .skip w' ∧ u = undef)) ∧ VR s.length w' γ' v u ∧ SR K (seff s f) w' γ' ∧ Ext s.length w γ w' γ'
section
variable {K : KK} {s : Stk} {w : World} {γ : G}
theorem OpOk.val (hS : SR K s w γ) {v : V} {u : Value} (h : VR s.length w γ v u) : OpOk K s w γ (.ok (.value u) w) v none :=
 ⟨u, w, γ, .inl rfl, h, hS, Ext.refl _ _ _⟩
theorem dep_succ (h : s ≠ []) : dep s + 1 = s.length := by
 cases s with
 | nil => exact absurd rfl h
 | cons x r => simp [dep]
theorem set_self {γ : G} {d l : Nat} {g : GE} (h : γ d l = some g) : γ.set d l g = γ := by
 funext d' l'
 by_cases e : d' = some d ∧ l' = l
 ·obtain ⟨rfl, rfl⟩ := e; rw [G.set_same, h]
 ·rw [G.set_other' γ g e]
theorem cell_new (hS : SR K s w γ) (hs : s ≠ []) {lab : Nat} (hn : sget s (dep s) lab = none) {cs : List V} {us : List Value} (hl : LR s.length w γ cs us) (el : TypeId) :
 ∃ γ', VR s.length (w.alloc (.cells us.toArray el)) γ' (.ptr (dep s) lab 0) (.pointer (some ⟨w.heap.size, 0, none⟩)) ∧
  SR K (sput s (dep s) lab (.cell cs)) (w.alloc (.cells us.toArray el)) γ' ∧ Ext s.length w γ (w.alloc (.cells us.toArray el)) γ' := by
 have hd := dep_succ hs
 have hx1 : Ext s.length w γ w (γ.set (dep s) lab (.cell w.heap.size)) := Ext.name _ w γ (hS.none _ _ hn) (fun b off h => by simp [GE.owns] at h; omega)
 have hx := hx1.trans (Ext.alloc s.length w (γ.set (dep s) lab (.cell w.heap.size)) (.cells us.toArray el) (hS.frn_set _ _ _))
 refine ⟨γ.set (dep s) lab (.cell w.heap.size), .ptr _ _ 0 _ (by omega) (G.set_same _ _ _ _), hS.step (by omega) hx rfl ⟨w.heap.size, us.toArray, el, G.set_same _ _ _ _, heap_alloc_new w _, ?_⟩ ?_ ?_, hx⟩
 ·rw [hd]; simpa using hl.ext hx
 ·intro d' l' g' b _ hg hb
  exact heap_alloc_old w _ b (hS.blk_lt hg hb)
 ·intro b hb d' l' g' _ hg hb'
  simp [GE.blk] at hb
  have := hS.blk_lt hg hb'
  omega
theorem alloc_ok (hS : SR K s w γ) (hs : s ≠ []) {lab : Nat} (hn : sget s (dep s) lab = none) {cs : List V} {us : List Value} (hl : LR s.length w γ cs us) (el : TypeId) :
 OpOk K s w γ (.ok (.value (.pointer (some ⟨w.heap.size, 0, none⟩))) (w.alloc (.cells us.toArray el))) (.ptr (dep s) lab 0) (some (dep s, lab, .cell cs)) := by
 obtain ⟨γ', h1, h2, h3⟩ := cell_new hS hs hn hl el
 exact ⟨_, _, γ', .inl rfl, h1, h2, h3⟩
theorem setAll_eq : ∀ (vs cs : List V) (off : Nat), off + vs.length ≤ cs.length → setAll cs off vs = cs.take off ++ vs ++ cs.drop (off + vs.length)
 | [], cs, off, _ => by simp [setAll]
 | v :: r, cs, off, h => by
   simp only [List.length_cons] at h
   rw [setAll, setAll_eq r _ _ (by simp; omega)]
   have e1 : (cs.set off v).take (off + 1) = cs.take off ++ [v] := by
    rw [List.take_add_one, List.take_set_of_le (Nat.le_refl off)]
    simp [show off < cs.length by omega]
   rw [e1, List.drop_set_of_lt (by omega)]
   simp [Nat.add_comm r.length 1, Nat.add_assoc]
theorem store_ok (hS : SR K s w γ) {d l : Nat} {cs : List V} (hg : sget s d l = some (.cell cs)) {off b : Nat} (hb : γ d l = some (.cell b)) {vs : List V} {us : List Value} (hl : LR (d + 1) w γ vs us) (ho : V.oneAll vs = true)
 (hle : off + vs.length ≤ cs.length) {P : Program} :
 ∃ w', (storeCells ⟨b, off, none⟩ us).run P w = .ok () w' ∧ SR K (sput s d l (.cell (setAll cs off vs))) w' γ ∧ Ext s.length w γ w' γ := by
 obtain ⟨b', c, e, h1, h2, h3⟩ := hS.cell hg
 rw [hb] at h1; cases h1
 have hlen : us.length = vs.length := hl.1.symm
 have hcs : cs.length = c.size := by simpa using h3.1
 have hrun := run_storeCells_at P b off e us 0 c w h2 (by omega) (hl.one (oneAll_mem ho))
 simp only [Nat.add_zero] at hrun
 have hown : ∀ o, Own γ b o := fun o => ⟨d, l, _, hb, rfl⟩
 have hx : Ext s.length w γ (w.setRow b (c.toList.take off ++ us ++ c.toList.drop (off + us.length)).toArray) γ := by
  have := Ext.setRow s.length (c' := (c.toList.take off ++ us ++ c.toList.drop (off + us.length)).toArray) hb rfl (g' := .cell b) (fun _ _ h => h) h2 (fun o u hno _ => absurd (hown o) hno) ⟨0, rfl⟩ (hS.notfrn hb rfl) (fun _ h => h) (fun _ h => h) (fun _ _ h => by cases h)
  rwa [set_self hb] at this
 refine ⟨_, hrun, hS.step (g := .cell b) (hS.lt hb) hx (set_self hb).symm ⟨b, _, e, hb, setRow_heap w b c _ e _ h2, ?_⟩ ?_ ?_, hx⟩
 ·rw [setAll_eq vs cs off hle]
  have := ((h3.take off).append hl).append (h3.drop (off + vs.length))
  rw [← hlen] at this
  simpa [hlen] using this.ext (hx.mono (hS.lt hb))
 ·intro d' l' g' b1 hne hg' hb1
  refine setRow_other w b b1 _ ?_
  rintro rfl
  exact hne (hS.inj d' l' g' d l _ b1 hg' hb hb1 rfl)
 ·intro b1 hb1 d' l' g' hne hg' hb'
  simp [GE.blk] at hb1; subst hb1
  exact hne (hS.inj d' l' g' d l _ b hg' hb hb' rfl)
theorem flatten_get {sz : Nat} : ∀ (es : List (List V)), (∀ cs ∈ es, cs.length = sz) → ∀ i j, j < sz → es.flatten[i * sz + j]? = (es[i]?).bind fun cs => cs[j]?
 | [], _, i, j, _ => by simp
 | cs :: r, h, i, j, hj => by
   have hc : cs.length = sz := h cs (by simp)
   cases i with
   | zero => simp [List.getElem?_append, hc, hj]
   | succ i =>
     have := flatten_get r (fun x hx => h x (by simp [hx])) i j hj
     simp only [List.flatten_cons, List.getElem?_cons_succ]
     rw [List.getElem?_append_right (by rw [hc, Nat.add_mul]; omega), hc, show (i + 1) * sz + j - sz = i * sz + j by rw [Nat.add_mul]; omega]
     exact this
theorem flatten_len {sz : Nat} : ∀ (es : List (List V)), (∀ cs ∈ es, cs.length = sz) → es.flatten.length = es.length * sz
 | [], _ => by simp
 | cs :: r, h => by
   simp only [List.flatten_cons, List.length_append, List.length_cons]
   rw [h cs (by simp), flatten_len r (fun x hx => h x (by simp [hx])), Nat.add_mul]; omega
theorem VR.sl_inv {D : Nat} {c : Cap} {sz : Nat} {es : List (List V)} {u : Value} (h : VR D w γ (.sl c sz es) u) :
 (∃ base cap, u = .slice base 0 cap ∧ es = [] ∧ capOk D γ c sz base 0 cap ∧ (base = none → cap = 0)) ∨
 ∃ b off cap us, u = .slice (some ⟨b, off, none⟩) es.length cap ∧ (∀ cs ∈ es, cs.length = sz) ∧ (∀ cs ∈ es, V.elemAll cs = true) ∧ es.length ≤ cap ∧ capOk D γ c sz (some ⟨b, off, none⟩) es.length cap ∧
  LR D w γ es.flatten us ∧ RD w b off us ∧ ∀ k, k < us.length → ¬ Own γ b (off + k) := by
 cases h with
 | slnil _ _ hc => exact .inl ⟨none, 0, rfl, rfl, hc, fun _ => rfl⟩
 | sl0 _ _ a cap hc => exact .inl ⟨some a, cap, rfl, rfl, hc, fun h => by cases h⟩
 | sl _ _ _ b off cap hsz hp hle hcap hc hno h =>
   refine .inr ⟨b, off, cap, (List.range es.flatten.length).map fun i => (w.cell? ⟨b, off + i, none⟩).getD Go.undef, rfl, hsz, hp, hle, hcap, ?_, ?_, ?_⟩
   all_goals
    have hfl := flatten_len es hsz
    have split : ∀ k, k < es.flatten.length → ∃ i j, k = i * sz + j ∧ j < sz := fun k hk => by
     rcases Nat.eq_zero_or_pos sz with h0 | h0
     ·rw [hfl, h0] at hk; omega
     ·exact ⟨k / sz, k % sz, by rw [Nat.mul_comm, Nat.div_add_mod], Nat.mod_lt _ h0⟩
   ·refine ⟨by simp, fun k v u hv hu => ?_⟩
    have hk : k < es.flatten.length := (List.getElem?_eq_some_iff.1 hv).1
    obtain ⟨i, j, rfl, hj⟩ := split k hk
    rw [flatten_get es hsz i j hj] at hv
    obtain ⟨cs, h1, h2⟩ := Option.bind_eq_some_iff.1 hv
    obtain ⟨u', hu'⟩ := hc i cs j v h1 h2
    rw [List.getElem?_map, List.getElem?_range hk] at hu
    simp only [Option.map_some, Option.some.injEq] at hu
    rw [hu'] at hu; simp at hu; subst hu
    exact h i cs j v _ h1 h2 hu'
   ·intro k u hu
    have hk : k < es.flatten.length := by have := (List.getElem?_eq_some_iff.1 hu).1; simpa using this
    obtain ⟨i, j, rfl, hj⟩ := split k hk
    have hv : es.flatten[i * sz + j]? = some es.flatten[i * sz + j] := by simp
    rw [flatten_get es hsz i j hj] at hv
    obtain ⟨cs, h1, h2⟩ := Option.bind_eq_some_iff.1 hv
    obtain ⟨u', hu'⟩ := hc i cs j _ h1 h2
    rw [List.getElem?_map, List.getElem?_range hk] at hu
    simp only [Option.map_some, Option.some.injEq] at hu
    rw [hu'] at hu ⊢; simpa using hu
   ·intro k hk
    have hk : k < es.flatten.length := by simpa using hk
    obtain ⟨i, j, rfl, hj⟩ := split k hk
    have hv : es.flatten[i * sz + j]? = some es.flatten[i * sz + j] := by simp
    rw [flatten_get es hsz i j hj] at hv
    obtain ⟨cs, h1, h2⟩ := Option.bind_eq_some_iff.1 hv
    exact hno i cs j _ h1 h2
theorem VR.sl_mk {D : Nat} {c : Cap} {sz : Nat} {es : List (List V)} {b off cap : Nat} {us : List Value} (hsz : ∀ cs ∈ es, cs.length = sz) (hp : ∀ cs ∈ es, V.elemAll cs = true) (hle : es.length ≤ cap)
 (hcap : capOk D γ c sz (some ⟨b, off, none⟩) es.length cap) (hl : LR D w γ es.flatten us) (hr : RD w b off us) (hno : ∀ k, k < us.length → ¬ Own γ b (off + k)) :
 VR D w γ (.sl c sz es) (.slice (some ⟨b, off, none⟩) es.length cap) := by
 have at_ : ∀ (i : Nat) (cs : List V) (j : Nat) (v : V), es[i]? = some cs → cs[j]? = some v → es.flatten[i * sz + j]? = some v := fun i cs j v h1 h2 => by
  have hm : cs ∈ es := List.mem_of_getElem? h1
  have hj : j < sz := by rw [← hsz cs hm]; exact (List.getElem?_eq_some_iff.1 h2).1
  rw [flatten_get es hsz i j hj, h1]; exact h2
 have lt_ : ∀ (k : Nat) (v : V), es.flatten[k]? = some v → k < us.length := fun k v h => by rw [← hl.1]; exact (List.getElem?_eq_some_iff.1 h).1
 refine .sl c sz es b off cap hsz hp hle hcap (fun i cs j v h1 h2 => ?_) (fun i cs j v h1 h2 => ?_) (fun i cs j v u h1 h2 hu => ?_)
 ·have hk := lt_ _ _ (at_ i cs j v h1 h2)
  exact ⟨us[i * sz + j], hr (i * sz + j) us[i * sz + j] (by simp)⟩
 ·exact hno _ (lt_ _ _ (at_ i cs j v h1 h2))
 ·have hk := lt_ _ _ (at_ i cs j v h1 h2)
  have := hr (i * sz + j) us[i * sz + j] (by simp)
  rw [this] at hu; cases hu
  exact hl.2 (i * sz + j) v us[i * sz + j] (at_ i cs j v h1 h2) (by simp)
theorem flatten_append' (es fs : List (List V)) : (es ++ fs).flatten = es.flatten ++ fs.flatten := by simp
theorem VR.sl_empty {D : Nat} {c : Cap} {sz : Nat} {base : Option Addr} {cap : Nat} (hcap : capOk D γ c sz base 0 cap) (hb : base = none → cap = 0) : VR D w γ (.sl c sz []) (.slice base 0 cap) := by
 cases base with
 | none => have := hb rfl; subst this; exact .slnil c sz hcap
 | some a => exact .sl0 c sz a cap hcap
theorem VR.forget {D : Nat} {c : Cap} {sz : Nat} {es : List (List V)} {u : Value} (h : VR D w γ (.sl c sz es) u) : VR D w γ (.sl .no sz es) u := by
 cases h with
 | slnil _ _ _ => exact .slnil _ _ trivial
 | sl0 _ _ a cap _ => exact .sl0 _ _ a cap trivial
 | sl _ _ _ b off cap hsz hp hle hcap hc hno h => exact .sl _ _ _ b off cap hsz hp hle trivial hc hno h
end
end Go.Ab

/-
  Operations: append.
-/
namespace Go.Ab
section
variable {K : KK} {s : Stk} {w : World} {γ : G} {P : Program}
theorem RD.add {b off : Nat} {us : List Value} (h : RD w b off us) : ∀ j u, us[j]? = some u → w.cell? ((⟨b, off, none⟩ : Addr).add j) = some u := by
 intro j u hu; rw [Addr.add_lit]; exact h j u hu
theorem run_append_empty {t e : TypeId} {i : TypeInfo} (ty : TypeId) (ht : P.underlying t = some (.slice e)) (hi : P.info? e = some i) (base : Option Addr) (len cap : Nat) (hle : len ≤ cap) (hn : base = none → len = 0) (uy : Value)
 (hy : uy = .slice none 0 0 ∨ ∃ a c, uy = .slice (some a) 0 c) :
 (Builtin.append_ #[t, t] ty #[.slice base len cap, uy]).run P w = .ok (.slice base len cap) w := by
 rcases hy with rfl | ⟨a, c, rfl⟩
 ·cases base with
  | none => simp [Builtin.append_, run_underlying ht, sizeOf, typeInfo, hi, Builtin.lenOf, hle, Builtin.firstCells]
  | some b => simp [Builtin.append_, run_underlying ht, sizeOf, typeInfo, hi, Builtin.lenOf, hle, Builtin.firstCells, storeCells]
 ·cases base with
  | none => simp [Builtin.append_, run_underlying ht, sizeOf, typeInfo, hi, Builtin.lenOf, hle, Builtin.firstCells, loadCells, loadCellsFrom]
  | some b => simp [Builtin.append_, run_underlying ht, sizeOf, typeInfo, hi, Builtin.lenOf, hle, Builtin.firstCells, storeCells, loadCells, loadCellsFrom]
theorem zeroCells_size (z : Array Value) (n : Nat) : (Builtin.zeroCells z n).size = n * z.size := by simp [Builtin.zeroCells]
theorem RD.alloc {b off : Nat} {us : List Value} (h : RD w b off us) (o : Obj) : RD (w.drew.alloc o) b off us := by
 intro j u hu
 have := h j u hu
 rw [World.cell?_alloc_lt w.drew o _ (by simpa using World.block_lt_of_cell? w _ this)]
 simpa using this
theorem grow_ok (hS : SR K s w γ) {d l : Nat} (hd : d < s.length) {g0 : Option GE} (hg0 : γ d l = g0) (hg : g0 = none ∨ ∃ n blk, g0 = some (.tok n blk)) {es fs : List (List V)} {esz n m cap : Nat} {olds news : List Value} {el : TypeId} {z : Array Value}
 (hn : es.length = n) (hm : fs.length = m) (hz : z.size = esz) (h0 : 0 < esz) (hcap : n + m ≤ cap) (hmax : cap ≤ maxLen) (hpos : 0 < m)
 (hes : ∀ cs ∈ es, cs.length = esz) (hfs : ∀ cs ∈ fs, cs.length = esz) (hpe : ∀ cs ∈ es, V.elemAll cs = true) (hpf : ∀ cs ∈ fs, V.elemAll cs = true)
 (hlo : LR s.length w γ es.flatten olds) (hln : LR s.length w γ fs.flatten news) (htok : ∀ n' blk, g0 = some (.tok n' blk) → n' = n) :
 ∃ γ', VR s.length (w.drew.alloc (.cells (olds.toArray ++ news.toArray ++ Builtin.zeroCells z (cap - (n + m))) el)) γ' (.sl (.own d l) esz (es ++ fs)) (.slice (some ⟨w.heap.size, 0, none⟩) (n + m) cap) ∧
  SR K (sput s d l (.tok (n + m))) (w.drew.alloc (.cells (olds.toArray ++ news.toArray ++ Builtin.zeroCells z (cap - (n + m))) el)) γ' ∧
  Ext s.length w γ (w.drew.alloc (.cells (olds.toArray ++ news.toArray ++ Builtin.zeroCells z (cap - (n + m))) el)) γ' := by
 obtain ⟨row, hrow⟩ : ∃ row, row = olds.toArray ++ news.toArray ++ Builtin.zeroCells z (cap - (n + m)) := ⟨_, rfl⟩
 rw [← hrow]
 have lo : olds.length = n * esz := by rw [← hlo.1, flatten_len es hes, hn]
 have ln : news.length = m * esz := by rw [← hln.1, flatten_len fs hfs, hm]
 have hsize : row.size = cap * esz := by
  rw [hrow]; simp only [Array.size_append, List.size_toArray, zeroCells_size, lo, ln, hz, ← Nat.add_mul]; congr 1; omega
 obtain ⟨g, hgd⟩ : ∃ g : GE, g = .tok (n + m) (some (w.heap.size, esz, cap)) := ⟨_, rfl⟩
 have hx1 : Ext s.length w γ w (γ.set d l g) := by
  refine ⟨rfl, rfl, rfl, Nat.le_refl _, Nat.le_refl _, ?_, ?_, ?_, ?_, ?_, fun _ _ _ h _ => h, ?_, fun _ _ _ => rfl, fun _ => G.set_none _ _ _ _ _, fun _ _ _ _ _ => rfl⟩
  ·intro d' l' b _ h
   rw [G.set_other γ g]; exact h
   rintro ⟨rfl, rfl⟩
   rw [hg0] at h
   rcases hg with hg | ⟨_, _, hg⟩ <;> rw [hg] at h <;> cases h
  ·intro d' l' b _ h
   rw [G.set_other γ g]; exact h
   rintro ⟨rfl, rfl⟩
   rw [hg0] at h
   rcases hg with hg | ⟨_, _, hg⟩ <;> rw [hg] at h <;> cases h
  ·intro d' l' n' blk _ h
   refine ⟨n', blk, ?_, .inl ⟨rfl, rfl⟩⟩
   rw [G.set_other γ g]; exact h
   rintro ⟨rfl, rfl⟩
   rw [hg0] at h
   rcases hg with hg | ⟨_, _, hg⟩ <;> rw [hg] at h <;> cases h
  ·intro d' l' lo N _ f _ h
   refine ⟨lo, N, f, ?_, Nat.le_refl _, Nat.le_refl _, fun _ _ _ => rfl⟩
   rw [G.set_other γ g]; exact h
   rintro ⟨rfl, rfl⟩
   rw [hg0] at h
   rcases hg with hg | ⟨_, _, hg⟩ <;> rw [hg] at h <;> cases h
  ·intro d' l' n' blk _ h
   by_cases e : d' = d ∧ l' = l
   ·obtain ⟨rfl, rfl⟩ := e
    rw [hg0] at h
    have := htok n' blk h
    exact ⟨n + m, some (w.heap.size, esz, cap), by rw [G.set_same, hgd], .inr (by omega)⟩
   ·exact ⟨n', blk, by rw [G.set_other γ g e]; exact h, .inl ⟨rfl, rfl⟩⟩
  ·intro b off hlt hno ho
   rcases own_set ho with h | h
   ·rw [hgd] at h; simp [GE.owns] at h; omega
   ·exact hno h
 have hx : Ext s.length w γ (w.drew.alloc (.cells row el)) (γ.set d l g) := (hx1.trans (Ext.drew s.length w (γ.set d l g))).trans (Ext.alloc s.length w.drew (γ.set d l g) (.cells row el) (hS.frn_set _ _ _))
 have hblk : (w.drew.alloc (.cells row el)).heap[w.heap.size]? = some (.cells row el (0, 0)) := heap_alloc_new w.drew _
 refine ⟨γ.set d l g, ?_, hS.step hd hx rfl ⟨some (w.heap.size, esz, cap), by rw [G.set_same, hgd], fun b sz k e => ?_⟩ ?_ ?_, hx⟩
 ·have hlen : (es ++ fs).length = n + m := by simp [hn, hm]
  rw [← hlen]
  refine VR.sl_mk (us := olds ++ news) (fun cs h => ?_) (fun cs h => ?_) (by rw [hlen]; exact hcap) ⟨hd, n + m, some (w.heap.size, esz, cap), by rw [G.set_same, hgd], by rw [hlen]; exact Nat.le_refl _, fun _ => ⟨rfl, rfl, rfl⟩⟩ ?_ ?_ ?_
  ·rcases List.mem_append.1 h with h | h
   ·exact hes cs h
   ·exact hfs cs h
  ·rcases List.mem_append.1 h with h | h
   ·exact hpe cs h
   ·exact hpf cs h
  ·rw [flatten_append']
   exact (hlo.ext hx).append (hln.ext hx)
  ·intro j u hu
   rw [cell_of_row _ w.heap.size (0 + j) row el (0, 0) hblk, hrow]
   have hj := (List.getElem?_eq_some_iff.1 hu).1
   simp only [Nat.zero_add, ← Array.getElem?_toList, Array.toList_append, List.append_assoc]
   rw [← List.append_assoc, List.getElem?_append_left hj]
   exact hu
  ·intro k hk ho
   simp only [List.length_append, lo, ln, ← Nat.add_mul] at hk
   rcases own_set ho with h | ⟨d', l', g', h1, h2⟩
   ·rw [hgd] at h; simp [GE.owns] at h; omega
   ·have := hS.blk_lt h1 (GE.owns_blk h2); omega
 ·cases e
  exact ⟨row, el, hblk, hcap, hsize, h0, hmax⟩
 ·intro d' l' g' b _ hg' hb
  exact heap_alloc_old w.drew _ b (by simpa using hS.blk_lt hg' hb)
 ·intro b hb d' l' g' _ hg' hb'
  rw [hgd] at hb; simp [GE.blk] at hb
  have := hS.blk_lt hg' hb'
  omega
theorem room_ok (hS : SR K s w γ) {d l b : Nat} {es fs : List (List V)} {esz n m k : Nat} {olds news : List Value} (hg : γ d l = some (.tok n (some (b, esz, k))))
 (hn : es.length = n) (hm : fs.length = m) (hcap : n + m ≤ k) (hpos : 0 < m) (hmax : k ≤ maxLen) {c : Array Value} {el : TypeId} (hc : w.heap[b]? = some (.cells c el (0, 0))) (hsize : c.size = k * esz) (h0 : 0 < esz)
 (hes : ∀ cs ∈ es, cs.length = esz) (hfs : ∀ cs ∈ fs, cs.length = esz) (hpe : ∀ cs ∈ es, V.elemAll cs = true) (hpf : ∀ cs ∈ fs, V.elemAll cs = true)
 (hlo : LR s.length w γ es.flatten olds) (hro : RD w b 0 olds) (hln : LR s.length w γ fs.flatten news) :
 ∃ γ', VR s.length (w.setRow b (c.toList.take (n * esz) ++ news ++ c.toList.drop (n * esz + news.length)).toArray) γ' (.sl (.own d l) esz (es ++ fs)) (.slice (some ⟨b, 0, none⟩) (n + m) k) ∧
  SR K (sput s d l (.tok (n + m))) (w.setRow b (c.toList.take (n * esz) ++ news ++ c.toList.drop (n * esz + news.length)).toArray) γ' ∧
  Ext s.length w γ (w.setRow b (c.toList.take (n * esz) ++ news ++ c.toList.drop (n * esz + news.length)).toArray) γ' := by
 obtain ⟨row, hrow⟩ : ∃ row, row = c.toList.take (n * esz) ++ news ++ c.toList.drop (n * esz + news.length) := ⟨_, rfl⟩
 rw [← hrow]
 have lo : olds.length = n * esz := by rw [← hlo.1, flatten_len es hes, hn]
 have ln : news.length = m * esz := by rw [← hln.1, flatten_len fs hfs, hm]
 have hfit : n * esz + m * esz ≤ c.size := by rw [hsize, ← Nat.add_mul]; exact Nat.mul_le_mul_right _ hcap
 have hcl : c.toList.length = c.size := Array.length_toList
 have hrs : row.toArray.size = k * esz := by
  rw [hrow]; simp only [List.size_toArray, List.length_append, List.length_take, List.length_drop, hcl, ln]; omega
 have hold : olds = c.toList.take (n * esz) := by
  apply List.ext_getElem?
  intro j
  by_cases hj : j < n * esz
  ·have h1 := hro j olds[j] (by simp)
   rw [Nat.zero_add, cell_of_row w b j c el (0, 0) hc] at h1
   rw [List.getElem?_take, if_pos hj, List.getElem?_eq_getElem (by omega)]
   simpa using h1.symm
  ·rw [List.getElem?_eq_none (by omega), List.getElem?_eq_none (by simp; omega)]
 have hkeep : ∀ off u, ¬ Own γ b off → c[off]? = some u → row.toArray[off]? = some u := by
  intro off u hno hu
  have hlt : off < n * esz := by
   apply Nat.lt_of_not_le
   intro hle
   exact hno ⟨d, l, _, hg, rfl, hle⟩
  have : (c.toList.take (n * esz))[off]? = some u := by rw [List.getElem?_take, if_pos hlt]; simpa using hu
  have hl : off < (c.toList.take (n * esz)).length := (List.getElem?_eq_some_iff.1 this).1
  rw [hrow]
  simp only [List.getElem?_toArray, List.append_assoc]
  rw [List.getElem?_append_left hl]
  exact this
 obtain ⟨g', hgd⟩ : ∃ g : GE, g = .tok (n + m) (some (b, esz, k)) := ⟨_, rfl⟩
 have hmono : n * esz ≤ (n + m) * esz := Nat.mul_le_mul_right _ (by omega)
 have hx : Ext s.length w γ (w.setRow b row.toArray) (γ.set d l g') :=
  Ext.setRow s.length hg rfl (fun b' off h => by rw [hgd] at h; simp only [GE.owns] at h ⊢; omega) hc hkeep ⟨n * esz, rfl, Nat.le_refl _⟩ (hS.notfrn hg rfl) (fun _ h => by cases h) (fun _ h => by cases h)
   (fun n' blk h => by cases h; exact ⟨n + m, some (b, esz, k), hgd, .inr (by omega)⟩)
 have hblk : (w.setRow b row.toArray).heap[b]? = some (.cells row.toArray el (0, 0)) := setRow_heap w b c _ el _ hc
 refine ⟨γ.set d l g', ?_, hS.step (hS.lt hg) hx rfl ⟨some (b, esz, k), by rw [G.set_same, hgd], fun b1 sz1 k1 e => ?_⟩ ?_ ?_, hx⟩
 ·have hlen : (es ++ fs).length = n + m := by simp [hn, hm]
  rw [← hlen]
  refine VR.sl_mk (us := olds ++ news) (fun cs h => ?_) (fun cs h => ?_) (by rw [hlen]; exact hcap) ⟨hS.lt hg, n + m, some (b, esz, k), by rw [G.set_same, hgd], by rw [hlen]; exact Nat.le_refl _, fun _ => ⟨rfl, rfl, rfl⟩⟩ ?_ ?_ ?_
  ·rcases List.mem_append.1 h with h | h
   ·exact hes cs h
   ·exact hfs cs h
  ·rcases List.mem_append.1 h with h | h
   ·exact hpe cs h
   ·exact hpf cs h
  ·rw [flatten_append']
   exact (hlo.ext hx).append (hln.ext hx)
  ·intro j u hu
   rw [cell_of_row _ b (0 + j) row.toArray el (0, 0) hblk, hrow]
   have hj := (List.getElem?_eq_some_iff.1 hu).1
   simp only [Nat.zero_add, List.getElem?_toArray]
   rw [← hold, List.getElem?_append_left hj]
   exact hu
  ·intro j hj ho
   simp only [List.length_append, lo, ln, ← Nat.add_mul] at hj
   rcases own_set' ho with h | ⟨d', l', g1, hne, h1, h2⟩
   ·rw [hgd] at h; simp [GE.owns] at h; omega
   ·exact hne (hS.inj d' l' g1 d l _ b h1 hg (GE.owns_blk h2) rfl)
 ·cases e
  exact ⟨row.toArray, el, hblk, hcap, hrs, h0, hmax⟩
 ·intro d' l' g1 b1 hne hg1 hb1
  refine setRow_other w b b1 _ ?_
  rintro rfl
  exact hne (hS.inj d' l' g1 d l _ b1 hg1 hg hb1 rfl)
 ·intro b1 hb1 d' l' g1 hne hg1 hb1'
  rw [hgd] at hb1; simp [GE.blk] at hb1; subst hb1
  exact hne (hS.inj d' l' g1 d l _ b hg1 hg hb1' rfl)
theorem tok_same (hS : SR K s w γ) {d l n : Nat} (hs : sget s d l = some (.tok n)) : SR K (sput s d l (.tok n)) w γ := by
 obtain ⟨blk, hg, h⟩ := hS.tok hs
 refine hS.step (hS.lt hg) (Ext.refl _ _ _) (set_self hg).symm ⟨blk, hg, h⟩ (fun _ _ _ _ _ _ _ => rfl) ?_
 intro b hb d' l' g' hne hg' hb'
 exact hne (hS.inj d' l' g' d l _ b hg' hg hb' hb)
theorem append_ok (hS : SR K s w γ) {t e : TypeId} {i : TypeInfo} {z : Value} (ty : TypeId) (ht : P.underlying t = some (.slice e)) (hi : P.info? e = some i) (hz : i.zero = some z) (h0 : 0 < i.size) (hzs : z.cells.size = i.size)
 {c c' : Cap} {sz sz' : Nat} {es fs : List (List V)} {ux uy : Value} (hs1 : sz = i.size ∨ es = []) (hs2 : sz' = i.size ∨ fs = [])
 (hb : (es.length + fs.length) * i.bytes ≤ 140737488355328) (hl : es.length + fs.length < 140737488355328) {lab : Nat} {v : V} {f : Eff}
 (h : (match c with
   | .no => if fs = [] then some (V.sl .no sz es, (none : Eff)) else none
   | .full => if fs = [] then some (.sl .full sz es, none) else
     if (sget s (dep s) lab).isNone ∧ s ≠ [] then some (.sl (.own (dep s) lab) i.size (es ++ fs), some (dep s, lab, .tok (es.length + fs.length))) else none
   | .own d l => match sget s d l with
     | some (.tok n) => if n = es.length ∧ sz = i.size then some (.sl (.own d l) i.size (es ++ fs), some (d, l, .tok (es.length + fs.length))) else none
     | _ => none) = some (v, f)) (hX : VR s.length w γ (.sl c sz es) ux) (hY : VR s.length w γ (.sl c' sz' fs) uy) :
 ∃ u w' γ', (Builtin.append_ #[t, t] ty #[ux, uy]).run P w = .ok u w' ∧ VR s.length w' γ' v u ∧ SR K (seff s f) w' γ' ∧ Ext s.length w γ w' γ' := by
 have hmax : es.length + fs.length ≤ maxLen := by simp only [maxLen]; omega
 have h63 : ((es.length + fs.length : Nat) : Int) ≤ 9223372036854775807 := by omega
 have shX : ∃ base len cap, ux = .slice base len cap ∧ len = es.length ∧ len ≤ cap ∧ (base = none → len = 0 ∧ cap = 0) := by
  rcases hX.sl_inv with ⟨base, cap, rfl, rfl, _, hb0⟩ | ⟨b, off, cap, us, rfl, _, _, hle, _⟩
  ·exact ⟨_, _, _, rfl, rfl, Nat.zero_le _, fun h => ⟨rfl, hb0 h⟩⟩
  ·exact ⟨_, _, _, rfl, rfl, hle, fun h => by cases h⟩
 by_cases hfs : fs = []
 · -- nothing comes
  subst hfs
  have hy : uy = .slice none 0 0 ∨ ∃ a c, uy = .slice (some a) 0 c := by
   rcases hY.sl_inv with ⟨base, cap, rfl, _, _, hb0⟩ | ⟨b, off, cap, us, rfl, _⟩
   ·cases base with
    | none => have := hb0 rfl; subst this; exact .inl rfl
    | some a => exact .inr ⟨_, _, rfl⟩
   ·exact .inr ⟨_, _, rfl⟩
  obtain ⟨base, len, cap, rfl, hlen, hle, hnb⟩ := shX
  have hrun := run_append_empty (w := w) ty ht hi base len cap hle (fun h => (hnb h).1) uy hy
  refine ⟨_, w, γ, hrun, ?_, ?_, Ext.refl _ _ _⟩
  ·cases c with
   | no => simp at h; obtain ⟨rfl, _⟩ := h; exact hX
   | full => simp at h; obtain ⟨rfl, _⟩ := h; exact hX
   | own d l =>
     dsimp only at h
     split at h
     ·split at h
      ·rename_i n hn hc
       cases h
       rw [List.append_nil, ← hc.2]; exact hX
      ·cases h
     ·cases h
  ·cases c with
   | no => simp at h; obtain ⟨_, rfl⟩ := h; exact hS
   | full => simp at h; obtain ⟨_, rfl⟩ := h; exact hS
   | own d l =>
     dsimp only at h
     split at h
     ·split at h
      ·rename_i n hn hc
       cases h
       obtain ⟨rfl, _⟩ := hc
       exact tok_same hS hn
      ·cases h
     ·cases h
 · -- something comes
  have hm : 0 < fs.length := List.length_pos_iff.2 hfs
  have hs2' : sz' = i.size := hs2.resolve_right hfs
  subst hs2'
  rcases hY.sl_inv with ⟨_, _, _, e0, _⟩ | ⟨b2, off2, cap2, news, rfl, hfz, hfp, hle2, _, hln, hrn, _⟩
  ·exact absurd e0 hfs
  have lnews : news.length = fs.length * i.size := by rw [← hln.1, flatten_len fs hfz]
  have olds : ∃ us, (∀ cs ∈ es, cs.length = i.size) ∧ (∀ cs ∈ es, V.elemAll cs = true) ∧ LR s.length w γ es.flatten us ∧
   ((ux = .slice none 0 0 ∧ es = [] ∧ capOk s.length γ c sz none 0 0) ∨ ∃ a cap, ux = .slice (some a) es.length cap ∧ (∀ j u, us[j]? = some u → w.cell? (a.add j) = some u) ∧ capOk s.length γ c sz (some a) es.length cap) := by
   rcases hX.sl_inv with ⟨base, cap, rfl, rfl, hco, hb0⟩ | ⟨b, off, cap, us, rfl, hz1, hz2, hle, hco, hlo, hro, _⟩
   ·refine ⟨[], by simp, by simp, LR.nil, ?_⟩
    cases base with
    | none => have := hb0 rfl; subst this; exact .inl ⟨rfl, rfl, hco⟩
    | some a => exact .inr ⟨a, cap, rfl, fun j u hu => by simp at hu, hco⟩
   ·refine ⟨us, fun cs hcs => ?_, hz2, hlo, .inr ⟨_, cap, rfl, hro.add, hco⟩⟩
    rcases hs1 with rfl | rfl
    ·exact hz1 cs hcs
    ·cases hcs
  obtain ⟨us, hez, hep, hlo, hshape⟩ := olds
  have lus : us.length = es.length * i.size := by rw [← hlo.1, flatten_len es hez]
  have newArr : ∀ (d l : Nat) (g0 : Option GE), d < s.length → γ d l = g0 → (g0 = none ∨ ∃ n blk, g0 = some (.tok n blk)) → (∀ n' blk, g0 = some (.tok n' blk) → n' = es.length) →
   (∀ a cap, ux = .slice (some a) es.length cap → cap < es.length + fs.length) →
   ∃ u w' γ', (Builtin.append_ #[t, t] ty #[ux, .slice (some ⟨b2, off2, none⟩) fs.length cap2]).run P w = .ok u w' ∧ VR s.length w' γ' (.sl (.own d l) i.size (es ++ fs)) u ∧
    SR K (sput s d l (.tok (es.length + fs.length))) w' γ' ∧ Ext s.length w γ w' γ' := by
   intro d l g0 hd hg0 hg htok hroom
   rcases hshape with ⟨rfl, rfl, _⟩ | ⟨a, cap, rfl, hro, _⟩
   ·have hu0 : us = [] := List.eq_nil_of_length_eq_zero (by simpa using lus)
    subst hu0
    simp only [List.length_nil, Nat.zero_add] at hb hl hmax h63
    have hr := run_append_nil (P := P) w t ty e i z ht hi hz ⟨b2, off2, none⟩ fs.length cap2 news lnews hrn.add hm h63 (by omega)
    have hge := grownCap_ge w fs.length 0 e
    have hle := grownCap_le_maxLen w fs.length 0 e hmax
    obtain ⟨γ', h1, h2, h3⟩ := grow_ok hS hd hg0 hg (es := []) (fs := fs) (n := 0) (m := fs.length) (cap := grownCap w fs.length 0 e) (el := e) (z := z.cells) rfl rfl hzs h0 (by omega) hle hm hez hfz hep hfp hlo hln htok
    simp only [Nat.zero_add, List.nil_append, Array.empty_append] at h1 h2 h3
    refine ⟨_, _, γ', hr, h1, ?_, h3⟩
    simpa using h2
   ·have hlt := hroom a cap rfl
    have hr := run_append_grow (P := P) w t ty e i z ht hi hz a es.length cap us lus hro ⟨b2, off2, none⟩ fs.length cap2 news lnews hrn.add hlt h63 (growslice_fits hlt hb)
    have hge := grownCap_ge w (es.length + fs.length) cap e
    have hle := grownCap_le_maxLen w (es.length + fs.length) cap e hmax
    obtain ⟨γ', h1, h2, h3⟩ := grow_ok hS hd hg0 hg (cap := grownCap w (es.length + fs.length) cap e) (el := e) (z := z.cells) rfl rfl hzs h0 hge hle hm hez hfz hep hfp hlo hln htok
    exact ⟨_, _, γ', hr, h1, h2, h3⟩
  cases c with
  | no => simp [hfs] at h
  | full =>
    simp only [hfs, if_false] at h
    split at h
    ·rename_i hcond
     cases h
     have hd := dep_succ hcond.2
     have hn : sget s (dep s) lab = none := by simpa using hcond.1
     refine newArr _ _ none (by omega) (hS.none _ _ hn) (.inl rfl) (fun _ _ h => by cases h) ?_
     intro a cap e
     rcases hshape with ⟨rfl, _⟩ | ⟨a', cap', rfl, _, hco⟩
     ·cases e
     ·cases e
      have : cap = es.length := hco
      omega
    ·cases h
  | own d l =>
    dsimp only at h
    split at h
    ·rename_i n hn
     split at h
     ·rename_i hcond
      cases h
      obtain ⟨rfl, rfl⟩ := hcond
      obtain ⟨blk, hg, hblk⟩ := hS.tok hn
      cases blk with
      | none =>
        refine newArr d l _ (hS.lt hg) hg (.inr ⟨_, _, rfl⟩) (fun n' blk h => by cases h; rfl) ?_
        intro a cap e
        rcases hshape with ⟨rfl, _⟩ | ⟨a', cap', rfl, _, hco⟩
        ·cases e
        ·cases e
         obtain ⟨_, n', blk', hg', _, hc⟩ := hco
         rw [hg] at hg'; cases hg'
         have := hc rfl
         simp only at this
         omega
      | some y =>
        obtain ⟨b0, sz0, k⟩ := y
        obtain ⟨cur, el, hcur, hnk, hcs, _, hk⟩ := hblk _ _ _ rfl
        rcases hshape with ⟨rfl, rfl, hco⟩ | ⟨a', cap', rfl, hro, hco⟩
        · -- nil and a block: the capacity is at odds
         obtain ⟨_, n', blk', hg', _, hc⟩ := hco
         rw [hg] at hg'; cases hg'
         have := (hc rfl).1
         cases this
        ·obtain ⟨_, n', blk', hg', _, hc⟩ := hco
         rw [hg] at hg'; cases hg'
         obtain ⟨e1, e2, e3⟩ := hc rfl
         cases e1
         subst e2
         subst e3
         by_cases hroom : es.length + fs.length ≤ cap'
         ·have hel : el = e ∨ True := .inr trivial
          have hfit : es.length * i.size + news.length ≤ cur.size := by rw [lnews, hcs, ← Nat.add_mul]; exact Nat.mul_le_mul_right _ hroom
          have hst := run_storeCells_at P b0 (es.length * i.size) el news 0 cur w hcur (by simpa using hfit) (hln.one (fun v hv => by
           obtain ⟨cs, hcs1, hv1⟩ := List.mem_flatten.1 hv
           exact (elemAll_mem (hfp cs hcs1) v hv1).2))
          simp only [Nat.add_zero] at hst
          have hf := run_firstCells_some (P := P) w i.size fs.length ⟨b2, off2, none⟩ fs.length cap2 news lnews hrn.add
          have hro' : RD w b0 0 us := fun j u hu => by have := hro j u hu; rwa [Addr.add_lit] at this
          obtain ⟨γ', h1, h2, h3⟩ := room_ok hS hg rfl rfl hroom hm hk hcur hcs h0 hez hfz hep hfp hlo hro' hln
          refine ⟨_, _, γ', ?_, h1, h2, h3⟩
          simp [Builtin.append_, run_underlying ht, sizeOf, typeInfo, hi, Builtin.lenOf, hroom, hf, Addr.add_lit, hst]
         ·refine newArr d l _ (hS.lt hg) hg (.inr ⟨_, _, rfl⟩) (fun n' blk h => by cases h; rfl) ?_
          intro a cap e
          cases e
          omega
     ·cases h
    ·cases h
end
end Go.Ab

/-
  Operations: equality of structs.
-/
namespace Go.Ab
theorem eqCells_cons {k : Bool} {ks : List Bool} {a b : List V} {r : Bool} (h : eqCells (k :: ks) a b = some r) :
 ∃ x a' y b' q r', a = x :: a' ∧ b = y :: b' ∧ eqCells ks a' b' = some r' ∧ r = (q && r') ∧ (∀ c d z, eqCells ks c d = some z → eqCells (k :: ks) (x :: c) (y :: d) = some (q && z)) ∧
  (∀ ks' c d z, eqCells ks' c d = some z → eqCells (k :: ks') (x :: c) (y :: d) = some (q && z)) := by
 cases a with
 | nil => simp [eqCells] at h
 | cons x a =>
   cases b with
   | nil => cases k <;> cases x <;> simp [eqCells] at h
   | cons y b =>
     cases k <;> cases x <;> cases y <;> simp only [eqCells, reduceCtorEq] at h
     ·rename_i p q
      obtain ⟨r', h1, h2⟩ := Option.map_eq_some_iff.1 h
      exact ⟨_, _, _, _, p == q, r', rfl, rfl, h1, h2.symm, fun c d z hz => by simp only [eqCells, hz, Option.map_some], fun ks' c d z hz => by simp only [eqCells, hz, Option.map_some]⟩
     ·rename_i k1 p k2 q
      split at h
      ·rename_i hk
       obtain ⟨r', h1, h2⟩ := Option.map_eq_some_iff.1 h
       exact ⟨_, _, _, _, p == q, r', rfl, rfl, h1, h2.symm, fun c d z hz => by simp only [eqCells, hk, if_true, hz, Option.map_some], fun ks' c d z hz => by simp only [eqCells, hk, if_true, hz, Option.map_some]⟩
      ·cases h
theorem eqCells_len : ∀ {ks : List Bool} {a b : List V} {r : Bool}, eqCells ks a b = some r → a.length = ks.length ∧ b.length = ks.length := by
 intro ks
 induction ks with
 | nil =>
   intro a b r h
   cases a <;> cases b <;> simp [eqCells] at h ⊢
 | cons k ks ih =>
   intro a b r h
   obtain ⟨x, a', y, b', q, r', rfl, rfl, h1, _⟩ := eqCells_cons h
   have := ih h1
   simp [this.1, this.2]
theorem eqCells_append : ∀ {k1 k2 : List Bool} {a b : List V} {r : Bool}, eqCells (k1 ++ k2) a b = some r →
 ∃ r1 r2, eqCells k1 (a.take k1.length) (b.take k1.length) = some r1 ∧ eqCells k2 (a.drop k1.length) (b.drop k1.length) = some r2 ∧ r = (r1 && r2) := by
 intro k1
 induction k1 with
 | nil => intro k2 a b r h; exact ⟨true, r, by simp [eqCells], by simpa using h, by simp⟩
 | cons k k1 ih =>
   intro k2 a b r h
   obtain ⟨x, a', y, b', q, r', rfl, rfl, h1, rfl, _, h3⟩ := eqCells_cons h
   obtain ⟨r1, r2, e1, e2, rfl⟩ := ih h1
   exact ⟨q && r1, r2, by simpa using h3 k1 _ _ _ e1, by simpa using e2, by simp [Bool.and_assoc]⟩
section
variable {P : Program} {D : Nat} {w : World} {γ : G}
def valAt (P : Program) (t : TypeId) (us : List Value) : Value :=
 match isAggT P t, us with
 | some false, [u] => u
 | _, us => .agg us.toArray
theorem eq_plain : ∀ (d : Nat), (∀ (t : TypeId) (ks : List Bool), plainKs P d t = some ks → ∀ (xs ys : List V) (us vs : List Value) (r : Bool), LR D w γ xs us → LR D w γ ys vs → eqCells ks xs ys = some r →
 ∀ k, d ≤ k → (Op.equalIn k t (valAt P t us) (valAt P t vs)).run P w = .ok r w) ∧
 (∀ (fs : List Field) (n0 : Nat) (ks : List Bool), plainFs P d fs n0 = some ks → ∀ (xs ys : List V) (us vs : List Value) (r : Bool), LR D w γ xs us → LR D w γ ys vs → eqCells ks (xs.drop n0) (ys.drop n0) = some r →
   ∀ k, d ≤ k → (Op.eqFields k us.toArray vs.toArray fs).run P w = .ok r w) := by
 intro d
 induction d with
 | zero => exact ⟨fun t n h => by simp [plainKs] at h, fun fs n0 n h => by simp [plainFs] at h⟩
 | succ d ih =>
   refine ⟨fun t ks h xs ys us vs r hus hvs he k hk => ?_, fun fs n0 ks h xs ys us vs r hus hvs he k hk => ?_⟩
   ·obtain ⟨k, rfl⟩ : ∃ k', k = k' + 1 := ⟨k - 1, by omega⟩
    simp only [plainKs] at h
    split at h
    ·rename_i kk ht
     cases h
     have e1 : isAggT P t = some false := by simp [isAggT, ht]
     obtain ⟨l1, l2⟩ := eqCells_len he
     obtain ⟨x, rfl⟩ := List.length_eq_one_iff.1 l1
     obtain ⟨y, rfl⟩ := List.length_eq_one_iff.1 l2
     obtain ⟨u, us', rfl, hu, hus'⟩ := hus.inv
     obtain ⟨v, vs', rfl, hv, hvs'⟩ := hvs.inv
     cases List.eq_nil_of_length_eq_zero (by simpa using hus'.1.symm)
     cases List.eq_nil_of_length_eq_zero (by simpa using hvs'.1.symm)
     simp only [valAt, e1]
     cases x <;> cases y <;> simp [eqCells] at he
     obtain ⟨rfl, rfl⟩ := he
     rw [hu.int_inv, hv.int_inv, run_equalIn_int w k t _ kk _ _ ht]
    ·rename_i ht
     cases h
     have e1 : isAggT P t = some false := by simp [isAggT, ht]
     obtain ⟨l1, l2⟩ := eqCells_len he
     obtain ⟨x, rfl⟩ := List.length_eq_one_iff.1 l1
     obtain ⟨y, rfl⟩ := List.length_eq_one_iff.1 l2
     obtain ⟨u, us', rfl, hu, hus'⟩ := hus.inv
     obtain ⟨v, vs', rfl, hv, hvs'⟩ := hvs.inv
     cases List.eq_nil_of_length_eq_zero (by simpa using hus'.1.symm)
     cases List.eq_nil_of_length_eq_zero (by simpa using hvs'.1.symm)
     simp only [valAt, e1]
     cases x <;> cases y <;> simp [eqCells] at he
     subst he
     rw [hu.bool_inv, hv.bool_inv, run_equalIn_bool' w k t _ _ ht]
    ·rename_i fs ht
     split at h
     ·cases h
     ·rename_i hst
      have e1 : isAggT P t = some true := by simp [isAggT, ht]
      have e2 : P.fieldsOf t = fs := by simp [Program.fieldsOf, ht]
      have hv1 : ∀ us : List Value, valAt P t us = .agg us.toArray := fun us => by simp [valAt, e1]
      rw [hv1, hv1, run_equalIn_struct w k t _ _ (by rw [e2]; exact ht) (by simpa using hst), e2]
      exact ih.2 fs.toList 0 ks h xs ys us vs r hus hvs (by simpa using he) k (by omega)
    ·cases h
   ·cases fs with
    | nil =>
      simp only [plainFs] at h
      cases h
      have : r = true := by
       generalize List.drop n0 xs = p at he
       generalize List.drop n0 ys = q at he
       cases p <;> cases q <;> simp [eqCells] at he
       exact he
      subst this
      rfl
    | cons f rest =>
      simp only [plainFs] at h
      split at h
      ·rename_i hf
       split at h
       ·rename_i k1 hk1
        split at h
        ·rename_i hsz
         obtain ⟨k2, hk2, rfl⟩ := Option.map_eq_some_iff.1 h
         obtain ⟨r1, r2, c1, c2, rfl⟩ := eqCells_append he
         have hpart : ∀ (zs : List V) (ts : List Value), LR D w γ zs ts → ((zs.drop n0).take k1.length).length = k1.length →
          (Go.part f.type ts.toArray f.offset).run P w = .ok (valAt P f.type ((ts.drop n0).take k1.length)) w := by
          intro zs ts hl hlen
          rw [hf.2]
          have hlt : k1.length ≤ ts.length - n0 := by rw [← hl.1]; simp at hlen; omega
          have hagg : ∃ b, isAggT P f.type = some b := by
           cases d with
           | zero => simp [plainKs] at hk1
           | succ d =>
             simp only [plainKs] at hk1
             unfold isAggT
             split at hk1 <;> rename_i hu <;> simp [hu] at hk1 ⊢
          obtain ⟨b, hb⟩ := hagg
          unfold Go.part
          cases b with
          | true => simp [run_isAgg hb, run_sizeOf' hsz, valAt, hb, List.take_drop]
          | false =>
            have hone : k1.length = 1 := by
             cases d with
             | zero => simp [plainKs] at hk1
             | succ d =>
               simp only [plainKs] at hk1
               unfold isAggT at hb
               split at hk1 <;> rename_i hu <;> simp [hu] at hk1 hb <;> try (subst hk1; rfl)
            rw [hone] at hlt ⊢
            have hn : n0 < ts.length := by omega
            have : (ts.drop n0).take 1 = [ts[n0]] := by
             rw [List.drop_eq_getElem_cons hn, List.take_succ_cons, List.take_zero]
            simp [run_isAgg hb, hn, valAt, hb, this]
         have hx := hpart xs us hus (eqCells_len c1).1
         have hy := hpart ys vs hvs (eqCells_len c1).2
         have heq := ih.1 f.type k1 hk1 _ _ _ _ r1 ((hus.drop n0).take k1.length) ((hvs.drop n0).take k1.length) c1 k (by omega)
         have hrest := ih.2 rest (n0 + k1.length) k2 hk2 xs ys us vs r2 hus hvs (by simpa [Nat.add_comm] using c2) k (by omega)
         simp only [Op.eqFields, hf.1, ne_eq, not_false_eq_true, if_true, Sem.run_bind, hx, hy, heq, Result.andThen_ok, Sem.run_ite, hrest, Sem.run_pure]
         cases r1 <;> simp
        ·cases h
       ·cases h
      ·cases h
theorem eqa_ok {t : TypeId} {ks : List Bool} (ht : plainT P t = some ks) (hstr : ∃ fs, P.underlying t = some (.struct fs)) {xs ys : List V} {u v : Value} (hu : VR D w γ (.agg xs) u) (hv : VR D w γ (.agg ys) v) {r : Bool} (he : eqCells ks xs ys = some r)
 (op : BinOp) (hop : op = .eql ∨ op = .neq) (x y : Operand) :
 ((do eqGuard op t x y u v; Go.binOp op t u v : Sem Value)).run P w = .ok (.bool (if op = .neq then !r else r)) w := by
 unfold plainT at ht
 split at ht
 ·cases ht
 ·rename_i hg
  obtain ⟨fs, hfs⟩ := hstr
  obtain ⟨us, rfl, hus⟩ := hu.agg_inv
  obtain ⟨vs, rfl, hvs⟩ := hv.agg_inv
  have hagg : isAggT P t = some true := by simp [isAggT, hfs]
  have := (eq_plain 40).1 t ks ht xs ys us.toList vs.toList r hus hvs he 10000 (by omega)
  simp only [valAt, hagg] at this
  have e1 : ∀ zs : Array Value, zs.toList.toArray = zs := fun zs => by simp
  simp only [Sem.run_bind, run_eqGuard_agg w op t x y us vs (by simpa using hg), Result.andThen_ok]
  rcases hop with rfl | rfl
  ·rw [run_eql_struct]; simp only [e1] at this; rw [this]; rfl
  ·rw [run_neq_struct]; simp only [e1] at this; rw [this]; rfl
end
end Go.Ab

/-
  Operations: the others, and all together: 'op_sound'.
-/
namespace Go.Ab
section
variable {K : KK} {P : Program} {s : Stk} {w : World} {γ : G} {e : Env} {a : Act}
theorem foldl_set_toList : ∀ (vs : List Value) (cs : Array Value) (off j : Nat),
 ((vs.zipIdx j).foldl (fun cs (x : Value × Nat) => cs.setIfInBounds (off + x.2) x.1) cs).toList = (vs.zipIdx j).foldl (fun cs (x : Value × Nat) => cs.set (off + x.2) x.1) cs.toList
 | [], cs, off, j => rfl
 | v :: r, cs, off, j => by
   simp only [List.zipIdx_cons, List.foldl_cons]
   rw [foldl_set_toList r]
   simp
theorem LR.setAll {D : Nat} : ∀ (vs : List V) (us : List Value) (cs : List V) (ds : List Value) (off j : Nat), LR D w γ vs us → LR D w γ cs ds →
 LR D w γ (setAll cs (off + j) vs) ((us.zipIdx j).foldl (fun cs (x : Value × Nat) => cs.set (off + x.2) x.1) ds)
 | [], us, cs, ds, off, j, h, hd => by
   cases List.eq_nil_of_length_eq_zero (by simpa using h.1.symm)
   simpa [Ab.setAll] using hd
 | v :: r, us, cs, ds, off, j, h, hd => by
   obtain ⟨u, us', rfl, h1, h2⟩ := h.inv
   simp only [Ab.setAll, List.zipIdx_cons, List.foldl_cons]
   exact LR.setAll r us' _ _ off (j + 1) h2 (hd.set _ h1)
theorem fill_step {D : Nat} {place : Nat → Option (Nat × Nat)} {i off size : Nat} (hp : place i = some (off, size)) {v : V} {u : Value} (hv : LR D w γ v.cells u.cells.toList) (hlen : v.cells.length = size)
 {cs : List V} {ds : Array Value} (hd : LR D w γ cs ds.toList) (hle : off + size ≤ cs.length) (rest : List (Nat × Value)) :
 ∃ ds', Instr.fill place ds ((i, u) :: rest) = Instr.fill place ds' rest ∧ LR D w γ (setAll cs off v.cells) ds'.toList := by
 have hl : u.cells.size = size := by rw [← hlen, hv.1]; simp
 refine ⟨u.cells.zipIdx.foldl (fun cs (c, j) => cs.setIfInBounds (off + j) c) ds, ?_, ?_⟩
 ·have h2 : ¬ (ds.size < off + size) := by have := hd.1; simp at this; omega
  simp [Instr.fill, hp, hl, h2]
 ·have h1 : (u.cells.zipIdx.foldl (fun cs (x : Value × Nat) => cs.setIfInBounds (off + x.2) x.1) ds).toList = (u.cells.toList.zipIdx 0).foldl (fun cs (x : Value × Nat) => cs.set (off + x.2) x.1) ds.toList := by
   rw [← Array.foldl_toList, Array.toList_zipIdx]
   exact foldl_set_toList _ _ _ _
  show LR D w γ _ (u.cells.zipIdx.foldl (fun cs (x : Value × Nat) => cs.setIfInBounds (off + x.2) x.1) ds).toList
  rw [h1]
  simpa using LR.setAll v.cells u.cells.toList cs ds.toList off 0 hv hd
theorem fill_struct (hE : ER s.length w γ e a) {fs : Array Field} {place : Nat → Option (Nat × Nat)} (hplace : ∀ (i : Nat) f n, fs[i]? = some f → sizeT P f.type = some n → place i = some (f.offset, n)) :
 ∀ {ps : List (Nat × Operand)} {qs : List (Nat × Nat × Opd)}, parts P fs ps = some qs → ∀ {cs cs' : List V} {ds : Array Value}, fillAll e qs cs = some cs' → LR s.length w γ cs ds.toList →
  ∃ ds', Instr.fill place ds (ps.map fun x => (x.1, a.eval x.2)) = some ds' ∧ LR s.length w γ cs' ds'.toList
 | [], qs, h, cs, cs', ds, hf, hd => by simp [parts] at h; subst h; simp [fillAll] at hf; subst hf; exact ⟨ds, rfl, hd⟩
 | (i, x) :: r, qs, h, cs, cs', ds, hf, hd => by
   unfold parts at h
   split at h
   ·rename_i f r' h1 h2
    split at h
    ·rename_i n y h3 h4
     cases h
     simp only [fillAll] at hf
     split at hf
     ·rename_i hc
      simp only [Bool.and_eq_true, decide_eq_true_eq] at hc
      have hv := (hE.opdT h4).cells hc.2
      obtain ⟨ds1, e1, hd1⟩ := fill_step (hplace i f n h1 h3) hv (by simpa using hc.1.1) hd (by simpa using hc.1.2) (r.map fun x => (x.1, a.eval x.2))
      obtain ⟨ds2, e2, hd2⟩ := fill_struct hE hplace h2 hf hd1
      exact ⟨ds2, by simp only [List.map_cons]; rw [e1, e2], hd2⟩
     ·cases hf
    ·cases h
   ·cases h
theorem fill_array (hE : ER s.length w γ e a) {el : TypeId} {n : Nat} :
 ∀ {ps : List (Nat × Operand)} {qs : List (Nat × Nat × Opd)}, partsA P el n ps = some qs → ∀ {cs cs' : List V} {ds : Array Value}, fillAll e qs cs = some cs' → LR s.length w γ cs ds.toList →
  ∃ ds', Instr.fill (fun i => some (i * n, n)) ds (ps.map fun x => (x.1, a.eval x.2)) = some ds' ∧ LR s.length w γ cs' ds'.toList
 | [], qs, h, cs, cs', ds, hf, hd => by simp [partsA] at h; subst h; simp [fillAll] at hf; subst hf; exact ⟨ds, rfl, hd⟩
 | (i, x) :: r, qs, h, cs, cs', ds, hf, hd => by
   unfold partsA at h
   split at h
   ·rename_i y r' h1 h2
    cases h
    simp only [fillAll] at hf
    split at hf
    ·rename_i hc
     simp only [Bool.and_eq_true, decide_eq_true_eq] at hc
     have hv := (hE.opdT h1).cells hc.2
     obtain ⟨ds1, e1, hd1⟩ := fill_step (place := fun i => some (i * n, n)) (i := i) rfl hv (by simpa using hc.1.1) hd (by simpa using hc.1.2) (r.map fun x => (x.1, a.eval x.2))
     obtain ⟨ds2, e2, hd2⟩ := fill_array hE h2 hf hd1
     exact ⟨ds2, by simp only [List.map_cons]; rw [e1, e2], hd2⟩
    ·cases hf
   ·cases h
theorem zeroT_ok {t : TypeId} {z : List V} (h : zeroT P t = some z) (D : Nat) (w : World) (γ : G) :
 ∃ i v, P.info? t = some i ∧ i.zero = some v ∧ LR D w γ z v.cells.toList ∧ (zeroValue t).run P w = .ok v w := by
 unfold zeroT at h
 split at h
 ·rename_i i hi
  split at h
  ·rename_i v hv
   obtain ⟨l, h1, rfl⟩ := Option.map_eq_some_iff.1 h
   exact ⟨i, v, hi, hv, LR.nilsAs (LR.cvL h1), by simp [zeroValue, typeInfo, hi, hv]⟩
  ·cases h
 ·cases h
mutual
theorem VR.strip' {D : Nat} {w : World} {γ : G} : ∀ (v : V) (u : Value), VR D w γ v u → VR D w γ v.strip u
 | .agg cs, u, h => by
   obtain ⟨us, rfl, hl⟩ := h.agg_inv
   have := VR.agg_mk (LR.strip' cs us.toList hl)
   simpa [V.strip] using this
 | .tup cs, u, h => by
   obtain ⟨us, rfl, hl⟩ := h.tup_inv
   have := VR.tup_mk (LR.strip' cs us.toList hl)
   simpa [V.strip] using this
 | .sl c z es, u, h => by simpa [V.strip] using h.forget
 | .fn f as bs, u, h => by
   cases h with
   | fn _ _ _ us ws h1 h2 k1 k2 =>
     have e1 := LR.strip' as us.toList ⟨by simpa using h1, fun i v u hv hu => k1 i v u hv (by simpa using hu)⟩
     have e2 := LR.strip' bs ws.toList ⟨by simpa using h2, fun i v u hv hu => k2 i v u hv (by simpa using hu)⟩
     have := VR.fn_mk (f := f) e1 e2
     simpa [V.strip] using this
 | .undef, u, h => by simpa [V.strip] using h
 | .skip, u, h => by simpa [V.strip] using h
 | .int k n, u, h => by simpa [V.strip] using h
 | .bool b, u, h => by simpa [V.strip] using h
 | .anyb, u, h => by simpa [V.strip] using h
 | .csl p n, u, h => by
   cases h with
   | csl _ _ cap a hle h => simpa only [V.strip] using VR.csl _ n cap a hle (VR.strip' p _ h)
 | .nilp, u, h => by simpa [V.strip] using h
 | .ptr d l o, u, h => by simpa [V.strip] using h
 | .ep cs, u, h => by simpa [V.strip] using h
 | .nilf, u, h => by simpa [V.strip] using h
 | .yld d l, u, h => by simpa [V.strip] using h
 | .asl d l z n o k, u, h => by simpa [V.strip] using h
 | .eptr d l n i j, u, h => by simpa [V.strip] using h
theorem LR.strip' {D : Nat} {w : World} {γ : G} : ∀ (vs : List V) (us : List Value), LR D w γ vs us → LR D w γ (V.stripAll vs) us
 | [], us, h => by simpa [V.stripAll] using h
 | v :: r, us, h => by
   obtain ⟨u, us', rfl, h1, h2⟩ := h.inv
   exact LR.cons (VR.strip' v u h1) (LR.strip' r us' h2)
end
theorem pureAll_mem {vs : List V} (h : V.pureAll vs = true) : ∀ v ∈ vs, v.pure = true := by
 induction vs with
 | nil => simp
 | cons x r ih => simp [V.pureAll] at h; intro v hv; cases hv with
   | head => exact h.1
   | tail _ hv => exact ih h.2 v hv
theorem VR.pure' {D : Nat} {w : World} {γ : G} {v : V} {u : Value} (h : VR D w γ v u) (D' : Nat) : v.pure = true → VR D' w γ v u := by
 induction h with
 | undef u => exact fun _ => .undef u
 | skip => exact fun _ => .skip
 | int k n => exact fun _ => .int k n
 | bool b => exact fun _ => .bool b
 | anyb b => exact fun _ => .anyb b
 | csl p n cap a hle _ ih => exact fun hp => by simp [V.pure] at hp
 | agg cs us hl _ ih => exact fun hp => .agg cs us hl fun i v u hv hu => ih i v u hv hu (pureAll_mem (by simpa [V.pure] using hp) v (List.mem_of_getElem? hv))
 | tup cs us hl _ ih => exact fun hp => .tup cs us hl fun i v u hv hu => ih i v u hv hu (pureAll_mem (by simpa [V.pure] using hp) v (List.mem_of_getElem? hv))
 | nilp => exact fun _ => .nilp
 | ptr d l off b hd hb => exact fun hp => by simp [V.pure] at hp
 | ep cs b off _ hc hno _ ih => exact fun hp => by simp [V.pure] at hp
 | slnil c sz hcap => exact fun hp => by simp [V.pure] at hp; subst hp; exact .slnil _ _ trivial
 | sl0 c sz a cap hcap => exact fun hp => by simp [V.pure] at hp; subst hp; exact .sl0 _ _ a cap trivial
 | sl c sz es b off cap hsz hp hle hcap hc hno _ ih =>
   intro hpu
   simp [V.pure] at hpu; subst hpu
   exact .sl _ sz es b off cap hsz hp hle trivial hc hno fun i cs j v u h1 h2 hu => ih i cs j v u h1 h2 hu (elemAll_mem (hp cs (List.mem_of_getElem? h1)) v (List.mem_of_getElem? h2)).1
 | fn f first cap us ws h1 h2 _ _ i1 i2 =>
   intro hp
   simp [V.pure] at hp
   exact .fn f first cap us ws h1 h2 (fun i v u hv hu => i1 i v u hv hu (pureAll_mem hp.1 v (List.mem_of_getElem? hv))) (fun i v u hv hu => i2 i v u hv hu (pureAll_mem hp.2 v (List.mem_of_getElem? hv)))
 | nilf => exact fun _ => .nilf
 | yld d l b hd hb => exact fun hp => by simp [V.pure] at hp
 | asl d l sz n off len b k hd hb hle hk => exact fun hp => by simp [V.pure] at hp
 | aslnil d l sz base hd hb => exact fun hp => by simp [V.pure] at hp
 | aslold d l sz n off len N blk base ln cp hd hb hn => exact fun hp => by simp [V.pure] at hp
 | eptr d l n i j b sz k hd hb => exact fun hp => by simp [V.pure] at hp
 | eptrold d l n i j N blk p hd hb hn => exact fun hp => by simp [V.pure] at hp
 | aslh d l sz n off len lo N f hd hb hn hle hk => exact fun hp => by simp [V.pure] at hp
 | eptrh d l n i j sz lo N f hd hb hn => exact fun hp => by simp [V.pure] at hp
 | aslho d l sz n off len lo N sz' f base ln cp hd hb hn => exact fun hp => by simp [V.pure] at hp
 | eptrho d l n i j lo N sz' f p hd hb hn => exact fun hp => by simp [V.pure] at hp
mutual
theorem VR.down' {D d : Nat} {w : World} {γ : G} : ∀ (v v' : V) (u : Value), VR D w γ v u → v.down d = some v' → VR (d + 1) w γ v' u
 | .agg cs, v', u, h, hd => by
   obtain ⟨us, rfl, hl⟩ := h.agg_inv
   simp only [V.down] at hd
   obtain ⟨l, h1, rfl⟩ := Option.map_eq_some_iff.1 hd
   simpa using VR.agg_mk (LR.down' cs l us.toList hl h1)
 | .tup cs, v', u, h, hd => by
   obtain ⟨us, rfl, hl⟩ := h.tup_inv
   simp only [V.down] at hd
   obtain ⟨l, h1, rfl⟩ := Option.map_eq_some_iff.1 hd
   simpa using VR.tup_mk (LR.down' cs l us.toList hl h1)
 | .sl c z es, v', u, h, hd => by
   simp only [V.down, Option.some.injEq] at hd
   subst hd
   have cap : ∀ {sz base len k}, capOk D γ c sz base len k → capOk (d + 1) γ (c.down d) sz base len k := by
    intro sz base len k hc
    cases c with
    | no => trivial
    | full => exact hc
    | own d' l =>
      simp only [Cap.down]
      split
      ·trivial
      ·obtain ⟨_, r⟩ := hc; exact ⟨by omega, r⟩
   cases h with
   | slnil _ _ hc => exact .slnil _ _ (cap hc)
   | sl0 _ _ a k hc => exact .sl0 _ _ a k (cap hc)
   | sl _ _ _ b off k hsz hp hle hcap hc hno h =>
     refine .sl _ _ _ b off k hsz hp hle (cap hcap) hc hno (fun i cs j v u h1 h2 hu => ?_)
     have hel := elemAll_mem (hp cs (List.mem_of_getElem? h1)) v (List.mem_of_getElem? h2)
     exact (h i cs j v u h1 h2 hu).pure' _ hel.1
 | .fn f as bs, v', u, h, hd => by
   simp only [V.down] at hd
   split at hd
   ·rename_i p q h1 h2
    cases hd
    cases h with
    | fn _ _ _ us ws l1 l2 k1 k2 =>
      have e1 := LR.down' as p us.toList ⟨by simpa using l1, fun i v u hv hu => k1 i v u hv (by simpa using hu)⟩ h1
      have e2 := LR.down' bs q ws.toList ⟨by simpa using l2, fun i v u hv hu => k2 i v u hv (by simpa using hu)⟩ h2
      simpa using VR.fn_mk (f := f) e1 e2
   ·cases hd
 | .undef, v', u, h, hd => by simp [V.down] at hd; subst hd; exact .undef u
 | .skip, v', u, h, hd => by simp [V.down] at hd; subst hd; cases h; exact .skip
 | .int k n, v', u, h, hd => by simp [V.down] at hd; subst hd; cases h; exact .int k n
 | .bool b, v', u, h, hd => by simp [V.down] at hd; subst hd; cases h; exact .bool b
 | .anyb, v', u, h, hd => by simp [V.down] at hd; subst hd; cases h; exact .anyb _
 | .csl p n, v', u, h, hd => by
   simp only [V.down] at hd
   obtain ⟨q, h1, rfl⟩ := Option.map_eq_some_iff.1 hd
   cases h with
   | csl _ _ cap a hle h => exact .csl q n cap a hle (VR.down' p q _ h h1)
 | .nilp, v', u, h, hd => by simp [V.down] at hd; subst hd; cases h; exact .nilp
 | .ptr d' l o, v', u, h, hd => by
   simp only [V.down] at hd
   split at hd
   ·cases hd
   ·cases hd
    cases h with
    | ptr _ _ _ b _ hb => exact .ptr _ _ _ b (by omega) hb
 | .ep cs, v', u, h, hd => by simp [V.down] at hd
 | .nilf, v', u, h, hd => by simp [V.down] at hd; subst hd; cases h; exact .nilf
 | .yld d' l, v', u, h, hd => by
   simp only [V.down] at hd
   split at hd
   ·cases hd
   ·cases hd
    cases h with
    | yld _ _ b _ hb => exact .yld _ _ b (by omega) hb
 | .asl d' l z n o k, v', u, h, hd => by
   simp only [V.down] at hd
   split at hd
   ·cases hd
   ·cases hd
    cases h with
    | asl _ _ _ _ _ _ b k _ hb hle hk => exact .asl _ _ _ _ _ _ b k (by omega) hb hle hk
    | aslnil _ _ _ base _ hb => exact .aslnil _ _ _ base (by omega) hb
    | aslold _ _ _ _ _ _ N blk base ln cp _ hb hn2 => exact .aslold _ _ _ _ _ _ N blk base ln cp (by omega) hb hn2
    | aslh _ _ _ _ _ _ lo N f _ hb hn2 hle hk => exact .aslh _ _ _ _ _ _ lo N f (by omega) hb hn2 hle hk
    | aslho _ _ _ _ _ _ lo N sz' f base ln cp _ hb hn2 => exact .aslho _ _ _ _ _ _ lo N sz' f base ln cp (by omega) hb hn2
 | .eptr d' l n i j, v', u, h, hd => by
   simp only [V.down] at hd
   split at hd
   ·cases hd
   ·cases hd
    cases h with
    | eptr _ _ _ _ _ b sz k _ hb => exact .eptr _ _ _ _ _ b sz k (by omega) hb
    | eptrold _ _ _ _ _ N blk p _ hb hn2 => exact .eptrold _ _ _ _ _ N blk p (by omega) hb hn2
    | eptrh _ _ _ _ _ sz lo N f _ hb hn2 => exact .eptrh _ _ _ _ _ sz lo N f (by omega) hb hn2
    | eptrho _ _ _ _ _ lo N sz' f p _ hb hn2 => exact .eptrho _ _ _ _ _ lo N sz' f p (by omega) hb hn2
theorem LR.down' {D d : Nat} {w : World} {γ : G} : ∀ (vs vs' : List V) (us : List Value), LR D w γ vs us → V.downAll d vs = some vs' → LR (d + 1) w γ vs' us
 | [], vs', us, h, hd => by simp [V.downAll] at hd; subst hd; exact ⟨h.1, fun i v u hv => by simp at hv⟩
 | v :: r, vs', us, h, hd => by
   obtain ⟨u, us', rfl, h1, h2⟩ := h.inv
   simp only [V.downAll] at hd
   split at hd
   ·rename_i a b h3 h4
    cases hd
    exact LR.cons (VR.down' v a u h1 h3) (LR.down' r b us' h2 h4)
   ·cases hd
end
end
end Go.Ab
