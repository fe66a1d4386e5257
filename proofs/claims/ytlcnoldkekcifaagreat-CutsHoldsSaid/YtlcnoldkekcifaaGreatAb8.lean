/-
  Regions that draw their order, the quick way: operations that turn nothing (and one at the end that waits for all) may be run in the order of the text.
-/
import Derived.Test.YtlcnoldkekcifaaGreatAb7
import Derived.Test.YtlcnoldkekcifaaGreatAb6
import Derived.SizedLaws
set_option linter.unusedSimpArgs false
set_option linter.unusedVariables false
namespace Go.Ab
section
variable {T : Tab}
def opds : AOp → List Opd
 | .mv x => [x]
 | .pick c a b => [c, a, b]
 | .box x => [x]
 | .alloc _ => []
 | .build _ ps => ps.map (·.2.2)
 | .lit _ _ ps => ps.map (·.2)
 | .load _ a => [a]
 | .store _ a v => [a, v]
 | .nilck x => [x]
 | .bin _ x y => [x, y]
 | .un _ x => [x]
 | .conv _ x => [x]
 | .mkfn _ f c => f ++ c
 | .slice _ x lo hi mx => x :: (lo.toList ++ hi.toList ++ mx.toList)
 | .faddr _ x => [x]
 | .field _ _ x => [x]
 | .idxs _ x i => [x, i]
 | .idxa _ _ x i => [x, i]
 | .idxv _ _ _ x i => [x, i]
 | .ext x _ => [x]
 | .len x => [x]
 | .app _ _ x y => [x, y]
 | .eqa _ _ x y => [x, y]
 | .eqb _ x y => [x, y]
 | .mm _ x y => [x, y]
 | .mm3 _ x y z => [x, y, z]
 | .call _ as => as
 | .callv x as => x :: as
 | .mksl _ _ l c => [l, c]
 | .appm _ _ x y => [x, y]
 | .isnil _ x => [x]
 | .clear _ x => [x]
 | .slarr _ x hi => x :: hi.toList
 | .mkslD _ _ l c => [l, c]
 | .litm _ _ ps => ps.map (·.2)
 | .strix _ i => [i]
 | .fail => []
theorem opdAll_env {e e' : Env} : ∀ {l : List Opd}, (∀ x ∈ l, x.ev e = x.ev e') → opdAll e l = opdAll e' l
 | [], _ => rfl
 | x :: r, h => by simp only [opdAll, h x (by simp), opdAll_env (l := r) fun y hy => h y (by simp [hy])]
theorem fillAll_env {e e' : Env} : ∀ {l : List (Nat × Nat × Opd)} {cs}, (∀ x ∈ l.map (·.2.2), x.ev e = x.ev e') → fillAll e l cs = fillAll e' l cs
 | [], _, _ => rfl
 | (a, b, x) :: r, cs, h => by
   have h1 := h x (by simp)
   simp only [fillAll, h1]
   split
   ·exact fillAll_env fun y hy => h y (by simp only [List.map_cons, List.mem_cons]; exact .inr hy)
   ·rfl
theorem litAll_env {e e' : Env} {size : Nat} : ∀ {l : List (Nat × Opd)} {cs}, (∀ x ∈ l.map (·.2), x.ev e = x.ev e') → litAll e size l cs = litAll e' size l cs
 | [], _, _ => rfl
 | (a, x) :: r, cs, h => by
   have h1 := h x (by simp)
   simp only [litAll, h1]
   split
   ·exact litAll_env fun y hy => h y (by simp only [List.map_cons, List.mem_cons]; exact .inr hy)
   ·rfl
theorem litAllM_env {e e' : Env} {size : Nat} : ∀ {l : List (Nat × Opd)} {cs}, (∀ x ∈ l.map (·.2), x.ev e = x.ev e') → litAllM e size l cs = litAllM e' size l cs
 | [], _, _ => rfl
 | (a, x) :: r, cs, h => by
   have h1 := h x (by simp)
   simp only [litAllM, h1]
   split
   ·exact litAllM_env fun y hy => h y (by simp only [List.map_cons, List.mem_cons]; exact .inr hy)
   ·rfl
theorem aop_env {op : AOp} {lab : Nat} {e e' : Env} {s : Stk} (h : ∀ x ∈ opds op, x.ev e = x.ev e') : aop op lab e s = aop op lab e' s := by
 cases op
 case build z ps => simp only [aop, fillAll_env h]
 case lit z n ps => simp only [aop, litAll_env h]
 case litm z n ps => simp only [aop, litAllM_env h]
 case mkfn f a b =>
  simp only [opds, List.mem_append] at h
  simp only [aop, opdAll_env fun x hx => h x (.inl hx), opdAll_env fun x hx => h x (.inr hx)]
 case slice z x lo hi mx =>
  have hx := h x (by simp [opds])
  have h1 : lo.map (Opd.ev e) = lo.map (Opd.ev e') := by
   cases lo with
   | none => rfl
   | some y => simp only [Option.map_some, h y (by simp [opds])]
  have h2 : hi.map (Opd.ev e) = hi.map (Opd.ev e') := by
   cases hi with
   | none => rfl
   | some y => simp only [Option.map_some, h y (by simp [opds])]
  have h3 : mx.map (Opd.ev e) = mx.map (Opd.ev e') := by
   cases mx with
   | none => rfl
   | some y => simp only [Option.map_some, h y (by simp [opds])]
  simp only [aop, hx, h1, h2, h3]
 case slarr n x hi =>
  have hx := h x (by simp [opds])
  have h2 : hi.map (Opd.ev e) = hi.map (Opd.ev e') := by
   cases hi with
   | none => rfl
   | some y => simp only [Option.map_some, h y (by simp [opds])]
  simp only [aop, hx, h2]
 all_goals (try (simp only [opds, List.mem_cons, List.not_mem_nil, or_false, forall_eq_or_imp, forall_eq] at h))
 all_goals (simp only [aop])
 all_goals (simp only [h])
theorem op1_env {o : AOper} {e e' : Env} {s : Stk} (h : ∀ x ∈ opds o.op, x.ev e = x.ev e') : op1 T (Run T) o e s = op1 T (Run T) o e' s := by
 obtain ⟨dst, op, g, pre, hide⟩ := o
 cases op
 case call f as => simp only [op1, AOp.callOf, opdAll_env (l := as) h]
 case callv x as => simp only [op1, AOp.callOf, h x (by simp [opds]), opdAll_env (l := as) fun y hy => h y (by simp [opds, hy])]
 all_goals (simp only [op1, AOp.callOf]; rw [aop_env h])
theorem dop_env {o : AOper} {e e' : Env} {vis : Loc} {rest : Stk} (h : ∀ x ∈ opds o.op, x.ev e = x.ev e') : dop T (Run T) o e vis rest = dop T (Run T) o e' vis rest := by
 obtain ⟨dst, op, g, pre, hide⟩ := o
 have h1 := op1_env (T := T) (o := ⟨dst, op, g, pre, hide⟩) (s := vis :: rest) h
 have h2 := aop_env (lab := 16 * dst.getD 0) (s := vis :: rest) h
 cases op <;> simp only [dop, AOp.callOf] <;> first | rw [h1] | rw [h2]
def slot : Opd → Option Nat
 | .t n => some n
 | .c _ => none
def slots (o : AOper) : List Nat := (opds o.op).filterMap slot ++ (match o.guard with | some (g, _) => [g] | none => [])
def slotOk (pre : List Nat) (t : Nat) : Nat → List (Option Nat) → Bool
 | _, [] => true
 | j, d :: ds => (!(d == some t) || pre.contains j) && slotOk pre t (j + 1) ds
def apartOk (dst : Option Nat) (pre : List Nat) : Nat → List (Option Nat) → Bool
 | _, [] => true
 | j, d :: ds => (pre.contains j || dst.all fun t => !(d == some t)) && apartOk dst pre (j + 1) ds
def quietOp (op : AOp) : Bool := pureOp op || (match op with | .call _ _ => true | .callv _ _ => true | _ => false)
def qOk : List AOper → Nat → List (Option Nat) → Bool
 | [], _, _ => true
 | o :: os, i, ds => (o.hide.isEmpty && (slots o).all (fun t => slotOk o.pre t 0 ds && !hidden i t os)) && apartOk o.dst o.pre 0 ds &&
   ((quietOp o.op && o.dst.isSome) || (os.isEmpty && (List.range i).all o.pre.contains)) && qOk os (i + 1) (ds ++ [o.dst])
def lastV (t : Nat) : List Did → V → V
 | [], v => v
 | r :: rs, v => lastV t rs (if r.dst = some t then r.v else v)
theorem getDid_last {pre : List Nat} {t : Nat} : ∀ {rs : List Did} {j : Nat} {v : V}, slotOk pre t j (rs.map (·.dst)) = true → getDid pre t j rs v = lastV t rs v
 | [], _, _, _ => rfl
 | r :: rs, j, v, h => by
   simp only [List.map_cons, slotOk, Bool.and_eq_true, Bool.or_eq_true, Bool.not_eq_true', beq_eq_false_iff_ne] at h
   simp only [getDid, lastV]
   rw [getDid_last h.2]
   congr 1
   by_cases hd : r.dst = some t
   ·have := h.1.resolve_left (fun h => h hd)
    rw [if_pos hd, if_pos hd, this]; rfl
   ·rw [if_neg hd, if_neg hd]
def fullEnv (rs : List Did) (e : Env) : Env := rs.foldl (fun e r => setDst r.dst r.v e) e
theorem get_full (t : Nat) : ∀ (rs : List Did) (e : Env), Env.get (fullEnv rs e) t = lastV t rs (Env.get e t)
 | [], _ => rfl
 | r :: rs, e => by
   have := get_full t rs (setDst r.dst r.v e)
   rw [get_setDst] at this
   exact this
theorem dEnv_full {pre : List Nat} : ∀ {rs : List Did} {j : Nat} {e : Env}, (∀ i, j ≤ i → i < j + rs.length → i ∈ pre) → dEnv pre j rs e = fullEnv rs e
 | [], _, _, _ => rfl
 | r :: rs, j, e, h => by
   have h1 : pre.contains j = true := by simpa using h j (by omega) (by simp)
   simp only [dEnv, h1, if_true]
   rw [dEnv_full (fun i h2 h3 => h i (by omega) (by simp; omega))]
   rfl
theorem dLoc_quiet {pre : List Nat} {loc : Loc} : ∀ {rs : List Did} {j : Nat}, (∀ r ∈ rs, r.patch = []) → dLoc pre j rs loc = loc
 | [], _, _ => rfl
 | r :: rs, j, h => by
   simp only [dLoc, h r (by simp), patchAll, ite_self]
   exact dLoc_quiet fun r' h' => h r' (by simp [h'])
theorem dHid_quiet {pre : List Nat} : ∀ {rs : List Did} {j : Nat}, (∀ r ∈ rs, r.patch = []) → dHid pre j rs = []
 | [], _, _ => rfl
 | r :: rs, j, h => by
   simp only [dHid, h r (by simp), List.map_nil, ite_self, List.nil_append]
   exact dHid_quiet fun r' h' => h r' (by simp [h'])
theorem apart_quiet {dst : Option Nat} {pre : List Nat} : ∀ {rs : List Did} {j : Nat}, apartOk dst pre j (rs.map (·.dst)) = true → dApart dst [] pre j rs = true
 | [], _, _ => rfl
 | r :: rs, j, h => by
   simp only [List.map_cons, apartOk, Bool.and_eq_true] at h
   simp only [dApart, List.all_nil, Bool.and_true, Bool.and_eq_true]
   exact ⟨h.1, apart_quiet h.2⟩
theorem apart_all {dst : Option Nat} {pre : List Nat} {patch : Loc} : ∀ {rs : List Did} {j : Nat}, (∀ i, j ≤ i → i < j + rs.length → pre.contains i = true) → dApart dst patch pre j rs = true
 | [], _, _ => rfl
 | r :: rs, j, h => by
   simp only [dApart, h j (by omega) (by simp), Bool.true_or, Bool.true_and]
   exact apart_all fun i h1 h2 => h i (by omega) (by simp; omega)
open Classical in
noncomputable def runQ (T : Tab) (loc : Loc) (rest : Stk) : List AOper → Env → Option (Env × Stk)
 | [], e => some (e, loc :: rest)
 | o :: os, e =>
   if quietOp o.op = true ∧ o.dst.isSome = true then
    match o.guard with
    | none => match op1 T (Run T) o e (loc :: rest) with
      | some (v, s') => if s' = loc :: rest ∧ V.map (dropR rest.length (loc.map (·.1))) v = v then runQ T loc rest os (setDst o.dst v e) else none
      | none => none
    | some (g, want) => match e.get g with
      | .bool b => if b = want then (match op1 T (Run T) o e (loc :: rest) with
        | some (v, s') => if s' = loc :: rest ∧ V.map (dropR rest.length (loc.map (·.1))) v = v then runQ T loc rest os (setDst o.dst v e) else none
        | none => none) else runQ T loc rest os (setDst o.dst .skip e)
      | .skip => runQ T loc rest os (setDst o.dst .skip e)
      | _ => none
   else match gop T (Run T) o e loc rest with
    | some (v, patch) => if patch.all (fun x => (loc.map (·.1)).contains x.1 || (loc.get x.1).isNone) = true then some (setDst o.dst v e, patchAll patch loc :: rest) else none
    | none => none
theorem map_get {r : Ren} {e : Env} (h : Env.ren r e = e) (t : Nat) : V.map r (e.get t) = e.get t := by rw [← get_ren, h]
theorem runDrawn_quick {loc : Loc} {rest : Stk} {e0 : Env} (hl : Loc.ren (dropR rest.length (loc.map (·.1))) loc = loc) (hd : distinct (loc.map (·.1)) = true) :
 ∀ (os : List AOper) (i : Nat) (rs : List Did) (e' : Env) (s' : Stk), i = rs.length → (∀ r ∈ rs, r.patch = []) → (∀ t, V.map (dropR rest.length (loc.map (·.1))) (Env.get (fullEnv rs e0) t) = Env.get (fullEnv rs e0) t) →
  qOk os i (rs.map (·.dst)) = true → runQ T loc rest os (fullEnv rs e0) = some (e', s') →
  ∃ rs', runDrawn T (Run T) loc rest e0 os i rs = some rs' ∧ e' = fullEnv rs' e0 ∧ s' = dLoc (List.range rs'.length) 0 rs' loc :: rest := by
 intro os
 induction os with
 | nil =>
   intro i rs e' s' hi hp hc hq h
   simp only [runQ, Option.some.injEq, Prod.mk.injEq] at h
   exact ⟨rs, rfl, h.1.symm, by rw [dLoc_quiet hp, h.2]⟩
 | cons o os ih =>
   intro i rs e' s' hi hp hc hq h
   simp only [qOk, Bool.and_eq_true, List.all_eq_true, Bool.not_eq_true', List.isEmpty_iff] at hq
   obtain ⟨⟨⟨⟨hh, hs⟩, ha⟩, hk⟩, hrest⟩ := hq
   have hvis : dVis o rs loc = loc := by simp [dVis, dLoc_quiet hp, dHid_quiet hp, hh]
   have hsee : dSee o rs loc = loc.map (·.1) := by rw [dSee, hvis]
   have hget : ∀ t ∈ slots o, Env.get (dSeen o os i rest.length rs loc e0) t = Env.get (fullEnv rs e0) t := by
    intro t ht
    obtain ⟨h1, h2⟩ := hs t ht
    rw [get_dSeen, h2, hsee, getDid_last h1, ← get_full]
    simpa using hc t
   have hev : ∀ x ∈ opds o.op, x.ev (dSeen o os i rest.length rs loc e0) = x.ev (fullEnv rs e0) := by
    intro x hx
    cases x with
    | c v => rfl
    | t n => exact hget n (by simp only [slots, List.mem_append, List.mem_filterMap]; exact .inl ⟨_, hx, rfl⟩)
   have hgd : ∀ g want, o.guard = some (g, want) → Env.get (dSeen o os i rest.length rs loc e0) g = Env.get (fullEnv rs e0) g := by
    intro g want hg
    exact hget g (by simp [slots, hg])
   have hgop : gop T (Run T) o (dSeen o os i rest.length rs loc e0) loc rest = gop T (Run T) o (fullEnv rs e0) loc rest := by
    simp only [gop]
    cases hg : o.guard with
    | none => exact dop_env hev
    | some q => obtain ⟨g, want⟩ := q; simp only [hgd g want hg, dop_env hev]
   have step : ∀ v patch, gop T (Run T) o (fullEnv rs e0) loc rest = some (v, patch) → (patch.all (fun x => (loc.map (·.1)).contains x.1 || (loc.get x.1).isNone) && dApart o.dst patch o.pre 0 rs) = true →
    runDrawn T (Run T) loc rest e0 (o :: os) i rs = runDrawn T (Run T) loc rest e0 os (i + 1) (rs ++ [⟨o.dst, v, patch, loc.map (·.1)⟩]) := by
    intro v patch hv hpa
    rw [runDrawn, hsee, hvis, if_pos hl, hgop, hv]
    simp only [dLoc_quiet hp]
    rw [if_pos hpa]
   have full1 : ∀ v patch, fullEnv (rs ++ [⟨o.dst, v, patch, loc.map (·.1)⟩]) e0 = setDst o.dst v (fullEnv rs e0) := by
    intro v patch; simp [fullEnv]
   by_cases hqt : quietOp o.op = true ∧ o.dst.isSome = true
   · -- what a quiet operation does
    obtain ⟨d, hdst⟩ := Option.isSome_iff_exists.1 hqt.2
    have quiet : ∀ v, op1 T (Run T) o (fullEnv rs e0) (loc :: rest) = some (v, loc :: rest) → dop T (Run T) o (fullEnv rs e0) loc rest = some (v, []) := by
     intro v hv
     obtain ⟨dst, op, g, pre, hide⟩ := o
     simp only at hdst
     subst hdst
     cases hpo : pureOp op with
     | true => rw [dop_pure _ _ _ _ _ _ _ _ hpo, hv]; rfl
     | false =>
       cases op <;> simp [quietOp, pureOp] at hqt hpo
       ·rw [dop_call]
        rw [op1_call] at hv
        rw [hv]; simp [hd]
       ·rw [dop_callv]
        rw [op1_callv] at hv
        rw [hv]; simp [hd]
    have go : ∀ v, gop T (Run T) o (fullEnv rs e0) loc rest = some (v, []) → V.map (dropR rest.length (loc.map (·.1))) v = v → runQ T loc rest os (setDst o.dst v (fullEnv rs e0)) = some (e', s') →
     ∃ rs', runDrawn T (Run T) loc rest e0 (o :: os) i rs = some rs' ∧ e' = fullEnv rs' e0 ∧ s' = dLoc (List.range rs'.length) 0 rs' loc :: rest := by
     intro v hv hm hr
     rw [step v [] hv (by simp [apart_quiet ha])]
     refine ih (i + 1) _ e' s' (by simp [hi]) ?_ ?_ ?_ ?_
     ·intro r hr'
      simp only [List.mem_append, List.mem_singleton] at hr'
      rcases hr' with h1 | rfl
      ·exact hp r h1
      ·rfl
     ·intro t
      rw [full1, get_setDst]
      split
      ·exact hm
      ·exact hc t
     ·simpa using hrest
     ·rw [full1]; exact hr
    rw [runQ, if_pos hqt] at h
    cases hg : o.guard with
    | none =>
      rw [hg] at h
      dsimp only at h
      cases ho : op1 T (Run T) o (fullEnv rs e0) (loc :: rest) with
      | none => rw [ho] at h; cases h
      | some q =>
        obtain ⟨v, s1⟩ := q
        rw [ho] at h
        dsimp only at h
        split at h
        ·rename_i hx
         obtain ⟨rfl, hm⟩ := hx
         exact go v (by simp only [gop, hg]; exact quiet v ho) hm h
        ·cases h
    | some q =>
      obtain ⟨g, want⟩ := q
      rw [hg] at h
      dsimp only at h
      cases hb : Env.get (fullEnv rs e0) g with
      | bool b =>
        rw [hb] at h
        dsimp only at h
        by_cases hbw : b = want
        ·rw [if_pos hbw] at h
         cases ho : op1 T (Run T) o (fullEnv rs e0) (loc :: rest) with
         | none => rw [ho] at h; cases h
         | some q =>
           obtain ⟨v, s1⟩ := q
           rw [ho] at h
           dsimp only at h
           split at h
           ·rename_i hx
            obtain ⟨rfl, hm⟩ := hx
            exact go v (by simp only [gop, hg, hb, hbw, if_true]; exact quiet v ho) hm h
           ·cases h
        ·rw [if_neg hbw] at h
         exact go .skip (by simp only [gop, hg, hb, hbw, if_false]) (by simp) h
      | skip =>
        rw [hb] at h
        exact go .skip (by simp only [gop, hg, hb]) (by simp) h
      | _ => rw [hb] at h; cases h
   · -- the last one, that waits for all
    simp only [Bool.or_eq_true, Bool.and_eq_true, List.isEmpty_iff, List.all_eq_true] at hk
    have hk' : os = [] ∧ ∀ x ∈ List.range i, o.pre.contains x = true := hk.resolve_left hqt
    obtain ⟨rfl, hall⟩ := hk'
    rw [runQ, if_neg hqt] at h
    cases hv : gop T (Run T) o (fullEnv rs e0) loc rest with
    | none => rw [hv] at h; cases h
    | some q =>
      obtain ⟨v, patch⟩ := q
      rw [hv] at h
      dsimp only at h
      split at h
      ·rename_i hpa
       simp only [Option.some.injEq, Prod.mk.injEq] at h
       obtain ⟨h1, h2⟩ := h
       refine ⟨rs ++ [⟨o.dst, v, patch, loc.map (·.1)⟩], ?_, ?_, ?_⟩
       ·rw [step v patch hv (by rw [hpa, apart_all (fun i' _ h3 => hall i' (by simp; omega))]; rfl)]
        rfl
       ·rw [full1, h1]
       ·rw [← h2]
        congr 1
        have : ∀ (rs : List Did) (j : Nat) (pre : List Nat) (r : Did), (∀ r ∈ rs, r.patch = []) → pre.contains (j + rs.length) = true → dLoc pre j (rs ++ [r]) loc = patchAll r.patch loc := by
         intro rs
         induction rs with
         | nil => intro j pre r _ h; simp only [List.nil_append, dLoc]; simp at h; simp [h]
         | cons r0 rs ih =>
           intro j pre r h1 h2
           simp only [List.cons_append, dLoc, h1 r0 (by simp), patchAll, ite_self]
           exact ih (j + 1) pre r (fun r' h' => h1 r' (by simp [h'])) (by rw [← h2]; congr 1; simp; omega)
        rw [this rs 0 _ _ hp (by simp)]
      ·cases h
noncomputable def slowDrawn (T : Tab) (ops : List AOper) (live : List Nat) (e : Env) (s : Stk) : Res := Run T (.region true ops live) e s
noncomputable def orSlow (T : Tab) (ops : List AOper) (live : List Nat) (e : Env) (s : Stk) : Option (Env × Stk) → Res
 | some (e', s') => some (.normal, Env.only live e', s')
 | none => slowDrawn T ops live e s
@[simp] theorem orSlow_some (ops live e s e' s') : orSlow T ops live e s (some (e', s')) = some (.normal, Env.only live e', s') := rfl
@[simp] theorem orSlow_ite (ops live e s) (p : Prop) [Decidable p] (x y) : orSlow T ops live e s (if p then x else y) = if p then orSlow T ops live e s x else orSlow T ops live e s y := by split <;> rfl
noncomputable def qTail (T : Tab) (B : List AOper) : Option (Env × Stk) → Option (Env × Stk)
 | some (e, s) => runOps T (Run T) B e s
 | none => none
@[simp] theorem qTail_some (B e s) : qTail T B (some (e, s)) = runOps T (Run T) B e s := rfl
@[simp] theorem qTail_none (B) : qTail T B none = none := rfl
@[simp] theorem qTail_ite (B) (p : Prop) [Decidable p] (x y) : qTail T B (if p then x else y) = if p then qTail T B x else qTail T B y := by split <;> rfl
theorem run_quick (A B live e loc) (rest : Stk) (hc : splOk A B = true) (hq : qOk A 0 [] = true) (hl : Loc.ren (dropR rest.length (loc.map (·.1))) loc = loc) (hd : distinct (loc.map (·.1)) = true) (he : Env.ren (dropR rest.length (loc.map (·.1))) e = e) :
 Run T (.region true (spl A B) live) e (loc :: rest) = orSlow T (spl A B) live e (loc :: rest) (qTail T B (runQ T loc rest A e)) := by
 cases h : runQ T loc rest A e with
 | none => rfl
 | some q =>
   obtain ⟨e', s'⟩ := q
   obtain ⟨rs', h1, h2, h3⟩ := runDrawn_quick (e0 := e) hl hd A 0 [] e' s' rfl (by simp) (fun t => map_get he t) (by simpa using hq) h
   rw [qTail_some, run_drawnK _ _ _ _ _ _ hc, h1]
   simp only [drawnK_some, ← h3]
   rw [dEnv_full (by intro i _ h; simpa using h), ← h2]
   cases hB : runOps T (Run T) B e' s' with
   | none =>
     simp only [onlyK_none, orSlow, slowDrawn]
     rw [run_drawnK _ _ _ _ _ _ hc, h1]
     simp only [drawnK_some, ← h3]
     rw [dEnv_full (by intro i _ h; simpa using h), ← h2, hB]
     rfl
   | some q => obtain ⟨e2, s2⟩ := q; rfl
open Classical in
noncomputable def qThen (T : Tab) (loc : Loc) (rest : Stk) (os : List AOper) (dst : Option Nat) (e : Env) : Option (V × Stk) → Option (Env × Stk)
 | some (v, s') => if s' = loc :: rest ∧ V.map (dropR rest.length (loc.map (·.1))) v = v then runQ T loc rest os (setDst dst v e) else none
 | none => none
open Classical in
@[simp] theorem qThen_some (loc rest os dst e v s') : qThen T loc rest os dst e (some (v, s')) = if s' = loc :: rest ∧ V.map (dropR rest.length (loc.map (·.1))) v = v then runQ T loc rest os (setDst dst v e) else none := rfl
@[simp] theorem qThen_none (loc rest os dst e) : qThen T loc rest os dst e none = none := rfl
@[simp] theorem qThen_ite (loc rest os dst e) (p : Prop) [Decidable p] (x y) : qThen T loc rest os dst e (if p then x else y) = if p then qThen T loc rest os dst e x else qThen T loc rest os dst e y := by split <;> rfl
noncomputable def qGuard (T : Tab) (g : V) (want : Bool) (loc : Loc) (rest : Stk) (os : List AOper) (o : AOper) (e : Env) : Option (Env × Stk) := match g with
 | .bool b => if b = want then qThen T loc rest os o.dst e (op1 T (Run T) o e (loc :: rest)) else runQ T loc rest os (setDst o.dst .skip e)
 | .skip => runQ T loc rest os (setDst o.dst .skip e)
 | _ => none
@[congr] theorem qGuard_congr {g g' : V} (h : g = g') (want loc rest os o e) : qGuard T g want loc rest os o e = qGuard T g' want loc rest os o e := by rw [h]
@[simp] theorem qGuard_bool (b want loc rest os dst op gu pre hide e) : qGuard T (.bool b) want loc rest os ⟨dst, op, gu, pre, hide⟩ e = if b = want then qThen T loc rest os dst e (op1 T (Run T) ⟨dst, op, gu, pre, hide⟩ e (loc :: rest)) else runQ T loc rest os (setDst dst .skip e) := rfl
@[simp] theorem qGuard_skip (want loc rest os dst op gu pre hide e) : qGuard T .skip want loc rest os ⟨dst, op, gu, pre, hide⟩ e = runQ T loc rest os (setDst dst .skip e) := rfl
theorem runQ_none {op : AOp} (h : quietOp op = true) (d pre hide os e loc rest) : runQ T loc rest (⟨some d, op, none, pre, hide⟩ :: os) e = qThen T loc rest os (some d) e (op1 T (Run T) ⟨some d, op, none, pre, hide⟩ e (loc :: rest)) := by
 rw [runQ, if_pos ⟨h, rfl⟩]
 dsimp only
 cases op1 T (Run T) ⟨some d, op, none, pre, hide⟩ e (loc :: rest) <;> rfl
theorem runQ_guard {op : AOp} (h : quietOp op = true) (d g want pre hide os e loc rest) : runQ T loc rest (⟨some d, op, some (g, want), pre, hide⟩ :: os) e = qGuard T (e.get g) want loc rest os ⟨some d, op, some (g, want), pre, hide⟩ e := by
 rw [runQ, if_pos ⟨h, rfl⟩]
 dsimp only
 cases e.get g <;> rfl
@[simp] theorem runQ_nil (loc rest e) : runQ T loc rest [] e = some (e, loc :: rest) := rfl
def qLast (dst : Option Nat) (e : Env) (loc : Loc) (rest : Stk) : Option (V × Loc) → Option (Env × Stk)
 | some (v, patch) => if patch.all (fun x => (loc.map (·.1)).contains x.1 || (loc.get x.1).isNone) = true then some (setDst dst v e, patchAll patch loc :: rest) else none
 | none => none
@[simp] theorem qLast_some (dst e loc rest v patch) : qLast dst e loc rest (some (v, patch)) = if patch.all (fun x => (loc.map (·.1)).contains x.1 || (loc.get x.1).isNone) = true then some (setDst dst v e, patchAll patch loc :: rest) else none := rfl
@[simp] theorem qLast_none (dst e loc rest) : qLast dst e loc rest none = none := rfl
@[simp] theorem qLast_ite (dst e loc rest) (p : Prop) [Decidable p] (x y) : qLast dst e loc rest (if p then x else y) = if p then qLast dst e loc rest x else qLast dst e loc rest y := by split <;> rfl
@[simp] theorem runQ_store (n a v g pre hide os e loc rest) : runQ T loc rest (⟨none, .store n a v, g, pre, hide⟩ :: os) e = qLast none e loc rest (gop T (Run T) ⟨none, .store n a v, g, pre, hide⟩ e loc rest) := by
 rw [runQ, if_neg (by simp)]
 cases gop T (Run T) ⟨none, .store n a v, g, pre, hide⟩ e loc rest <;> rfl
@[simp] theorem rq_mv (x) (d pre hide os e loc rest) : runQ T loc rest (⟨some d, .mv x, none, pre, hide⟩ :: os) e = qThen T loc rest os (some d) e (op1 T (Run T) ⟨some d, .mv x, none, pre, hide⟩ e (loc :: rest)) := runQ_none rfl _ _ _ _ _ _ _
@[simp] theorem rqg_mv (x) (d gu want pre hide os e loc rest) : runQ T loc rest (⟨some d, .mv x, some (gu, want), pre, hide⟩ :: os) e = qGuard T (e.get gu) want loc rest os ⟨some d, .mv x, some (gu, want), pre, hide⟩ e := runQ_guard rfl _ _ _ _ _ _ _ _ _
@[simp] theorem rq_pick (c a b) (d pre hide os e loc rest) : runQ T loc rest (⟨some d, .pick c a b, none, pre, hide⟩ :: os) e = qThen T loc rest os (some d) e (op1 T (Run T) ⟨some d, .pick c a b, none, pre, hide⟩ e (loc :: rest)) := runQ_none rfl _ _ _ _ _ _ _
@[simp] theorem rqg_pick (c a b) (d gu want pre hide os e loc rest) : runQ T loc rest (⟨some d, .pick c a b, some (gu, want), pre, hide⟩ :: os) e = qGuard T (e.get gu) want loc rest os ⟨some d, .pick c a b, some (gu, want), pre, hide⟩ e := runQ_guard rfl _ _ _ _ _ _ _ _ _
@[simp] theorem rq_build (z ps) (d pre hide os e loc rest) : runQ T loc rest (⟨some d, .build z ps, none, pre, hide⟩ :: os) e = qThen T loc rest os (some d) e (op1 T (Run T) ⟨some d, .build z ps, none, pre, hide⟩ e (loc :: rest)) := runQ_none rfl _ _ _ _ _ _ _
@[simp] theorem rqg_build (z ps) (d gu want pre hide os e loc rest) : runQ T loc rest (⟨some d, .build z ps, some (gu, want), pre, hide⟩ :: os) e = qGuard T (e.get gu) want loc rest os ⟨some d, .build z ps, some (gu, want), pre, hide⟩ e := runQ_guard rfl _ _ _ _ _ _ _ _ _
@[simp] theorem rq_lit (z n ps) (d pre hide os e loc rest) : runQ T loc rest (⟨some d, .lit z n ps, none, pre, hide⟩ :: os) e = qThen T loc rest os (some d) e (op1 T (Run T) ⟨some d, .lit z n ps, none, pre, hide⟩ e (loc :: rest)) := runQ_none rfl _ _ _ _ _ _ _
@[simp] theorem rqg_lit (z n ps) (d gu want pre hide os e loc rest) : runQ T loc rest (⟨some d, .lit z n ps, some (gu, want), pre, hide⟩ :: os) e = qGuard T (e.get gu) want loc rest os ⟨some d, .lit z n ps, some (gu, want), pre, hide⟩ e := runQ_guard rfl _ _ _ _ _ _ _ _ _
@[simp] theorem rq_load (n a) (d pre hide os e loc rest) : runQ T loc rest (⟨some d, .load n a, none, pre, hide⟩ :: os) e = qThen T loc rest os (some d) e (op1 T (Run T) ⟨some d, .load n a, none, pre, hide⟩ e (loc :: rest)) := runQ_none rfl _ _ _ _ _ _ _
@[simp] theorem rqg_load (n a) (d gu want pre hide os e loc rest) : runQ T loc rest (⟨some d, .load n a, some (gu, want), pre, hide⟩ :: os) e = qGuard T (e.get gu) want loc rest os ⟨some d, .load n a, some (gu, want), pre, hide⟩ e := runQ_guard rfl _ _ _ _ _ _ _ _ _
@[simp] theorem rq_bin (op x y) (d pre hide os e loc rest) : runQ T loc rest (⟨some d, .bin op x y, none, pre, hide⟩ :: os) e = qThen T loc rest os (some d) e (op1 T (Run T) ⟨some d, .bin op x y, none, pre, hide⟩ e (loc :: rest)) := runQ_none rfl _ _ _ _ _ _ _
@[simp] theorem rqg_bin (op x y) (d gu want pre hide os e loc rest) : runQ T loc rest (⟨some d, .bin op x y, some (gu, want), pre, hide⟩ :: os) e = qGuard T (e.get gu) want loc rest os ⟨some d, .bin op x y, some (gu, want), pre, hide⟩ e := runQ_guard rfl _ _ _ _ _ _ _ _ _
@[simp] theorem rq_un (op x) (d pre hide os e loc rest) : runQ T loc rest (⟨some d, .un op x, none, pre, hide⟩ :: os) e = qThen T loc rest os (some d) e (op1 T (Run T) ⟨some d, .un op x, none, pre, hide⟩ e (loc :: rest)) := runQ_none rfl _ _ _ _ _ _ _
@[simp] theorem rqg_un (op x) (d gu want pre hide os e loc rest) : runQ T loc rest (⟨some d, .un op x, some (gu, want), pre, hide⟩ :: os) e = qGuard T (e.get gu) want loc rest os ⟨some d, .un op x, some (gu, want), pre, hide⟩ e := runQ_guard rfl _ _ _ _ _ _ _ _ _
@[simp] theorem rq_mkfn (f first cap) (d pre hide os e loc rest) : runQ T loc rest (⟨some d, .mkfn f first cap, none, pre, hide⟩ :: os) e = qThen T loc rest os (some d) e (op1 T (Run T) ⟨some d, .mkfn f first cap, none, pre, hide⟩ e (loc :: rest)) := runQ_none rfl _ _ _ _ _ _ _
@[simp] theorem rqg_mkfn (f first cap) (d gu want pre hide os e loc rest) : runQ T loc rest (⟨some d, .mkfn f first cap, some (gu, want), pre, hide⟩ :: os) e = qGuard T (e.get gu) want loc rest os ⟨some d, .mkfn f first cap, some (gu, want), pre, hide⟩ e := runQ_guard rfl _ _ _ _ _ _ _ _ _
@[simp] theorem rq_slice (esz x lo hi mx) (d pre hide os e loc rest) : runQ T loc rest (⟨some d, .slice esz x lo hi mx, none, pre, hide⟩ :: os) e = qThen T loc rest os (some d) e (op1 T (Run T) ⟨some d, .slice esz x lo hi mx, none, pre, hide⟩ e (loc :: rest)) := runQ_none rfl _ _ _ _ _ _ _
@[simp] theorem rqg_slice (esz x lo hi mx) (d gu want pre hide os e loc rest) : runQ T loc rest (⟨some d, .slice esz x lo hi mx, some (gu, want), pre, hide⟩ :: os) e = qGuard T (e.get gu) want loc rest os ⟨some d, .slice esz x lo hi mx, some (gu, want), pre, hide⟩ e := runQ_guard rfl _ _ _ _ _ _ _ _ _
@[simp] theorem rq_faddr (off x) (d pre hide os e loc rest) : runQ T loc rest (⟨some d, .faddr off x, none, pre, hide⟩ :: os) e = qThen T loc rest os (some d) e (op1 T (Run T) ⟨some d, .faddr off x, none, pre, hide⟩ e (loc :: rest)) := runQ_none rfl _ _ _ _ _ _ _
@[simp] theorem rqg_faddr (off x) (d gu want pre hide os e loc rest) : runQ T loc rest (⟨some d, .faddr off x, some (gu, want), pre, hide⟩ :: os) e = qGuard T (e.get gu) want loc rest os ⟨some d, .faddr off x, some (gu, want), pre, hide⟩ e := runQ_guard rfl _ _ _ _ _ _ _ _ _
@[simp] theorem rq_idxs (esz x i) (d pre hide os e loc rest) : runQ T loc rest (⟨some d, .idxs esz x i, none, pre, hide⟩ :: os) e = qThen T loc rest os (some d) e (op1 T (Run T) ⟨some d, .idxs esz x i, none, pre, hide⟩ e (loc :: rest)) := runQ_none rfl _ _ _ _ _ _ _
@[simp] theorem rqg_idxs (esz x i) (d gu want pre hide os e loc rest) : runQ T loc rest (⟨some d, .idxs esz x i, some (gu, want), pre, hide⟩ :: os) e = qGuard T (e.get gu) want loc rest os ⟨some d, .idxs esz x i, some (gu, want), pre, hide⟩ e := runQ_guard rfl _ _ _ _ _ _ _ _ _
@[simp] theorem rq_idxa (len esz x i) (d pre hide os e loc rest) : runQ T loc rest (⟨some d, .idxa len esz x i, none, pre, hide⟩ :: os) e = qThen T loc rest os (some d) e (op1 T (Run T) ⟨some d, .idxa len esz x i, none, pre, hide⟩ e (loc :: rest)) := runQ_none rfl _ _ _ _ _ _ _
@[simp] theorem rqg_idxa (len esz x i) (d gu want pre hide os e loc rest) : runQ T loc rest (⟨some d, .idxa len esz x i, some (gu, want), pre, hide⟩ :: os) e = qGuard T (e.get gu) want loc rest os ⟨some d, .idxa len esz x i, some (gu, want), pre, hide⟩ e := runQ_guard rfl _ _ _ _ _ _ _ _ _
@[simp] theorem rq_ext (x i) (d pre hide os e loc rest) : runQ T loc rest (⟨some d, .ext x i, none, pre, hide⟩ :: os) e = qThen T loc rest os (some d) e (op1 T (Run T) ⟨some d, .ext x i, none, pre, hide⟩ e (loc :: rest)) := runQ_none rfl _ _ _ _ _ _ _
@[simp] theorem rqg_ext (x i) (d gu want pre hide os e loc rest) : runQ T loc rest (⟨some d, .ext x i, some (gu, want), pre, hide⟩ :: os) e = qGuard T (e.get gu) want loc rest os ⟨some d, .ext x i, some (gu, want), pre, hide⟩ e := runQ_guard rfl _ _ _ _ _ _ _ _ _
@[simp] theorem rq_len (x) (d pre hide os e loc rest) : runQ T loc rest (⟨some d, .len x, none, pre, hide⟩ :: os) e = qThen T loc rest os (some d) e (op1 T (Run T) ⟨some d, .len x, none, pre, hide⟩ e (loc :: rest)) := runQ_none rfl _ _ _ _ _ _ _
@[simp] theorem rqg_len (x) (d gu want pre hide os e loc rest) : runQ T loc rest (⟨some d, .len x, some (gu, want), pre, hide⟩ :: os) e = qGuard T (e.get gu) want loc rest os ⟨some d, .len x, some (gu, want), pre, hide⟩ e := runQ_guard rfl _ _ _ _ _ _ _ _ _
@[simp] theorem rq_eqa (ks neg x y) (d pre hide os e loc rest) : runQ T loc rest (⟨some d, .eqa ks neg x y, none, pre, hide⟩ :: os) e = qThen T loc rest os (some d) e (op1 T (Run T) ⟨some d, .eqa ks neg x y, none, pre, hide⟩ e (loc :: rest)) := runQ_none rfl _ _ _ _ _ _ _
@[simp] theorem rqg_eqa (ks neg x y) (d gu want pre hide os e loc rest) : runQ T loc rest (⟨some d, .eqa ks neg x y, some (gu, want), pre, hide⟩ :: os) e = qGuard T (e.get gu) want loc rest os ⟨some d, .eqa ks neg x y, some (gu, want), pre, hide⟩ e := runQ_guard rfl _ _ _ _ _ _ _ _ _
@[simp] theorem rq_eqb (neg x y) (d pre hide os e loc rest) : runQ T loc rest (⟨some d, .eqb neg x y, none, pre, hide⟩ :: os) e = qThen T loc rest os (some d) e (op1 T (Run T) ⟨some d, .eqb neg x y, none, pre, hide⟩ e (loc :: rest)) := runQ_none rfl _ _ _ _ _ _ _
@[simp] theorem rqg_eqb (neg x y) (d gu want pre hide os e loc rest) : runQ T loc rest (⟨some d, .eqb neg x y, some (gu, want), pre, hide⟩ :: os) e = qGuard T (e.get gu) want loc rest os ⟨some d, .eqb neg x y, some (gu, want), pre, hide⟩ e := runQ_guard rfl _ _ _ _ _ _ _ _ _
@[simp] theorem rq_isnil (neg x) (d pre hide os e loc rest) : runQ T loc rest (⟨some d, .isnil neg x, none, pre, hide⟩ :: os) e = qThen T loc rest os (some d) e (op1 T (Run T) ⟨some d, .isnil neg x, none, pre, hide⟩ e (loc :: rest)) := runQ_none rfl _ _ _ _ _ _ _
@[simp] theorem rqg_isnil (neg x) (d gu want pre hide os e loc rest) : runQ T loc rest (⟨some d, .isnil neg x, some (gu, want), pre, hide⟩ :: os) e = qGuard T (e.get gu) want loc rest os ⟨some d, .isnil neg x, some (gu, want), pre, hide⟩ e := runQ_guard rfl _ _ _ _ _ _ _ _ _
@[simp] theorem rq_slarr (n x hi) (d pre hide os e loc rest) : runQ T loc rest (⟨some d, .slarr n x hi, none, pre, hide⟩ :: os) e = qThen T loc rest os (some d) e (op1 T (Run T) ⟨some d, .slarr n x hi, none, pre, hide⟩ e (loc :: rest)) := runQ_none rfl _ _ _ _ _ _ _
@[simp] theorem rqg_slarr (n x hi) (d gu want pre hide os e loc rest) : runQ T loc rest (⟨some d, .slarr n x hi, some (gu, want), pre, hide⟩ :: os) e = qGuard T (e.get gu) want loc rest os ⟨some d, .slarr n x hi, some (gu, want), pre, hide⟩ e := runQ_guard rfl _ _ _ _ _ _ _ _ _
@[simp] theorem rq_mm (mx x y) (d pre hide os e loc rest) : runQ T loc rest (⟨some d, .mm mx x y, none, pre, hide⟩ :: os) e = qThen T loc rest os (some d) e (op1 T (Run T) ⟨some d, .mm mx x y, none, pre, hide⟩ e (loc :: rest)) := runQ_none rfl _ _ _ _ _ _ _
@[simp] theorem rqg_mm (mx x y) (d gu want pre hide os e loc rest) : runQ T loc rest (⟨some d, .mm mx x y, some (gu, want), pre, hide⟩ :: os) e = qGuard T (e.get gu) want loc rest os ⟨some d, .mm mx x y, some (gu, want), pre, hide⟩ e := runQ_guard rfl _ _ _ _ _ _ _ _ _
@[simp] theorem rq_mm3 (mx x y z) (d pre hide os e loc rest) : runQ T loc rest (⟨some d, .mm3 mx x y z, none, pre, hide⟩ :: os) e = qThen T loc rest os (some d) e (op1 T (Run T) ⟨some d, .mm3 mx x y z, none, pre, hide⟩ e (loc :: rest)) := runQ_none rfl _ _ _ _ _ _ _
@[simp] theorem rqg_mm3 (mx x y z) (d gu want pre hide os e loc rest) : runQ T loc rest (⟨some d, .mm3 mx x y z, some (gu, want), pre, hide⟩ :: os) e = qGuard T (e.get gu) want loc rest os ⟨some d, .mm3 mx x y z, some (gu, want), pre, hide⟩ e := runQ_guard rfl _ _ _ _ _ _ _ _ _
@[simp] theorem rq_call (f args) (d pre hide os e loc rest) : runQ T loc rest (⟨some d, .call f args, none, pre, hide⟩ :: os) e = qThen T loc rest os (some d) e (op1 T (Run T) ⟨some d, .call f args, none, pre, hide⟩ e (loc :: rest)) := runQ_none rfl _ _ _ _ _ _ _
@[simp] theorem rqg_call (f args) (d gu want pre hide os e loc rest) : runQ T loc rest (⟨some d, .call f args, some (gu, want), pre, hide⟩ :: os) e = qGuard T (e.get gu) want loc rest os ⟨some d, .call f args, some (gu, want), pre, hide⟩ e := runQ_guard rfl _ _ _ _ _ _ _ _ _
@[simp] theorem rq_callv (x args) (d pre hide os e loc rest) : runQ T loc rest (⟨some d, .callv x args, none, pre, hide⟩ :: os) e = qThen T loc rest os (some d) e (op1 T (Run T) ⟨some d, .callv x args, none, pre, hide⟩ e (loc :: rest)) := runQ_none rfl _ _ _ _ _ _ _
@[simp] theorem rqg_callv (x args) (d gu want pre hide os e loc rest) : runQ T loc rest (⟨some d, .callv x args, some (gu, want), pre, hide⟩ :: os) e = qGuard T (e.get gu) want loc rest os ⟨some d, .callv x args, some (gu, want), pre, hide⟩ e := runQ_guard rfl _ _ _ _ _ _ _ _ _
attribute [simp] run_quick
end
end Go.Ab

/-
  More for simp: entries put and got; results that are handed on.
-/
namespace Go.Ab
@[simp] theorem sget_cons (loc : Loc) (r : Stk) (d l : Nat) : sget (loc :: r) d l = if d = r.length then loc.get l else sget r d l := rfl
@[simp] theorem sput_cons (loc : Loc) (r : Stk) (d l : Nat) (x : Entry) : sput (loc :: r) d l x = if d = r.length then loc.put l x :: r else loc :: sput r d l x := rfl
@[simp] theorem downK_cons (d : Nat) (loc : Loc) (r : Stk) (v : V) : downK d (loc :: r) v = if d = r.length then some v else v.down d := by simp [downK]
attribute [simp] V.down V.downAll Cap.down
@[simp] theorem get_put (loc : Loc) (l : Nat) (x : Entry) (k : Nat) : Loc.get (Loc.put loc l x) k = if k = l then some x else Loc.get loc k := by
 induction loc with
 | nil => simp only [Loc.put, Loc.get]
 | cons y r ih =>
   obtain ⟨m, y⟩ := y
   simp only [Loc.put]
   by_cases h : l = m
   ·simp only [h, if_true, Loc.get]
    by_cases hk : k = m <;> simp [hk]
   ·simp only [h, if_false, Loc.get, ih]
    by_cases hk : k = m
    ·subst hk
     have : ¬ k = l := fun e => h e.symm
     simp [this]
    ·simp [hk]
section
variable (own : Bool) (d : Nat) (loc : Loc) (ls : List Nat) (lab : Nat)
@[simp] theorem adoptAll_nil (s : Stk) : adoptAll own d ls loc lab [] s = some s := rfl
def adE (own : Bool) (d : Nat) (ls : List Nat) (loc : Loc) (lab : Nat) (l : Nat) (r : List Nat) (s : Stk) : Option Entry → Option Stk
 | some x => if x.goes own && (sget s (dep s) (newLab lab l ls)).isNone then adoptAll own d ls loc lab r (sput s (dep s) (newLab lab l ls) (x.map (renR own d loc ls (dep s) lab))) else none
 | none => none
@[simp] theorem adoptAll_cons (l : Nat) (r : List Nat) (s : Stk) : adoptAll own d ls loc lab (l :: r) s = adE own d ls loc lab l r s (loc.get l) := by
 simp only [adoptAll, adE]; cases loc.get l <;> rfl
@[simp] theorem adE_some (l : Nat) (r : List Nat) (l0 : Loc) (s : Stk) (x : Entry) : adE own d ls loc lab l r (l0 :: s) (some x) = if x.goes own = true ∧ (l0.get (newLab lab l ls)).isNone then adoptAll own d ls loc lab r (l0.put (newLab lab l ls) (x.map (renR own d loc ls s.length lab)) :: s) else none := by
 simp [adE]
def entRefs (own : Bool) (d : Nat) : Option Entry → List Nat
 | some x => x.refs own d
 | none => []
@[simp] theorem entRefs_none : entRefs own d none = [] := rfl
@[simp] theorem entRefs_cell (cs : List V) : entRefs own d (some (.cell cs)) = V.refsAll own d cs := rfl
@[simp] theorem entRefs_arr (z : Nat) (es : List (List V)) : entRefs own d (some (.arr z es)) = es.flatMap (V.refsAll own d) := rfl
@[simp] theorem entRefs_tok (n : Nat) : entRefs own d (some (.tok n)) = [] := rfl
@[simp] theorem adK_cons (r : V) (l : Nat) (l0 : Loc) (s : Stk) : adK own loc r lab (l0 :: s) (l :: ls) =
 (match dedup (dedup ((l :: ls) ++ (l :: ls).flatMap fun l => entRefs own (l0 :: s).length (loc.get l)) ++ (dedup ((l :: ls) ++ (l :: ls).flatMap fun l => entRefs own (l0 :: s).length (loc.get l))).flatMap fun l => entRefs own (l0 :: s).length (loc.get l)) with
 | [] => some (r.map (renR own (l0 :: s).length loc [] s.length lab), l0 :: s)
 | e :: es => (adoptAll own (l0 :: s).length (e :: es) loc lab (e :: es) (l0 :: s)).map fun s' => (r.map (renR own (l0 :: s).length loc (e :: es) s.length lab), s')) := by
 have h : (fun l => entRefs own (l0 :: s).length (loc.get l)) = fun l => match loc.get l with | some x => x.refs own (l0 :: s).length | _ => [] := by
  funext l; cases loc.get l <;> rfl
 simp only [h, adK, dep_cons, List.isEmpty_cons, Bool.false_eq_true, if_false]
 generalize dedup (_ ++ _) = q
 cases q <;> rfl
end
section
variable {α : Type} (f : α → List V)
@[simp] theorem es_refs (own : Bool) (d : Nat) (h : ∀ x, V.refsAll own d (f x) = []) (l : List α) : (es f l).flatMap (V.refsAll own d) = [] := by
 simp [es, h, List.flatMap]
end
section
variable {α : Type} (f : α → List V)
theorem appmK_es (esz bytes lab loc) (r : Stk) (z c' z' : _) (l : List α) (h1 : l.length * bytes ≤ 140737488355328) (h2 : l.length < 140737488355328) (h3 : z = esz) (h4 : z' = esz) (h6 : Loc.get loc lab = none) :
 appmK esz bytes lab (loc :: r) (.sl .full z []) (.sl c' z' (es f l)) = some (.asl r.length lab esz l.length 0 l.length, loc.put lab (.arr esz (es f l)) :: r) := by
 rw [appmK_sl _ _ _ _ _ _ _ _ _ (by simpa using h1) (by simpa using h2) (.inl h3) (.inl h4) h6, es_length]
end
end Go.Ab

/-
  Loops that gather, and may leave with something behind in their frame.
-/
namespace Go.Ab
section
variable {T : Tab}
end
section
variable {α : Type} (f : α → List V)
end
section
variable {α : Type} (f : α → List V)
end
def foldB {α σ : Type} (step : σ → α → σ × Bool) : List α → σ → σ × Bool
 | [], a => (a, true)
 | x :: r, a => if (step a x).2 = true then foldB step r (step a x).1 else (step a x)
section
variable {T : Tab}
theorem loop_list_e {live keep : List Nat} {b : AC} {α σ γ : Type} [Inhabited γ] (l : List α) (I : Nat → σ → Prop) (E : Nat → σ → Env) (S : Nat → σ → Stk) (step : σ → α → σ × Bool) (q : γ → σ → Ex × Env × Stk) (fin : σ → Ex × Env × Stk) (hq : ∀ g a, (q g a).1 ≠ .normal) (hn : ∀ a, (fin a).1 ≠ .normal)
 (hs : ∀ k a (hk : k < l.length), I k a → ((step a l[k]).2 = true → gcN live keep (Run T b (E k a) (S k a)) = some (.normal, E (k + 1) (step a l[k]).1, S (k + 1) (step a l[k]).1) ∧ I (k + 1) (step a l[k]).1) ∧ ((step a l[k]).2 = false → ∃ g, Run T b (E k a) (S k a) = some (q g (step a l[k]).1)))
 (hf : ∀ a, I l.length a → Run T b (E l.length a) (S l.length a) = some (fin a)) (a : σ) (h0 : I 0 a) (e : Env) (s : Stk) (he : gcEnv live keep e s = E 0 a) (hse : gcStk keep s = S 0 a) :
 ∃ g, Run T (.loop live keep b) e s = if (foldB step l a).2 = true then some (fin (foldB step l a).1) else some (q g (foldB step l a).1) := by
 have key : ∀ m k a, k + m = l.length → I k a → ∃ g, ∀ e s, gcEnv live keep e s = E k a → gcStk keep s = S k a → Run T (.loop live keep b) e s = if (foldB step (l.drop k) a).2 = true then some (fin (foldB step (l.drop k) a).1) else some (q g (foldB step (l.drop k) a).1) := by
  intro m
  induction m with
  | zero =>
    intro k a hk hi
    refine ⟨default, fun e s he hse => ?_⟩
    obtain rfl : k = l.length := by omega
    rw [run_head _ _ _ _ _ he hse, hf a hi]
    have := hn a
    rw [List.drop_eq_nil_of_le (Nat.le_refl _)]
    simp only [foldB, if_true]
    generalize fin a = r at this
    obtain ⟨ex, e, s⟩ := r
    cases ex <;> simp_all [thenRun]
  | succ m ih =>
    intro k a hk hi
    have hlt : k < l.length := by omega
    obtain ⟨h1, h2⟩ := hs k a hlt hi
    rw [List.drop_eq_getElem_cons hlt]
    by_cases hst : (step a l[k]).2 = true
    ·have e1 : foldB step (l[k] :: l.drop (k + 1)) a = foldB step (l.drop (k + 1)) (step a l[k]).1 := by simp only [foldB, if_pos hst]
     rw [e1]
     obtain ⟨k1, k2⟩ := h1 hst
     obtain ⟨g2, k3⟩ := ih (k + 1) _ (by omega) k2
     refine ⟨g2, fun e s he hse => ?_⟩
     rw [run_head _ _ _ _ _ he hse]
     cases hr : Run T b (E k a) (S k a) with
     | none => rw [hr] at k1; cases k1
     | some y =>
       obtain ⟨ex, e1, s1⟩ := y
       rw [hr] at k1
       cases ex with
       | normal =>
         simp only [gcN_normal, Option.some.injEq, Prod.mk.injEq, true_and] at k1
         rw [thenRun_normal, k3 e1 s1 k1.1 k1.2]
       | exit id => simp at k1
       | ret => simp at k1
    ·have e1 : foldB step (l[k] :: l.drop (k + 1)) a = step a l[k] := by simp only [foldB, if_neg hst]
     rw [e1]
     obtain ⟨g1, k1⟩ := h2 (by simpa using hst)
     refine ⟨g1, fun e s he hse => ?_⟩
     rw [if_neg hst, run_head _ _ _ _ _ he hse, k1]
     have := hq g1 (step a l[k]).1
     generalize q g1 (step a l[k]).1 = r at this
     obtain ⟨ex, e1, s1⟩ := r
     cases ex <;> simp_all [thenRun]
 obtain ⟨g, h⟩ := key l.length 0 a (by omega) h0
 exact ⟨g, by rw [h e s he hse]; simp⟩
end
section
variable {T : Tab}
def yldB (ex : Ex) : Bool := match ex with | .normal => true | _ => false
def yldE (ps : List Nat) (A B : AC) (env : Env) (ex : Ex) : Entry := match ex with
 | .normal => .loop ps A B env .ready none
 | ex => .loop ps A B env .done (some ex)
theorem yld_run {d l : Nat} {args : List V} {lab : Nat} {s s3 : Stk} {ps : List Nat} {A B : AC} {env e1 e2 : Env} {fr1 fr2 : Loc} {st : LoopState} {p : Option Ex} {ex : Ex}
 (h1 : sget s d l = some (.loop ps A B env .ready none)) (hl : args.length = ps.length) (hA : Run T A (bindEnv ps args env) ([] :: s) = some (.normal, e1, fr1 :: s)) (hd : d < s.length)
 (hB : Run T B e1 (fr1 :: sput s d l (.loop ps A B env .busy none)) = some (ex, e2, fr2 :: s3)) (h3 : sget s3 d l = some (.loop ps A B env st p)) :
 denV T (.yld d l) args lab s = some (.bool (yldB ex), sput s3 d l (yldE ps A B env ex)) := by
 have h2 : sget (fr1 :: s) d l = some (.loop ps A B env .ready none) := by rw [sget_cons, if_neg (by omega), h1]
 have h4 : sput (fr1 :: s) d l (.loop ps A B env .busy none) = fr1 :: sput s d l (.loop ps A B env .busy none) := by rw [sput_cons, if_neg (by omega)]
 simp only [denV, enterV, h1, hl, if_true, hA, h2, h4, hB, h3]
 cases ex <;> rfl
def rngK (l : Nat) (e : Env) (s : Stk) (d : Nat) : Option Entry → Res
 | some (.loop ps' A' B' env .ready none) => some (.normal, e, sput s d l (.loop ps' A' B' [] .exhausted none))
 | some (.loop ps' A' B' env .done (some ex)) => some (ex, e, sput s d l (.loop ps' A' B' [] .exhausted (some ex)))
 | _ => none
@[simp] theorem rngK_ready (l e s d ps A B env) : rngK l e s d (some (.loop ps A B env .ready none)) = some (.normal, e, sput s d l (.loop ps A B [] .exhausted none)) := rfl
@[simp] theorem rngK_done (l e s d ps A B env ex) : rngK l e s d (some (.loop ps A B env .done (some ex))) = some (ex, e, sput s d l (.loop ps A B [] .exhausted (some ex))) := rfl
def rngR (l : Nat) (e : Env) (d : Nat) : Option (V × Stk) → Res
 | some (_, s) => rngK l e s d (sget s d l)
 | none => none
@[simp] theorem rngR_some (l e d v s) : rngR l e d (some (v, s)) = rngK l e s d (sget s d l) := rfl
noncomputable def rngF (T : Tab) (l : Nat) (ps : List Nat) (A B : AC) (e : Env) (loc : Loc) (r : Stk) : V → Res
 | .fn g first cap => rngR l e r.length (den T g (first ++ [.yld r.length l] ++ cap) 0 (loc.put l (.loop ps A B e .ready none) :: r))
 | _ => none
@[simp] theorem rngF_fn (l ps A B e loc) (r : Stk) (g first cap) : rngF T l ps A B e loc r (.fn g first cap) = rngR l e r.length (den T g (first ++ [.yld r.length l] ++ cap) 0 (loc.put l (.loop ps A B e .ready none) :: r)) := rfl
@[simp] theorem run_rng (site ps A B f e loc) (r : Stk) : Run T (.rng site ps A B f) e (loc :: r) = if (loc.get (16 * site + 7)).isNone then rngF T (16 * site + 7) ps A B e loc r (f.ev e) else none := by
 rw [run_eq]
 simp only [step]
 have h0 : sget (loc :: r) (dep (loc :: r)) (16 * site + 7) = loc.get (16 * site + 7) := by rw [dep_cons, sget_top]
 rw [h0]
 by_cases h : (loc.get (16 * site + 7)).isNone = true
 ·rw [if_pos ⟨h, by simp⟩, if_pos h]
  cases f.ev e <;> try rfl
  rename_i g first cap
  simp only [rngF, dep_cons, sput_top, den, rngR]
  cases enter T (Run T) g (first ++ [.yld r.length (16 * site + 7)] ++ cap) 0 (loc.put (16 * site + 7) (.loop ps A B e .ready none) :: r) with
  | none => rfl
  | some q =>
    obtain ⟨v, s'⟩ := q
    dsimp only
    cases sget s' r.length (16 * site + 7) <;> rfl
 ·rw [if_neg (fun hh => h hh.1), if_neg h]
end
section
def appA (esz bytes d l z q o k : Nat) (s : Stk) (z' : Nat) (fs : List (List V)) : Option Entry → Option (V × Stk)
 | some (.arr z0 es) => if (es.length + fs.length) * bytes ≤ 140737488355328 ∧ es.length + fs.length < 140737488355328 ∧ q = es.length ∧ o = 0 ∧ k = q ∧ z = esz ∧ z0 = esz ∧ (z' = esz ∨ fs = []) then
  (if fs = [] then some (.asl d l z q 0 k, s) else some (.asl d l esz (es.length + fs.length) 0 (es.length + fs.length), sput s d l (.arr esz (es ++ fs)))) else none
 | some (.harr lo z0 es) => if (es.length + fs.length) * bytes ≤ 140737488355328 ∧ es.length + fs.length < 140737488355328 ∧ q = es.length ∧ o = 0 ∧ k = q ∧ z = esz ∧ z0 = esz ∧ z' = esz ∧ fs ≠ [] ∧ d = dep s then
  some (.asl d l esz (es.length + fs.length) 0 (es.length + fs.length), sput s d l (.harr lo esz (es ++ fs))) else none
 | _ => none
@[simp] theorem appK_asl (esz bytes lab s d l z q o k c' z' fs) : appK esz bytes lab s (.asl d l z q o k) (.sl c' z' fs) = appA esz bytes d l z q o k s z' fs (sget s d l) := by
 simp only [appK]
 cases h : sget s d l with
 | none => simp [appA]
 | some x =>
   cases x <;> simp only [appA] <;> try (simp; done)
variable {α : Type} (f : α → List V)
def appDA (esz bytes d l z q o k D : Nat) (z' : Nat) (fs : List (List V)) : Option Entry → Option (V × Loc)
 | some (.arr z0 es) => if (es.length + fs.length) * bytes ≤ 140737488355328 ∧ es.length + fs.length < 140737488355328 ∧ q = es.length ∧ o = 0 ∧ k = q ∧ z = esz ∧ z0 = esz ∧ (z' = esz ∨ fs = []) then
  (if fs = [] then some (.asl d l z q 0 k, []) else if d = D then some (.asl d l esz (es.length + fs.length) 0 (es.length + fs.length), [(l, .arr esz (es ++ fs))]) else none) else none
 | some (.harr lo z0 es) => if (es.length + fs.length) * bytes ≤ 140737488355328 ∧ es.length + fs.length < 140737488355328 ∧ q = es.length ∧ o = 0 ∧ k = q ∧ z = esz ∧ z0 = esz ∧ z' = esz ∧ fs ≠ [] ∧ d = D then
  some (.asl d l esz (es.length + fs.length) 0 (es.length + fs.length), [(l, .harr lo esz (es ++ fs))]) else none
 | _ => none
@[simp] theorem appD_asl (esz bytes lab vis) (rest : Stk) (d l z q o k c' z' fs) : appD esz bytes lab vis rest (.asl d l z q o k) (.sl c' z' fs) = appDA esz bytes d l z q o k rest.length z' fs (sget (vis :: rest) d l) := by
 simp only [appD]
 cases h : sget (vis :: rest) d l with
 | none => simp [appDA]
 | some x =>
   cases x with
   | arr z0 es =>
     simp only [appDA]
     split
     ·split
      ·simp
      ·simp only [effD]
     ·simp
   | harr lo z0 es =>
     simp only [appDA, dep, List.length_cons, Nat.add_sub_cancel]
     split
     ·rename_i hc
      simp only [effD]
      rw [if_pos hc.2.2.2.2.2.2.2.2.2]
     ·simp
   | _ => simp [appDA]
end
end Go.Ab

/-
  Arguments: what reads as data of a type made of bools, integers, structs and slices reads as a value of its shape.
-/
namespace Go.Ab
section
variable {H : Type} {enc : TypeId × Value → H} {P : Program} {w : World}
def okFs (P : Program) (g : TypeId → Bool) (tot : Nat) : List Field → Nat → Bool
 | [], off => decide (off = tot)
 | f :: fs, off => decide (f.offset = off) && g f.type && okFs P g tot fs (off + P.cellsOf f.type)
def okTy (P : Program) : Nat → TypeId → Bool
 | 0, _ => false
 | n + 1, t => match P.underlying t with
   | some .bool => decide (P.cellsOf t = 1)
   | some (.int _) => decide (P.cellsOf t = 1)
   | some (.slice e) => decide (P.cellsOf t = 1) && decide (0 < P.cellsOf e) && okTy P n e
   | some (.struct fs) => okFs P (okTy P n) (P.cellsOf t) fs.toList 0
   | _ => false
def FitF (g : TypeId → List V → Prop) : List Field → List V → Prop
 | [], vs => vs = []
 | f :: fs, vs => ∃ a b, vs = a ++ b ∧ g f.type a ∧ FitF g fs b
def Fit (P : Program) (B : TypeId → Nat → Prop) : Nat → TypeId → List V → Prop
 | 0, _, _ => False
 | n + 1, t, vs => match P.underlying t with
   | some .bool => ∃ b, vs = [.bool b]
   | some (.int k) => ∃ x, vs = [.int k x]
   | some (.slice e) => ∃ l, vs = [.sl .no (P.cellsOf e) l] ∧ B e l.length ∧ ∀ x ∈ l, Fit P B n e x
   | some (.struct fs) => FitF (Fit P B n) fs.toList vs
   | _ => False
theorem rdAll_some {g : DataW H → Option (List V)} {Q : List V → Prop} : ∀ (ds : List (DataW H)), (∀ d ∈ ds, ∃ a, g d = some a ∧ Q a) → ∃ xs, rdAll g ds = some xs ∧ xs.length = ds.length ∧ ∀ x ∈ xs, Q x
 | [], _ => ⟨[], rfl, rfl, by simp⟩
 | d :: r, h => by
   obtain ⟨a, h1, h2⟩ := h d (by simp)
   obtain ⟨xs, h3, h4, h5⟩ := rdAll_some r fun d hd => h d (by simp [hd])
   refine ⟨a :: xs, by simp [rdAll, h1, h3], by simp [h4], ?_⟩
   intro x hx
   rcases List.mem_cons.1 hx with rfl | hx
   ·exact h2
   ·exact h5 x hx
theorem rdF_some {g : TypeId → DataW H → Option (List V)} {g' : TypeId → Bool} {Q : TypeId → List V → Prop} {tot : Nat} : ∀ (fs : List Field) (off : Nat) (ds : List (DataW H)), okFs P g' tot fs off = true → ds.length = fs.length →
 (∀ (i : Nat) f d, fs[i]? = some f → ds[i]? = some d → g' f.type = true → ∃ a, g f.type d = some a ∧ Q f.type a ∧ a.length = P.cellsOf f.type) → ∃ vs, rdF P g tot fs off ds = some vs ∧ FitF Q fs vs ∧ off + vs.length = tot
 | [], off, [], h, _, _ => by
   simp only [okFs, decide_eq_true_eq] at h
   exact ⟨[], by simp [rdF, h], rfl, by simpa using h⟩
 | f :: fs, off, d :: ds, h, hl, hf => by
   simp only [okFs, Bool.and_eq_true, decide_eq_true_eq] at h
   obtain ⟨⟨h1, h2⟩, h3⟩ := h
   obtain ⟨a, k1, k2, k3⟩ := hf 0 f d rfl rfl h2
   obtain ⟨b, k4, k5, k6⟩ := rdF_some fs _ ds h3 (by simpa using hl) fun i f d q1 q2 q3 => hf (i + 1) f d (by simpa using q1) (by simpa using q2) q3
   refine ⟨a ++ b, ?_, ⟨a, b, rfl, k2, k5⟩, by simp [k3]; omega⟩
   simp only [rdF, h1, if_true, k1, k4, k3]
 | [], _, _ :: _, _, hl, _ => by simp at hl
 | _ :: _, _, [], _, hl, _ => by simp at hl
theorem rd_fit {sp : Nat → Bool} {good : TypeId → DataW H → Prop} {B : TypeId → Nat → Prop} (g0 : ∀ e, B e 0) (ga : ∀ t fs ps, P.underlying t = some (.struct fs) → good t (.agg ps) → ∀ (i : Nat) f d, fs[i]? = some f → ps[i]? = some d → good f.type d)
 (gs : ∀ t e es r, P.underlying t = some (.slice e) → good t (.slice es r) → (es.length ≤ maxLen → B e es.length) ∧ ∀ d ∈ es, good e d) :
 ∀ (n : Nat) {t : TypeId} {cs : List Value} {d : DataW H} {ps : List MemPlace} {m : Nat}, okTy P n t = true → DataW.trod enc P w 0 sp true m t cs = some (d, ps) → good t d → ∃ vs, rd P n t d = some vs ∧ Fit P B n t vs ∧ vs.length = P.cellsOf t
 | 0, _, _, _, _, _, h, _, _ => by simp [okTy] at h
 | n + 1, t, cs, d, ps, m, h, ht, hg => by
   simp only [okTy] at h
   split at h
   ·rename_i hu
    obtain ⟨b, rfl, hx⟩ := DataW.trod_bool hu ht
    cases hx
    exact ⟨[.bool b], by simp [rd, hu], by simp [Fit, hu], by simpa using (of_decide_eq_true h).symm⟩
   ·rename_i k hu
    obtain ⟨x, rfl, hx, _⟩ := DataW.trod_int hu ht
    cases hx
    exact ⟨[.int k x], by simp [rd, hu], by simp [Fit, hu], by simpa using (of_decide_eq_true h).symm⟩
   ·rename_i e hu
    simp only [Bool.and_eq_true, decide_eq_true_eq] at h
    obtain ⟨⟨h1, h2⟩, h3⟩ := h
    rcases DataW.trod_slice hu ht with ⟨rfl, hx⟩ | ⟨a, len, cap, elems, rest, n', rfl, rfl, hx, _, hl, hmax, hlen, hel, _, _⟩
    ·cases hx
     exact ⟨[.sl .no (P.cellsOf e) []], by simp [rd, hu], by simp [Fit, hu, g0], by simp [h1]⟩
    ·cases hx
     obtain ⟨g1, g2⟩ := gs _ _ _ _ hu hg
     obtain ⟨xs, k1, k2, k3⟩ := rdAll_some (g := rd P n e) (Q := Fit P B n e) (elems.map (·.1)) (fun d hd => by
      obtain ⟨i, hi, rfl⟩ := List.getElem_of_mem hd
      simp only [List.length_map] at hi
      have h4 := hel i (by omega)
      rw [List.getElem?_eq_getElem hi] at h4
      obtain ⟨cs', q1, q2⟩ := Option.bind_eq_some_iff.1 h4
      obtain ⟨vs, q3, q4, _⟩ := rd_fit g0 ga gs n (d := elems[i].1) (ps := elems[i].2) h3 q2 (g2 _ (List.mem_map.2 ⟨elems[i], List.getElem_mem hi, rfl⟩))
      exact ⟨vs, by simpa using q3, q4⟩)
     refine ⟨[.sl .no (P.cellsOf e) xs], ?_, ?_, by simp [h1]⟩
     ·simp [rd, hu, h2, k1]
     ·simp only [Fit, hu]
      exact ⟨xs, rfl, by rw [k2]; exact g1 (by simp; omega), k3⟩
   ·rename_i fs hu
    obtain ⟨xs, n', rfl, hx, hcl, hxl, hf⟩ := DataW.trod_struct hu ht
    cases hx
    obtain ⟨vs, k1, k2, k3⟩ := rdF_some (g := rd P n) (Q := Fit P B n) fs.toList 0 (xs.map (·.1)) h (by simp [hxl]) (fun i f d q1 q2 q3 => by
     have q1' : fs[i]? = some f := by simpa using q1
     have h2 := hf i f q1'
     rw [List.getElem?_map] at q2
     obtain ⟨y, hy, rfl⟩ := Option.map_eq_some_iff.1 q2
     rw [hy] at h2
     exact rd_fit g0 ga gs n (d := y.1) (ps := y.2) q3 h2 (ga _ _ _ hu hg i f y.1 q1' (by rw [List.getElem?_map, hy]; rfl)))
    exact ⟨vs, by simp [rd, hu, k1], by simp [Fit, hu, k2], by omega⟩
   ·cases h
theorem es_of {α : Type} {f : α → List V} {Q : α → Prop} : ∀ (l : List (List V)), (∀ x ∈ l, ∃ y, x = f y ∧ Q y) → ∃ l' : List α, l = l'.map f ∧ ∀ y ∈ l', Q y
 | [], _ => ⟨[], rfl, by simp⟩
 | x :: l, h => by
   obtain ⟨y, rfl, hq⟩ := h x (by simp)
   obtain ⟨l', rfl, hl⟩ := es_of l fun x hx => h x (by simp [hx])
   refine ⟨y :: l', rfl, ?_⟩
   intro z hz
   rcases List.mem_cons.1 hz with rfl | hz
   ·exact hq
   ·exact hl z hz
def heavy (P : Program) (t : TypeId) (d : DataW H) : Prop := ∀ x ∈ DataW.weights P t d, x ≤ reachBytes
theorem weightsAll_mem {e : TypeId} {d : DataW H} {x : Nat} : ∀ {ds : List (DataW H)}, d ∈ ds → x ∈ DataW.weights P e d → x ∈ DataW.weightsAll P e ds
 | y :: ds, h, hx => by
   simp only [DataW.weightsAll, List.mem_append]
   rcases List.mem_cons.1 h with rfl | h
   ·exact .inl hx
   ·exact .inr (weightsAll_mem h hx)
theorem heavy_agg (t : TypeId) (fs : Array Field) (ps : List (DataW H)) (hu : P.underlying t = some (.struct fs)) (h : heavy P t (.agg ps)) (i : Nat) (f : Field) (d : DataW H) (hf : fs[i]? = some f) (hd : ps[i]? = some d) : heavy P f.type d := by
 intro x hx
 refine h x ?_
 simp only [DataW.weights, hu]
 exact DataW.weights_mem_each (j := i) (by simp [hf]) hd x hx
theorem heavy_slice (t e : TypeId) (es r : List (DataW H)) (hu : P.underlying t = some (.slice e)) (h : heavy P t (.slice es r)) : (es.length ≤ maxLen → es.length ≤ maxLen ∧ es.length * P.bytesOf e ≤ reachBytes) ∧ ∀ d ∈ es, heavy P e d := by
 have h1 := h ((es.length + r.length) * P.bytesOf e) (by simp [DataW.weights, hu])
 refine ⟨fun hm => ⟨hm, Nat.le_trans (Nat.mul_le_mul_right _ (by omega)) h1⟩, fun d hd x hx => h x ?_⟩
 simp only [DataW.weights, hu, List.mem_cons, List.mem_append]
 exact .inr (.inl (weightsAll_mem hd hx))
theorem arg_fit {sp : Nat → Bool} {good : TypeId → DataW H → Prop} {B : TypeId → Nat → Prop} (g0 : ∀ e, B e 0) (ga : ∀ t fs ps, P.underlying t = some (.struct fs) → good t (.agg ps) → ∀ (i : Nat) f d, fs[i]? = some f → ps[i]? = some d → good f.type d)
 (gs : ∀ t e es r, P.underlying t = some (.slice e) → good t (.slice es r) → (es.length ≤ maxLen → B e es.length) ∧ ∀ d ∈ es, good e d)
 (n : Nat) {t : TypeId} {cs : List Value} {d : DataW H} {ps : List MemPlace} {m : Nat} (ht : okTy P n t = true) (h : DataW.trod enc P w 0 sp true m t cs = some (d, ps)) (hg : good t d) : ∃ vs, Fit P B n t vs ∧ LR 0 w γ0 vs cs ∧ V.elemAll vs = true := by
 obtain ⟨vs, h1, h2, _⟩ := rd_fit g0 ga gs n ht h hg
 exact ⟨vs, h2, rd_vr n h h1⟩
theorem arg_slice {t e : TypeId} {v : Value} {r : Reach} {b0 : Nat} {x : V} (hu : P.underlying t = some (.slice e)) (hval : Value.okWide P w r b0 t v) (h : LR 0 w γ0 [x] v.cells.toList) : VR 0 w γ0 x v := by
 obtain ⟨a0, len, cap, rfl⟩ := Go.WideShapes.okWide_slice hu hval
 exact h.2 0 x _ rfl rfl
theorem heavy_of {ts : List TypeId} {ds : List (DataW H)} (hz : (DataW.weightsEach P ts ds).all (· ≤ reachBytes) = true) (j : Nat) {t : TypeId} {d : DataW H} (ht : ts[j]? = some t) (hd : ds[j]? = some d) : heavy P t d :=
 fun x hx => by simpa using List.all_eq_true.1 hz x (DataW.weights_mem_each ht hd x hx)
end
end Go.Ab

/-
  A table of functions by code, and of functions by what they do.
-/
namespace Go.Ab
def Tab.ofP (l : List (FuncId × AFn)) (p : List (FuncId × (List V → Nat → Stk → Option (V × Stk)))) : Tab := ⟨fun f => match l.lookup f with
 | some fn => some (.code fn)
 | none => (p.lookup f).map .prim⟩
theorem Tab.ofP_code {l : List (FuncId × AFn)} {p} {f : FuncId} {fn : AFn} (h : l.lookup f = some fn) : (Tab.ofP l p).fns f = some (.code fn) := by simp [Tab.ofP, h]
theorem Tab.ofP_prim {l : List (FuncId × AFn)} {p} {f : FuncId} {q} (h : l.lookup f = none) (h2 : p.lookup f = some q) : (Tab.ofP l p).fns f = some (.prim q) := by simp [Tab.ofP, h, h2]
def PrimOk (P : Program) (x : FuncId × (List V → Nat → Stk → Option (V × Stk))) : Prop := ∀ args lab s v s', x.2 args lab s = some (v, s') → Enters P x.1 ∧
 ∀ w γ us, LR s.length w γ args us → SR (KP P) s w γ → Calls P x.1 us.toArray w (CPost (KP P) s w γ v s')
theorem lookup_memP {α : Type} {l : List (FuncId × α)} {f : FuncId} {fn : α} (h : l.lookup f = some fn) : (f, fn) ∈ l := by
 induction l with
 | nil => simp at h
 | cons x r ih =>
   obtain ⟨k, y⟩ := x
   simp only [List.lookup_cons] at h
   split at h
   ·rename_i hk; simp at hk; subst hk; cases h; simp
   ·exact List.mem_cons_of_mem _ (ih h)
theorem Tab.ofP_ok {P : Program} {l : List (FuncId × AFn)} {p} (h : ∀ x ∈ l, Compiled P x) (h2 : ∀ x ∈ p, PrimOk P x) : TabOk P (Tab.ofP l p) where
 code := fun f fn hf => by
  simp only [Tab.ofP] at hf
  split at hf
  ·rename_i fn' h1
   cases hf
   exact h (f, fn) (lookup_memP h1)
  ·obtain ⟨_, _, h2⟩ := Option.map_eq_some_iff.1 hf
   cases h2
 prim := fun f q hf => by
  simp only [Tab.ofP] at hf
  split at hf
  ·cases hf
  ·obtain ⟨q', h1, h3⟩ := Option.map_eq_some_iff.1 hf
   cases h3
   exact h2 (f, q) (lookup_memP h1)
theorem den_prim {T : Tab} {f : FuncId} {q} (h : T.fns f = some (.prim q)) (args lab s) : den T f args lab s = q args lab s := by unfold den enter; rw [h]
end Go.Ab
