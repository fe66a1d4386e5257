/-
  'op_sound': what the evaluator says of an operation (but a call of a function), the model does.
-/
import Derived.Test.YtekgicoibcgecaaAb2
import Derived.LoopNIn
import Derived.RangeFuncLeaves
import Derived.RangeFuncIn
import Derived.RangeFuncRecord
set_option linter.unusedSimpArgs false
set_option linter.unusedVariables false
namespace Go.Ab

section
variable {K : KK} {P : Program} {s : Stk} {w : World} {γ : G} {e : Env} {a : Act}

theorem opdO_ok (hE : ER s.length w γ e a) {x : Option Operand} {y : Option Opd} (h : copdO x = some y) : OR s.length w γ (y.map (Opd.ev e)) (x.map a.eval) ∧ y.isSome = x.isSome := by
  cases x with
  | none => simp [copdO] at h; subst h; exact ⟨.inl ⟨rfl, rfl⟩, rfl⟩
  | some x =>
    simp only [copdO] at h
    obtain ⟨z, hz, rfl⟩ := Option.map_eq_some_iff.1 h
    exact ⟨.inr ⟨_, _, rfl, rfl, hE.opd hz⟩, rfl⟩

theorem lr_eval (xs : Array Operand) : (xs.map a.eval) = (xs.toList.map a.eval).toArray := by
  apply Array.ext'; simp

theorem copds_two {xs : List Operand} {x y : Opd} (h : copds xs = some [x, y]) : ∃ p q, xs = [p, q] ∧ copd p = some x ∧ copd q = some y := by
  match xs, h with
  | [], h => simp [copds] at h
  | [p], h =>
    simp only [copds] at h
    split at h
    · rename_i a b h1 h2; simp at h2; subst h2; cases h
    · cases h
  | p :: q :: r, h =>
    simp only [copds] at h
    split at h
    · rename_i a b h1 h2
      cases h
      split at h2
      · rename_i c d h3 h4
        cases h2
        cases r with
        | nil => exact ⟨p, q, rfl, h1, h3⟩
        | cons z r =>
          simp only [copds] at h4
          split at h4 <;> cases h4
      · cases h2
    · cases h

theorem op_sound (hS : SR K s w γ) (hE : ER s.length w γ e a) (hs : s ≠ []) {o : Oper} {ao : AOp} (h : compOp P o = some ao) {lab : Nat} {v : V} {f : Eff} (hv : aop ao lab e s = some (v, f)) :
    OpOk K s w γ ((execOp a.eval o).run P w) v f := by
  cases hop : o.op with
  | move x =>
    simp only [compOp, hop] at h
    obtain ⟨y, hy, rfl⟩ := Option.map_eq_some_iff.1 h
    simp only [aop] at hv; cases hv
    simp only [execOp, hop, Sem.run_pure]
    exact OpOk.val hS (hE.opdT hy)
  | assign x =>
    simp only [compOp, hop] at h
    obtain ⟨y, hy, rfl⟩ := Option.map_eq_some_iff.1 h
    simp only [aop] at hv; cases hv
    simp only [execOp, hop, Sem.run_pure]
    exact OpOk.val hS (hE.opdT hy)
  | pick c x y =>
    simp only [compOp, hop] at h
    split at h
    · rename_i c' x' y' h1 h2 h3
      cases h
      simp only [aop] at hv
      have hc := hE.opd h1
      split at hv
      · rename_i hb; rw [hb] at hc
        cases hv
        simp only [execOp, hop, hc.bool_inv, asBool, Sem.run_bind, Sem.run_pure, Result.andThen_ok, if_true]
        exact OpOk.val hS (hE.opd h2)
      · rename_i hb; rw [hb] at hc
        cases hv
        simp only [execOp, hop, hc.bool_inv, asBool, Sem.run_bind, Sem.run_pure, Result.andThen_ok, Bool.false_eq_true, if_false]
        exact OpOk.val hS (hE.opd h3)
      · cases hv
    · cases h
  | alloc t =>
    simp only [compOp, hop] at h
    obtain ⟨z, hz, rfl⟩ := Option.map_eq_some_iff.1 h
    simp only [aop] at hv
    split at hv
    · rename_i hc
      cases hv
      obtain ⟨i, zv, hi, hz', hl, hrun⟩ := zeroT_ok hz s.length w γ
      have := alloc_ok (K := K) hS hc.2 (lab := lab) (by simpa using hc.1) hl t
      simpa [execOp, hop, Instr.alloc, hrun, newVar, newRow] using this
    · cases hv
  | box t x =>
    simp only [compOp, hop] at h
    obtain ⟨y, hy, rfl⟩ := Option.map_eq_some_iff.1 h
    simp only [aop] at hv
    split at hv
    · rename_i hc
      cases hv
      have := alloc_ok (K := K) hS hc.2.2 (lab := lab) (by simpa using hc.2.1) ((hE.opdT hy).cells hc.1) t
      simpa [execOp, hop, Instr.box, newVar, newRow] using this
    · cases hv
  | build t ps =>
    simp only [compOp, hop] at h
    simp only [execOp, hop]
    exact build_ok hS hE h hv
  | buildSlice t len ps =>
    simp only [compOp, hop] at h
    simp only [execOp, hop]
    exact lit_ok hS hE h hv
  | load t x =>
    simp only [compOp, hop] at h
    split at h
    · rename_i n y hn hy
      cases h
      simp only [execOp, hop]
      exact load_sound hS hn hv (hE.opd hy)
    · cases h
  | store t x y =>
    simp only [compOp, hop] at h
    split at h
    · rename_i n x' y' hn hx hy
      cases h
      simp only [execOp, hop]
      exact store_sound hS hs hn hv (hE.opd hx) (hE.opdT hy)
    · cases h
  | nilCheck x =>
    simp only [compOp, hop] at h
    obtain ⟨y, hy, rfl⟩ := Option.map_eq_some_iff.1 h
    simp only [aop] at hv
    have hx := hE.opd hy
    simp only [execOp, hop]
    generalize y.ev e = z at hx hv
    generalize a.eval x = u at hx ⊢
    cases z <;> simp only [reduceCtorEq] at hv
    · cases hv
      cases hx with
      | ptr _ _ _ b hd hb => exact OpOk.val hS (.ptr _ _ _ b hd hb)
    · cases hv
      have hx' := hx
      cases hx with
      | ep _ b off _ _ _ _ => exact OpOk.val hS hx'
    · cases hv
      have hx' := hx
      cases hx with
      | fn _ _ _ us ws _ _ _ _ => exact OpOk.val hS hx'
    · cases hv
      cases hx with
      | yld _ _ b hd hb => exact OpOk.val hS (.yld _ _ b hd hb)
    · cases hv
      cases hx with
      | eptr _ _ _ _ b sz k hd hb => exact OpOk.val hS (.eptr _ _ _ _ b sz k hd hb)
  | binOp op t x y t2 =>
    simp only [compOp, hop] at h
    split at h
    · rename_i x' y' hx hy
      have ux := hE.opd hx
      have uy := hE.opd hy
      simp only [execOp, hop]
      have eqa : ∀ (ks : List Bool) (neg : Bool), plainT P t = some ks → (∃ fs, P.underlying t = some (.struct fs)) → (op = if neg then .neq else .eql) → aop (.eqa ks neg x' y') lab e s = some (v, f) →
          OpOk K s w γ ((do pure (Next.value (← (do eqGuard op t x y (a.eval x) (a.eval y); Go.binOp op t (a.eval x) (a.eval y)))) : Sem Next).run P w) v f := by
        intro ks neg hk hfs hop' hv
        simp only [aop] at hv
        split at hv
        · rename_i xs ys h1 h2
          obtain ⟨r, hr, hv⟩ := Option.map_eq_some_iff.1 hv
          cases hv
          rw [h1] at ux; rw [h2] at uy
          have := eqa_ok (P := P) hk hfs ux uy hr op (by rw [hop']; cases neg <;> simp) x y
          refine OpOk.of_run hS this ?_
          rw [hop']
          cases neg <;> exact .bool _
        · cases hv
      have eqb : ∀ (neg : Bool), P.underlying t = some .bool → (op = if neg then .neq else .eql) → aop (.eqb neg x' y') lab e s = some (v, f) →
          OpOk K s w γ ((do pure (Next.value (← (do eqGuard op t x y (a.eval x) (a.eval y); Go.binOp op t (a.eval x) (a.eval y)))) : Sem Next).run P w) v f := by
        intro neg hk hop' hv
        simp only [aop] at hv
        split at hv
        · rename_i p q h1 h2
          cases hv
          rw [h1] at ux; rw [h2] at uy
          rw [ux.bool_inv, uy.bool_inv, hop']
          cases neg
          · refine OpOk.of_run hS (u := .bool (p == q)) ?_ (.bool _)
            simp [eqGuard, Go.binOp, Op.equal, Op.maxDepth, run_equalIn_bool' w _ t p q hk]
          · refine OpOk.of_run hS (u := .bool (!(p == q))) ?_ (.bool _)
            simp [eqGuard, Go.binOp, Op.equal, Op.maxDepth, run_equalIn_bool' w _ t p q hk]
        · cases hv
      have ints : aop (.bin op x' y') lab e s = some (v, f) →
          OpOk K s w γ ((do pure (Next.value (← (do eqGuard op t x y (a.eval x) (a.eval y); Go.binOp op t (a.eval x) (a.eval y)))) : Sem Next).run P w) v f := by
        intro hv
        simp only [aop] at hv
        obtain ⟨v', h1, hv⟩ := Option.map_eq_some_iff.1 hv
        cases hv
        obtain ⟨u, h2, h3⟩ := bin_run (P := P) (t := t) ux uy h1 x y
        exact OpOk.of_run hS h2 h3
      split at h
      · rename_i fs hu
        obtain ⟨ks, hk, rfl⟩ := Option.map_eq_some_iff.1 h
        exact eqa ks false hk ⟨fs, hu⟩ rfl hv
      · rename_i fs hu
        obtain ⟨ks, hk, rfl⟩ := Option.map_eq_some_iff.1 h
        exact eqa ks true hk ⟨fs, hu⟩ rfl hv
      · cases h; exact ints hv
      · rename_i hu
        cases h
        exact eqb false hu rfl hv
      · rename_i hu
        cases h
        exact eqb true hu rfl hv
      · cases h
    · cases h
  | unOp op t x =>
    simp only [compOp, hop] at h
    obtain ⟨y, hy, rfl⟩ := Option.map_eq_some_iff.1 h
    simp only [aop] at hv
    obtain ⟨v', h1, hv⟩ := Option.map_eq_some_iff.1 hv
    cases hv
    obtain ⟨u, h2, h3⟩ := un_run (P := P) (hE.opd hy) h1
    simp only [execOp, hop]
    exact OpOk.of_run hS h2 h3
  | convert src dst x =>
    simp only [compOp, hop] at h
    split at h
    · rename_i k1 k2 y h1 h2 hy
      cases h
      simp only [aop] at hv
      have hx := hE.opd hy
      split at hv
      · rename_i k n he
        cases hv
        rw [he] at hx
        simp only [execOp, hop, hx.int_inv]
        refine OpOk.of_run hS (u := .int k2 (k2.wrap n)) ?_ (.int _ _)
        simp [convert, run_underlying h1, run_underlying h2, Conv.intToInt]
      · cases hv
    · cases h
  | makeFunc fn first cap =>
    cases fn with
    | func g =>
      simp only [compOp, hop] at h
      split at h
      · rename_i x y hx hy
        cases h
        simp only [aop] at hv; cases hv
        simp only [execOp, hop]
        refine OpOk.of_run hS (u := .func (.func g) (first.map a.eval) (cap.map a.eval)) rfl ?_
        rw [lr_eval first, lr_eval cap]
        exact VR.fn_mk (hE.opds hx) (hE.opds hy)
      · cases h
    | _ => simp [compOp, hop] at h
  | slice t x lo hi mx =>
    simp only [compOp, hop] at h
    split at h
    · rename_i el ht
      split at h
      · rename_i x' lo' hi' mx' z hx hlo hhi hmx hz
        split at h
        · cases h
        · rename_i hnb
          cases h
          simp only [aop] at hv
          split at hv
          · rename_i c z1 es he
            split at hv
            · rename_i hzc
              split at hv
              · cases hv
              · rename_i h' h1
                split at hv
                · cases hv
                · rename_i c' h2
                  split at hv
                  · cases hv
                  · rename_i l' h3
                    cases hv
                    have ux := hE.opd hx
                    rw [he] at ux
                    simp only [execOp, hop]
                    refine slice_sound hS ht hz ux (opdO_ok hE hlo).1 (opdO_ok hE hhi).1 (opdO_ok hE hmx).1 hzc h1 h2 h3 ?_
                    intro hm
                    have e1 := (opdO_ok hE hhi).2
                    have e2 := (opdO_ok hE hmx).2
                    cases mx' <;> cases hi' <;> simp_all
            · cases hv
          · cases hv
      · cases h
    · cases h
  | fieldAddr t x fl =>
    simp only [compOp, hop] at h
    split at h
    · rename_i fs ht
      split at h
      · rename_i fd y hf hy
        split at h
        · rename_i n hn
          split at h
          · cases h
          · rename_i hn0
            cases h
            simp only [aop] at hv
            have hx := hE.opd hy
            have hrun : ∀ (b off : Nat), (Instr.fieldAt t (.pointer (some ⟨b, off, none⟩)) fl).run P w = .ok (.pointer (some ⟨b, off + fd.offset, none⟩)) w := by
              intro b off
              simp [Instr.fieldAt, run_underlying ht, hf, Instr.sureAddr, fieldPlace, run_sizeOf' hn, hn0, Addr.add_lit]
            simp only [execOp, hop]
            generalize a.eval x = ux at hx ⊢
            split at hv
            · rename_i d l off he
              cases hv
              rw [he] at hx
              cases hx with
              | ptr _ _ _ b hd hb => exact OpOk.of_run hS (hrun b off) (.ptr _ _ _ b hd hb)
            · rename_i cs he
              cases hv
              rw [he] at hx
              have hx' := hx
              cases hx with
              | ep _ b off _ _ _ _ => exact OpOk.of_run hS (hrun b off) (ep_drop hx' _)
            · rename_i d l i j he
              cases hv
              rw [he] at hx
              cases hx with
              | eptr _ _ _ _ b sz k hd hb =>
                have := VR.eptr (D := s.length) (w := w) d l i (j + fd.offset) b sz k hd hb
                rw [← Nat.add_assoc] at this
                exact OpOk.of_run hS (hrun b (i * sz + j)) this
            · cases hv
        · cases h
      · cases h
    · cases h
  | field t x fl =>
    simp only [compOp, hop] at h
    split at h
    · rename_i fs ht
      split at h
      · rename_i fd y hf hy
        obtain ⟨n, hn, rfl⟩ := Option.map_eq_some_iff.1 h
        simp only [aop] at hv
        have hx := hE.opd hy
        split at hv
        · rename_i cs he
          obtain ⟨v', hp, hv⟩ := Option.map_eq_some_iff.1 hv
          cases hv
          rw [he] at hx
          obtain ⟨us, hu, hl⟩ := hx.agg_inv
          obtain ⟨u, h1, h2⟩ := part_ok (P := P) (w := w) hn hl hp
          simp only [execOp, hop, hu]
          refine OpOk.of_run hS ?_ h2
          simp [Instr.field, run_underlying ht, hf, asAgg]
          simpa using h1
        · cases hv
      · cases h
    · cases h
  | indexAddr t x i =>
    simp only [compOp, hop] at h
    split at h
    · rename_i el x' i' ht hx hi
      split at h
      · rename_i n hn
        split at h
        · cases h
        · rename_i hn0
          cases h
          simp only [aop] at hv
          have ux := hE.opd hx
          have ui := hE.opd hi
          split at hv
          · rename_i c z es k he hk
            split at hv
            · rename_i hc
              split at hv
              · rename_i cs hcs
                cases hv
                obtain ⟨hk0, rfl⟩ := hc
                rw [he] at ux
                obtain ⟨kk, hik⟩ := idx_inv ui hk
                obtain ⟨b, off, cap, hu, hlt, hep⟩ := sl_at ux hcs
                simp only [execOp, hop, hu, hik]
                refine OpOk.of_run hS ?_ hep
                have hlt' : k < (es.length : Int) := by omega
                simp [Instr.indexAt, run_underlying ht, asIntOf, run_sizeOf' hn, hk0, hlt', Addr.add_lit]
              · cases hv
            · cases hv
          · rename_i d l z len k he hk
            split at hv
            · rename_i hc
              cases hv
              obtain ⟨hk0, hk1, rfl⟩ := hc
              rw [he] at ux
              obtain ⟨kk, hik⟩ := idx_inv ui hk
              cases hux : a.eval x with
              | slice base ln cp =>
                rw [hux] at ux
                cases ux with
                | asl _ _ _ _ b k3 hd hb hle =>
                  simp only [execOp, hop, hux, hik]
                  have := VR.eptr (D := s.length) (w := w) d l k.toNat 0 b z _ hd hb
                  refine OpOk.of_run hS ?_ this
                  simp [Instr.indexAt, run_underlying ht, asIntOf, run_sizeOf' hn, hk0, hk1, Addr.add_lit]
                | aslnil _ _ _ base hd hb => omega
              | _ => rw [hux] at ux; cases ux
            · cases hv
          · cases hv
      · cases h
    · rename_i len el x' i' ht hx hi
      split at h
      · rename_i n hn
        split at h
        · cases h
        · rename_i hn0
          cases h
          simp only [aop] at hv
          have ux := hE.opd hx
          have ui := hE.opd hi
          have hrun : ∀ (b off : Nat) (kk : IntKind) (k : Int), 0 ≤ k → k < len → (Instr.indexAt t (.pointer (some ⟨b, off, none⟩)) (.int kk k)).run P w = .ok (.pointer (some ⟨b, off + k.toNat * n, none⟩)) w := by
            intro b off kk k h0 h1
            simp [Instr.indexAt, run_underlying ht, asIntOf, Instr.sureAddr, run_sizeOf' hn, h0, h1, Addr.add_lit]
          split at hv
          · rename_i d l off k he hk
            split at hv
            · rename_i hc
              cases hv
              rw [he] at ux
              obtain ⟨kk, hik⟩ := idx_inv ui hk
              cases hux : a.eval x with
              | pointer p =>
                rw [hux] at ux
                cases ux with
                | ptr _ _ _ b hd hb =>
                  simp only [execOp, hop, hux, hik]
                  exact OpOk.of_run hS (hrun b off kk k hc.1 hc.2) (.ptr _ _ _ b hd hb)
              | _ => rw [hux] at ux; cases ux
            · cases hv
          · rename_i cs k he hk
            split at hv
            · rename_i hc
              cases hv
              rw [he] at ux
              obtain ⟨kk, hik⟩ := idx_inv ui hk
              obtain ⟨b, off, us, hux, _⟩ := ux.ep_inv
              rw [hux] at ux
              simp only [execOp, hop, hux, hik]
              exact OpOk.of_run hS (hrun b off kk k hc.1 hc.2) (ep_drop ux _)
            · cases hv
          · rename_i d l k0 j k he hk
            split at hv
            · rename_i hc
              cases hv
              rw [he] at ux
              obtain ⟨kk, hik⟩ := idx_inv ui hk
              cases hux : a.eval x with
              | pointer p =>
                rw [hux] at ux
                cases ux with
                | eptr _ _ _ _ b sz k' hd hb =>
                  simp only [execOp, hop, hux, hik]
                  have := VR.eptr (D := s.length) (w := w) d l k0 (j + k.toNat * n) b sz k' hd hb
                  rw [← Nat.add_assoc] at this
                  exact OpOk.of_run hS (hrun b _ kk k hc.1 hc.2) this
              | _ => rw [hux] at ux; cases ux
            · cases hv
          · cases hv
      · cases h
    · cases h
  | index t x i =>
    simp only [compOp, hop] at h
    split at h
    · rename_i len el x' i' ht hx hi
      split at h
      · rename_i n m hn hm
        split at h
        · cases h
        · rename_i hn0
          cases h
          simp only [aop] at hv
          have ux := hE.opd hx
          have ui := hE.opd hi
          split at hv
          · rename_i cs k he hk
            split at hv
            · rename_i hc
              obtain ⟨v', hp, hv⟩ := Option.map_eq_some_iff.1 hv
              cases hv
              rw [he] at ux
              obtain ⟨kk, hik⟩ := idx_inv ui hk
              obtain ⟨us, hux, hl⟩ := ux.agg_inv
              obtain ⟨u, h1, h2⟩ := part_ok (P := P) (w := w) hm hl hp
              simp only [execOp, hop, hux, hik]
              refine OpOk.of_run hS ?_ h2
              simp [Instr.index, run_underlying ht, asIntOf, run_sizeOf' hn, hc.1, hc.2]
              simpa using h1
            · cases hv
          · cases hv
      · cases h
    · cases h
  | extract x i =>
    simp only [compOp, hop] at h
    obtain ⟨y, hy, rfl⟩ := Option.map_eq_some_iff.1 h
    simp only [aop] at hv
    have hx := hE.opd hy
    split at hv
    · rename_i vs he
      obtain ⟨x', hp, hv⟩ := Option.map_eq_some_iff.1 hv
      cases hv
      rw [he] at hx
      obtain ⟨us, hu, hl⟩ := hx.tup_inv
      have hlt : i < us.size := by have := (List.getElem?_eq_some_iff.1 hp).1; rw [hl.1] at this; simpa using this
      simp only [execOp, hop, hu]
      refine OpOk.of_run hS (u := us[i]) ?_ (hl.2 i _ us[i] hp (by simp [hlt]))
      simp [Instr.extract, hlt]
    · cases hv
  | makeSlice t l c =>
    simp only [compOp, hop] at h
    split at h
    · rename_i el ht
      split at h
      · rename_i z i l' c' hz hi hl hc
        split at h
        · rename_i hcond
          cases h
          simp only [aop] at hv
          split at hv
          · rename_i n k h1 h2
            split at hv
            · rename_i hq
              cases hv
              obtain ⟨q1, q2, q3, q4, q5, q6⟩ := hq
              subst q2
              obtain ⟨k1, e1⟩ := idx_inv (hE.opd hl) h1
              obtain ⟨k2, e2⟩ := idx_inv (hE.opd hc) h2
              obtain ⟨u, w', γ', r1, r2, r3, r4⟩ := mksl_ok (K := K) hS q6 (lab := lab) (by simpa using q5) ht hz hi hcond.1 hcond.2 q1 q3 q4 k1 k2
              refine ⟨u, w', γ', .inl ?_, r2, r3, r4⟩
              simp [execOp, hop, e1, e2, r1]
            · cases hv
          · cases hv
        · cases h
      · cases h
    · cases h
  | call c =>
    obtain ⟨callee, args, argTypes⟩ := c
    have arr : ∀ {α : Type} {xs : Array α} {l : List α}, xs.toList = l → xs = l.toArray := fun h => by rw [← h]
    cases callee with
    | value g =>
      exfalso
      cases g with
      | func f =>
        simp only [compOp, hop] at h
        obtain ⟨y, hy, rfl⟩ := Option.map_eq_some_iff.1 h
        cases hv
      | tmp t =>
        simp only [compOp, hop] at h
        split at h
        · cases h; cases hv
        · cases h
      | const c =>
        simp only [compOp, hop] at h
        split at h
        · cases h; cases hv
        · cases h
      | global g =>
        simp only [compOp, hop] at h
        split at h
        · cases h; cases hv
        · cases h
    | invoke r m => simp [compOp, hop] at h
    | builtin b =>
      cases b with
      | len =>
        simp only [compOp, hop] at h
        split at h
        · rename_i t x ha hb
          have ea := arr ha
          have eb := arr hb
          subst ea; subst eb
          split at h
          · rename_i el y ht hy
            cases h
            simp only [aop] at hv
            have hx := hE.opd hy
            split at hv
            · rename_i c z es he
              cases hv
              rw [he] at hx
              rcases hx.sl_inv with ⟨base, cap, hu, rfl, _⟩ | ⟨b, off, cap, us, hu, _⟩
              · refine ⟨.int .i64 0, w, γ, .inl ?_, .int _ _, hS, Ext.refl _ _ _⟩
                simp [execOp, hop, resolve, invoke, builtin, Builtin.len_, run_underlying ht, hu, goInt]
              · refine ⟨.int .i64 es.length, w, γ, .inl ?_, .int _ _, hS, Ext.refl _ _ _⟩
                simp [execOp, hop, resolve, invoke, builtin, Builtin.len_, run_underlying ht, hu, goInt]
            · rename_i d l z n he
              cases hv
              rw [he] at hx
              generalize hux : a.eval x = u at hx
              cases hx with
              | asl _ _ _ _ b k hd hb hle =>
                refine ⟨.int .i64 n, w, γ, .inl ?_, .int _ _, hS, Ext.refl _ _ _⟩
                simp [execOp, hop, resolve, invoke, builtin, Builtin.len_, run_underlying ht, hux, goInt]
              | aslnil _ _ _ base hd hb =>
                refine ⟨.int .i64 0, w, γ, .inl ?_, .int _ _, hS, Ext.refl _ _ _⟩
                simp [execOp, hop, resolve, invoke, builtin, Builtin.len_, run_underlying ht, hux, goInt]
            · cases hv
          · rename_i n el y ht hy
            cases h
            simp only [aop, Opd.ev] at hv; cases hv
            refine ⟨.int .i64 n, w, γ, .inl ?_, .int _ _, hS, Ext.refl _ _ _⟩
            simp [execOp, hop, resolve, invoke, builtin, Builtin.len_, run_underlying ht, goInt]
          · cases h
        · cases h
      | append =>
        simp only [compOp, hop] at h
        split at h
        · rename_i t u x y ha hb
          have ea := arr ha
          have eb := arr hb
          subst ea; subst eb
          split at h
          · rename_i el el' x' y' ht hu hx hy
            split at h
            · rename_i i hi
              split at h
              · rename_i z hz
                split at h
                · rename_i hc
                  obtain ⟨h0, hzs, rfl⟩ := hc
                  cases h
                  simp only [aop] at hv
                  have ux := hE.opd hx
                  have uy := hE.opd hy
                  split at hv
                  · rename_i c z1 es c2 z2 fs hex hey
                    split at hv
                    · rename_i hc2
                      rw [hex] at ux; rw [hey] at uy
                      obtain ⟨u, w', γ', h1, h2, h3, h4⟩ := append_ok (P := P) hS o.type ht hi hz h0 hzs hc2.2.2.1 hc2.2.2.2 hc2.1 hc2.2.1 hv ux uy
                      refine ⟨u, w', γ', .inl ?_, h2, h3, h4⟩
                      simp [execOp, hop, resolve, invoke, builtin, h1]
                    · cases hv
                  · cases hv
                · cases h
              · cases h
            · cases h
          · cases h
        · cases h
      | max =>
        simp only [compOp, hop] at h
        split at h
        · rename_i x y hc
          cases h
          obtain ⟨p, q, hl, hp, hq⟩ := copds_two hc
          have eb := arr hl
          subst eb
          simp only [aop] at hv
          have ux := hE.opd hp
          have uy := hE.opd hq
          split at hv
          · rename_i k a1 k' b1 h1 h2
            split at hv
            · rename_i hk
              cases hv
              subst hk
              rw [h1] at ux; rw [h2] at uy
              refine ⟨.int k (if b1 > a1 then b1 else a1), w, γ, .inl ?_, .int _ _, hS, Ext.refl _ _ _⟩
              simp [execOp, hop, resolve, invoke, builtin, ux.int_inv, uy.int_inv, Builtin.max_, Builtin.max2]
            · cases hv
          · cases hv
        · cases h
      | min =>
        simp only [compOp, hop] at h
        split at h
        · rename_i x y hc
          cases h
          obtain ⟨p, q, hl, hp, hq⟩ := copds_two hc
          have eb := arr hl
          subst eb
          simp only [aop] at hv
          have ux := hE.opd hp
          have uy := hE.opd hq
          split at hv
          · rename_i k a1 k' b1 h1 h2
            split at hv
            · rename_i hk
              cases hv
              subst hk
              rw [h1] at ux; rw [h2] at uy
              refine ⟨.int k (if b1 < a1 then b1 else a1), w, γ, .inl ?_, .int _ _, hS, Ext.refl _ _ _⟩
              simp [execOp, hop, resolve, invoke, builtin, ux.int_inv, uy.int_inv, Builtin.min_, Builtin.min2]
            · cases hv
          · cases hv
        · cases h
      | _ => simp [compOp, hop] at h
  | _ => simp [compOp, hop] at h

/-- the elements of an array, as a list of cells in memory -/
theorem arr_read (hS : SR K s w γ) {d l : Nat} {u : Value} {z n : Nat} (h : VR s.length w γ (.asl d l z n) u) {z' : Nat} {es : List (List V)} (hg : sget s d l = some (.arr z' es)) (hn : n ≤ es.length) :
    ((u = .slice none 0 0 ∨ ∃ a c, u = .slice (some a) 0 c) ∧ (es.map V.stripAll).take n = []) ∨
    ∃ b off cap us, u = .slice (some ⟨b, off, none⟩) ((es.map V.stripAll).take n).length cap ∧ (∀ cs, cs ∈ (es.map V.stripAll).take n → cs.length = z) ∧ LR s.length w γ ((es.map V.stripAll).take n).flatten us ∧ RD w b off us := by
  obtain ⟨blk, h1, h0, h2⟩ := hS.ent d l _ hg
  cases h with
  | aslnil _ _ _ base hd hb =>
    refine .inl ⟨?_, by simp⟩
    cases base with
    | none => exact .inl rfl
    | some a => exact .inr ⟨_, _, rfl⟩
  | asl _ _ _ _ b k hd hb hle =>
    rw [hb] at h1; cases h1
    obtain ⟨rfl, c, e, h3, h4, h5, h6, h7, h8⟩ := h2
    have hsl : ∀ (vs : List V), (V.stripAll vs).length = vs.length := by
      intro vs
      induction vs with
      | nil => rfl
      | cons x r ih => simp [V.stripAll, ih]
    have hz : ∀ cs, cs ∈ (es.map V.stripAll).take n → cs.length = z := by
      intro cs hc
      obtain ⟨x, hx, rfl⟩ := List.mem_map.1 (List.mem_of_mem_take hc)
      rw [hsl]; exact h0 x hx
    have hlen : ((es.map V.stripAll).take n).length = n := by simp; omega
    have hfl := flatten_len _ hz
    rw [hlen] at hfl
    have hsize : n * z ≤ c.size := by rw [h5]; exact Nat.mul_le_mul_right _ hle
    refine .inr ⟨b, 0, k, c.toList.take (n * z), by rw [hlen], hz, ⟨by rw [hfl]; simp; omega, fun x v u hv hu => ?_⟩, ?_⟩
    · have hx : x < n * z := by rw [← hfl]; exact (List.getElem?_eq_some_iff.1 hv).1
      rw [List.getElem?_take, if_pos hx] at hu
      have hx' : x = x / z * z + x % z := by rw [Nat.mul_comm, Nat.div_add_mod]
      have hm := Nat.mod_lt x h6
      rw [hx'] at hv hu
      rw [flatten_get _ hz _ _ hm] at hv
      obtain ⟨cs, k1, k2⟩ := Option.bind_eq_some_iff.1 hv
      rw [List.getElem?_take] at k1
      split at k1
      · rw [List.getElem?_map] at k1
        obtain ⟨cs0, k3, rfl⟩ := Option.map_eq_some_iff.1 k1
        have hl0 : LR (d + 1) w γ cs0 ((c.toList.drop (x / z * z)).take z) := by
          have hlt : x / z < es.length := (List.getElem?_eq_some_iff.1 k3).1
          have hfit : x / z * z + z ≤ c.size := by
            rw [h5]
            calc x / z * z + z = (x / z + 1) * z := by rw [Nat.add_mul]; omega
              _ ≤ k * z := Nat.mul_le_mul_right _ (by omega)
          refine ⟨by rw [h0 cs0 (List.mem_of_getElem? k3)]; simp; omega, fun j v u hv hu => ?_⟩
          rw [List.getElem?_take] at hu
          split at hu
          · rw [List.getElem?_drop] at hu
            exact h8 _ cs0 j v u k3 hv (by simpa using hu)
          · cases hu
        have hl1 := (LR.strip' _ _ hl0).mono (show d + 1 ≤ s.length by omega)
        refine hl1.2 (x % z) v u k2 ?_
        rw [List.getElem?_take, if_pos hm, List.getElem?_drop]
        exact hu
      · cases k1
    · intro j u hu
      rw [List.getElem?_take] at hu
      split at hu
      · rw [Nat.zero_add, cell_of_row w b j c e (0, 0) h3]
        simpa using hu
      · cases hu

theorem op_soundM (hS : SR K s w γ) (hE : ER s.length w γ e a) (hs : s ≠ []) {o : Oper} {m : Bool} {ao : AOp} (h : compOpM P m o = some ao) {lab : Nat} {v : V} {f : Eff} (hv : aop ao lab e s = some (v, f)) :
    OpOk K s w γ ((execOp a.eval o).run P w) v f := by
  unfold compOpM at h
  split at h
  · obtain ⟨ao0, h0, h2⟩ := Option.map_eq_some_iff.1 h
    clear h
    have h := h0
    clear h0
    subst h2
    cases ao0 with
    | app esz bytes x0 y0 =>
      simp only [AOp.mut] at hv
      -- the builtin
      cases hop : o.op with
      | call c =>
        obtain ⟨callee, args, argTypes⟩ := c
        have arr : ∀ {α : Type} {xs : Array α} {l : List α}, xs.toList = l → xs = l.toArray := fun h => by rw [← h]
        cases callee with
        | builtin b =>
          cases b with
          | append =>
            simp only [compOp, hop] at h
            split at h
            · rename_i t u x y ha hb
              have ea := arr ha
              have eb := arr hb
              subst ea; subst eb
              split at h
              · rename_i el el' x' y' ht hu hx hy
                split at h
                · rename_i i hi
                  split at h
                  · rename_i z hz
                    split at h
                    · rename_i hc
                      obtain ⟨h0, hzs, rfl⟩ := hc
                      cases h
                      simp only [aop] at hv
                      have ux := hE.opd hx
                      have uy := hE.opd hy
                      split at hv
                      · rename_i z1 hex
                        rw [hex] at ux
                        split at hv
                        · rename_i fs hfs
                          split at hv
                          · rename_i hc2
                            cases hv
                            obtain ⟨c1, c2, c3, c4, c5⟩ := hc2
                            have hY : ((a.eval y = .slice none 0 0 ∨ ∃ p c, a.eval y = .slice (some p) 0 c) ∧ fs = []) ∨ ∃ b off cap us, a.eval y = .slice (some ⟨b, off, none⟩) fs.length cap ∧ (∀ cs, cs ∈ fs → cs.length = i.size) ∧ LR s.length w γ fs.flatten us ∧ RD w b off us := by
                              split at hfs
                              · rename_i c z2 gs hey
                                rw [hey] at uy
                                split at hfs
                                · rename_i hz2
                                  cases hfs
                                  rcases uy.sl_inv with ⟨base, cap, e0, rfl, _, hb0⟩ | ⟨b, off, cap, us, e0, q1, q2, _, _, q3, q4, _⟩
                                  · refine .inl ⟨?_, rfl⟩
                                    cases base with
                                    | none => have := hb0 rfl; subst this; exact .inl e0
                                    | some a => exact .inr ⟨_, _, e0⟩
                                  · by_cases hf : fs = []
                                    · subst hf
                                      exact .inl ⟨.inr ⟨_, _, e0⟩, rfl⟩
                                    · refine .inr ⟨b, off, cap, us, e0, ?_, q3, q4⟩
                                      rw [← hz2.resolve_right hf]; exact q1
                                · cases hfs
                              · rename_i d l z2 n hey
                                rw [hey] at uy
                                split at hfs
                                · rename_i z3 gs hg
                                  split at hfs
                                  · rename_i hz2
                                    cases hfs
                                    obtain ⟨rfl, hn⟩ := hz2
                                    exact arr_read hS uy hg hn
                                  · cases hfs
                                · cases hfs
                              · cases hfs
                            obtain ⟨u, w', γ', h1, h2, h3, h4⟩ := appm_ok (P := P) hS c5 (by simpa using c4) o.type ht hi hz h0 hzs c1 c2 ux hY
                            refine ⟨u, w', γ', .inl ?_, h2, h3, h4⟩
                            simp [execOp, hop, resolve, invoke, builtin, h1]
                          · cases hv
                        · cases hv
                      · cases hv
                    · cases h
                  · cases h
                · cases h
              · cases h
            · cases h
          | _ =>
            exfalso
            simp only [compOp, hop, reduceCtorEq] at h
            repeat' (split at h)
            all_goals (cases h; done)
        | value g =>
          exfalso
          cases g with
          | func f =>
            simp only [compOp, hop] at h
            obtain ⟨y, hy, h⟩ := Option.map_eq_some_iff.1 h
            cases h
          | tmp t =>
            simp only [compOp, hop] at h
            split at h <;> cases h
          | const c =>
            simp only [compOp, hop] at h
            split at h <;> cases h
          | global g =>
            simp only [compOp, hop] at h
            split at h <;> cases h
        | invoke r m => simp [compOp, hop] at h
      | _ =>
        exfalso
        simp only [compOp, hop, reduceCtorEq] at h
        all_goals first
          | (obtain ⟨_, _, h⟩ := Option.map_eq_some_iff.1 h; cases h; done)
          | (repeat' (split at h)
             all_goals first | contradiction | (cases h; done) | (obtain ⟨_, _, h⟩ := Option.map_eq_some_iff.1 h; cases h; done))
    | _ => exact op_sound hS hE hs h (by simpa only [AOp.mut] using hv)
  · exact op_sound hS hE hs h hv
end
end Go.Ab

/-
  Regions in the order of the text.
-/
namespace Go.Ab

/-- fences that keep nothing out -/
def Wide (F : Fence) : Prop := F = Fence.wide ∨ ∃ l, F = Fence.wide.inRound l

theorem Wide.fn {F : Fence} (h : Wide F) (f : FuncId) : F.fn f := by rcases h with rfl | ⟨l, rfl⟩ <;> trivial
theorem Wide.depth {F : Fence} (h : Wide F) : F.depth = none := by rcases h with rfl | ⟨l, rfl⟩ <;> rfl
theorem Wide.calls {F : Fence} (h : Wide F) {n : Nat} {P : Program} {f : FuncId} {args : Array Value} {w : World} {R : Ending → World → Prop} (hc : Calls P f args w R) : CallsIn F n P f args w R := by
  rcases h with rfl | ⟨l, rfl⟩
  · exact callsIn_wide.2 hc
  · exact (callsIn_wide.2 hc : CallsIn Fence.wide n P f args w R)

theorem roundIn_wide {F : Fence} (h : Wide F) {n m : Nat} {P : Program} {l : Nat} {f : FuncId} {tmps : Array Value} {assign body : Code} {w : World} {R : Ending → World → Prop} (hc : RoundIn Fence.wide m P l f tmps assign body w R) : RoundIn F n P l f tmps assign body w R := by
  obtain ⟨_, h2⟩ := hc
  refine ⟨h.fn f, fun c cs _ => ?_⟩
  obtain ⟨e, w', h3, h4⟩ := h2 c cs (room_wide _)
  refine ⟨e, w', h3, ?_⟩
  rcases h with rfl | ⟨l', rfl⟩
  · exact h4
  · exact h4

section
variable (K : KK) (P : Program)

/-- what is asked of a call's end -/
def CPost (s : Stk) (w : World) (γ : G) (v : V) (s' : Stk) : Ending → World → Prop := fun en w' =>
  ∃ u γ', en = .returned u ∧ VR s'.length w' γ' v u ∧ SR K s' w' γ' ∧ Ext s.length w γ w' γ' ∧ s'.length = s.length

def Enters (f : FuncId) : Prop := ∀ args w, (callFunc f args).run P w = .ok (.enter f args) w

/-- calls of functions by name are as the evaluator says -/
def StatOk (T : Tab) (X : Exec) : Prop := ∀ f args lab s v s', enter T X f args lab s = some (v, s') → Enters P f ∧
  ∀ w γ us, LR s.length w γ args us → SR K s w γ → Calls P f us.toArray w (CPost K s w γ v s')

/-- calls of yield -/
def YldOk (T : Tab) (X : Exec) : Prop := ∀ d l args lab s v s', enterV T X (.yld d l) args lab s = some (v, s') →
  ∀ w γ b us, γ d l = some (.obj b) → LR s.length w γ args us → SR K s w γ → ∃ f tmps assign body, (Instr.yield b us.toArray).run P w = .ok (.round b f tmps assign body) w ∧
    RoundIn Fence.wide 0 P b f tmps assign body w (CPost K s w γ v s')
end

section
variable {K : KK} {P : Program} {T : Tab} {X : Exec} {s : Stk} {w : World} {γ : G} {e : Env} {a : Act}

theorem compOp_not_defer {o : Oper} {ao : AOp} (h : compOp P o = some ao) : ∀ c, o.op ≠ .defer c := by
  intro c hc
  simp [compOp, hc] at h

theorem comp_call {o : Oper} {f : FuncId} {args : List Opd} (h : compOp P o = some (.call f args)) : ∃ cargs argTypes, o.op = .call ⟨.value (.func f), cargs, argTypes⟩ ∧ copdsT P argTypes.toList cargs.toList = some args := by
  cases hop : o.op with
  | call c =>
    obtain ⟨callee, cargs, argTypes⟩ := c
    cases callee with
    | value g =>
      cases g with
      | func g =>
        simp only [compOp, hop] at h
        obtain ⟨ys, hys, h⟩ := Option.map_eq_some_iff.1 h
        cases h
        exact ⟨cargs, argTypes, rfl, hys⟩
      | tmp t =>
        simp only [compOp, hop] at h
        split at h <;> cases h
      | const c =>
        simp only [compOp, hop] at h
        split at h <;> cases h
      | global g =>
        simp only [compOp, hop] at h
        split at h <;> cases h
    | invoke r m => simp [compOp, hop] at h
    | builtin b =>
      exfalso
      cases b <;> simp only [compOp, hop, reduceCtorEq] at h
      all_goals
        repeat' (split at h)
      all_goals first | (cases h; done)
  | _ =>
    exfalso
    simp only [compOp, hop, reduceCtorEq] at h
    all_goals first
      | (obtain ⟨_, _, h⟩ := Option.map_eq_some_iff.1 h; cases h; done)
      | (repeat' (split at h)
         all_goals first | contradiction | (cases h; done) | (obtain ⟨_, _, h⟩ := Option.map_eq_some_iff.1 h; cases h; done))

theorem comp_callv {o : Oper} {x : Opd} {args : List Opd} (h : compOp P o = some (.callv x args)) : ∃ g cargs argTypes, o.op = .call ⟨.value g, cargs, argTypes⟩ ∧ copd g = some x ∧ copdsT P argTypes.toList cargs.toList = some args := by
  cases hop : o.op with
  | call c =>
    obtain ⟨callee, cargs, argTypes⟩ := c
    cases callee with
    | value g =>
      cases g with
      | func g =>
        simp only [compOp, hop] at h
        obtain ⟨ys, hys, h⟩ := Option.map_eq_some_iff.1 h
        cases h
      | tmp t =>
        simp only [compOp, hop] at h
        split at h
        · rename_i h1 h2; cases h; exact ⟨_, cargs, argTypes, rfl, h1, h2⟩
        · cases h
      | const c =>
        simp only [compOp, hop] at h
        split at h
        · rename_i h1 h2; cases h; exact ⟨_, cargs, argTypes, rfl, h1, h2⟩
        · cases h
      | global g =>
        simp only [compOp, hop] at h
        split at h
        · rename_i h1 h2; cases h; exact ⟨_, cargs, argTypes, rfl, h1, h2⟩
        · cases h
    | invoke r m => simp [compOp, hop] at h
    | builtin b =>
      exfalso
      cases b <;> simp only [compOp, hop, reduceCtorEq] at h
      all_goals
        repeat' (split at h)
      all_goals first | (cases h; done)
  | _ =>
    exfalso
    simp only [compOp, hop, reduceCtorEq] at h
    all_goals first
      | (obtain ⟨_, _, h⟩ := Option.map_eq_some_iff.1 h; cases h; done)
      | (repeat' (split at h)
         all_goals first | contradiction | (cases h; done) | (obtain ⟨_, _, h⟩ := Option.map_eq_some_iff.1 h; cases h; done))

theorem compOpM_call {m : Bool} {o : Oper} {f : FuncId} {args : List Opd} (h : compOpM P m o = some (.call f args)) : compOp P o = some (.call f args) := by
  unfold compOpM at h
  split at h
  · obtain ⟨a0, h0, h1⟩ := Option.map_eq_some_iff.1 h
    cases a0 <;> simp only [AOp.mut, reduceCtorEq] at h1
    rw [h0, ← h1]
  · exact h
theorem compOpM_callv {m : Bool} {o : Oper} {x : Opd} {args : List Opd} (h : compOpM P m o = some (.callv x args)) : compOp P o = some (.callv x args) := by
  unfold compOpM at h
  split at h
  · obtain ⟨a0, h0, h1⟩ := Option.map_eq_some_iff.1 h
    cases a0 <;> simp only [AOp.mut, reduceCtorEq] at h1
    rw [h0, ← h1]
  · exact h
theorem compOpM_not_defer {m : Bool} {o : Oper} {ao : AOp} (h : compOpM P m o = some ao) : ∀ c, o.op ≠ .defer c := by
  unfold compOpM at h
  split at h
  · obtain ⟨a0, h0, h1⟩ := Option.map_eq_some_iff.1 h
    exact compOp_not_defer h0
  · exact compOp_not_defer h

/-- one operation, whatever -/
theorem op1_sound (hst : StatOk K P T X) (hyl : YldOk K P T X) {F : Fence} (hF : Wide F) {n : Nat} (hS : SR K s w γ) (hE : ER s.length w γ e a) (hs : s ≠ []) {o : Oper} {ao : AOper} {m : Bool} (h : compOpM P m o = some ao.op)
    {v : V} {s' : Stk} (hv : op1 T X ao e s = some (v, s')) {next : Act → World → Prop} {Q : Exit → Act → World → Prop}
    (hnext : ∀ u w' γ', VR s'.length w' γ' v u → SR K s' w' γ' → Ext s.length w γ w' γ' → s'.length = s.length → next (a.put o.dst u) w') : o.wpIn F n P a w next Q := by
  have hfn := hF.fn
  refine ⟨fun f _ => hfn f, ?_⟩
  rw [Oper.semAt_eq _ _ _ (compOpM_not_defer h)]
  have hd : F.depth.isSome = true → 1 ≤ n := fun hx => by rw [hF.depth] at hx; cases hx
  -- a call that is entered
  have entered : ∀ (f : FuncId) (vs : List V) (us : Array Value), enter T X f vs (16 * ao.dst.getD 0) s = some (v, s') → LR s.length w γ vs us.toList →
      ∀ (r : Result Next), (∀ w', (callFunc f us).run P w = .ok (.enter f us) w' → r = .ok (.enter f us) w') → o.uponIn F n P a next Q r := by
    intro f vs us hen hl r hr
    obtain ⟨h1, h2⟩ := hst f vs _ s v s' hen
    rw [hr w (h1 us w), Oper.uponIn_enter]
    refine ⟨hd, (hF.calls (by simpa using h2 w γ us.toList hl hS)).mono ?_⟩
    rintro en w' ⟨u, γ', rfl, k1, k2, k3, k4⟩
    exact hnext u w' γ' k1 k2 k3 k4
  unfold op1 at hv
  dsimp only at hv
  split at hv
  · -- by name
    rename_i f args hc
    have hao : ao.op = .call f args := by
      cases hx : ao.op <;> rw [hx] at hc <;> simp [AOp.callOf] at hc
      obtain ⟨rfl, rfl⟩ := hc; rfl
    rw [hao] at h
    obtain ⟨cargs, argTypes, hop, hys⟩ := comp_call (compOpM_call h)
    have hl := LR.strip' _ _ (hE.opdsT hys)
    refine entered f _ (cargs.map a.eval) hv (by simpa using hl) _ ?_
    intro w' hr
    simp only [execOp, hop, resolve, Act.eval, Deferred.ofValue, Sem.run_bind, Sem.run_pure, Result.andThen_ok, invoke]
    simpa [Act.eval] using hr
  · -- a value
    rename_i x args hc
    have hao : ao.op = .callv x args := by
      cases hx : ao.op <;> rw [hx] at hc <;> simp [AOp.callOf] at hc
      obtain ⟨rfl, rfl⟩ := hc; rfl
    rw [hao] at h
    obtain ⟨g, cargs, argTypes, hop, hg, hys⟩ := comp_callv (compOpM_callv h)
    have hl := LR.strip' _ _ (hE.opdsT hys)
    have hx := hE.opd hg
    generalize hxe : x.ev e = xv at hx hv
    cases xv with
    | fn f first cap =>
      simp only [enterV] at hv
      cases hx' : a.eval g with
      | func fn us ws =>
        rw [hx'] at hx
        cases hx with
        | fn _ _ _ _ _ h1 h2 k1 k2 =>
          have l1 : LR s.length w γ first us.toList := ⟨by simpa using h1, fun i v u hv hu => k1 i v u hv (by simpa using hu)⟩
          have l2 : LR s.length w γ cap ws.toList := ⟨by simpa using h2, fun i v u hv hu => k2 i v u hv (by simpa using hu)⟩
          refine entered f _ (us ++ cargs.map a.eval ++ ws) hv (by simpa using (l1.append hl).append l2) _ ?_
          intro w' hr
          simp only [execOp, hop, resolve, hx', Deferred.ofValue, Sem.run_bind, Sem.run_pure, Result.andThen_ok, invoke]
          exact hr
      | _ => rw [hx'] at hx; cases hx
    | yld d l =>
      cases hx' : a.eval g with
      | func fn us ws =>
        rw [hx'] at hx
        cases hx with
        | yld _ _ b hd' hb =>
          obtain ⟨f, tmps, assign, body, h1, h2⟩ := hyl d l _ _ s v s' hv w γ b _ hb hl hS
          have hr : (execOp a.eval o).run P w = .ok (.round b f tmps assign body) w := by
            simp only [execOp, hop, resolve, hx', Deferred.ofValue, Sem.run_bind, Sem.run_pure, Result.andThen_ok, invoke]
            have e1 : (#[] ++ cargs.map a.eval : Array Value) = (cargs.toList.map a.eval).toArray := by apply Array.ext'; simp
            rw [e1]
            exact h1
          rw [hr, Oper.uponIn_round]
          refine ⟨hd, (roundIn_wide hF h2).mono ?_⟩
          rintro en w' ⟨u, γ', rfl, k1, k2, k3, k4⟩
          exact hnext u w' γ' k1 k2 k3 k4
      | _ => rw [hx'] at hx; cases hx
    | _ => simp [enterV] at hv
  · -- any other
    split at hv
    · rename_i v1 f1 hop
      cases hv
      obtain ⟨u, w', γ', hr, k1, k2, k3⟩ := op_soundM hS hE hs h hop
      have hlen : (seff s f1).length = s.length := by
        cases f1 with
        | none => rfl
        | some x => obtain ⟨d, l, y⟩ := x; simp [seff]
      rw [← hlen] at k1
      rcases hr with hr | ⟨hr, rfl⟩
      · rw [hr]; exact hnext u w' γ' k1 k2 k3 hlen
      · rw [hr]; exact hnext undef w' γ' k1 k2 k3 hlen
    · cases hv

/-- what is asked of a state behind -/
structure St (K : KK) (N : Nat) (D : Nat) (w : World) (γ : G) (e : Env) (s : Stk) (a : Act) (w' : World) (γ' : G) : Prop where
  size : a.tmps.size = N
  env : ER s.length w' γ' e a
  stk : SR K s w' γ'
  ext : Ext D w γ w' γ'

theorem ER.only {D : Nat} {w : World} {γ : G} {e : Env} {a : Act} (h : ER D w γ e a) (live : List Nat) : ER D w γ (e.only live) a := by
  intro t
  have : ∀ (l : List Nat), (Env.get (l.map fun t => (t, e.get t)) t) = e.get t ∨ (Env.get (l.map fun t => (t, e.get t)) t) = .undef := by
    intro l
    induction l with
    | nil => exact .inr rfl
    | cons x r ih =>
      simp only [List.map_cons, Env.get]
      split
      · rename_i hx; subst hx; exact .inl rfl
      · exact ih
  rcases this live with h1 | h1
  · unfold Env.only; rw [h1]; exact h t
  · unfold Env.only; rw [h1]; exact .undef _

theorem yielded_of {ops : Array Oper} {g slot : Nat} (h : (ops[g]?).bind (·.dst) = some slot) {D : Nat} (hE : ER D w γ e a) {b : Bool} (hb : e.get slot = .bool b) : yielded ops a.tmps g = some b := by
  have h1 := hE slot
  rw [hb] at h1
  have h2 := h1.bool_inv
  unfold yielded
  rw [h]
  simp only [Option.bind_some]
  cases ht : a.tmps[slot]? with
  | none => simp [Array.getD_eq_getD_getElem?, ht, undef] at h2
  | some x => simp [Array.getD_eq_getD_getElem?, ht] at h2; simp [h2]

theorem yielded_skip {ops : Array Oper} {g slot : Nat} (h : (ops[g]?).bind (·.dst) = some slot) {D : Nat} (hE : ER D w γ e a) (hb : e.get slot = .skip) : yielded ops a.tmps g = none := by
  have h1 := hE slot
  rw [hb] at h1
  have h2 : a.tmps.getD slot undef = undef := by
    generalize a.tmps.getD slot undef = u at h1
    cases h1; rfl
  unfold yielded
  rw [h]
  simp only [Option.bind_some]
  cases ht : a.tmps[slot]? with
  | none => rfl
  | some x => simp [Array.getD_eq_getD_getElem?, ht] at h2; simp [h2, undef]

theorem put_size (a : Act) (dst : Option Nat) (u : Value) : (a.put dst u).tmps.size = a.tmps.size := by
  cases dst <;> simp [Act.put]
theorem put_defers (a : Act) (dst : Option Nat) (u : Value) : (a.put dst u).defers = a.defers := by
  cases dst <;> simp [Act.put]

theorem ops_sound (hst : StatOk K P T X) (hyl : YldOk K P T X) {F : Fence} (hF : Wide F) {n N : Nat} {ops : Array Oper} {Q : Exit → Act → World → Prop} : ∀ (l : List (Oper × Nat)) {als : List AOper} {muts : List Nat}, compOpers P N muts ops l = some als → (∀ x ∈ l, ops[x.2]? = some x.1) →
    ∀ {e : Env} {s : Stk} {a : Act} {w : World} {γ : G} {e' : Env} {s' : Stk}, runOps T X als e s = some (e', s') → s ≠ [] → a.tmps.size = N → ER s.length w γ e a → SR K s w γ →
    (∀ a' w' γ', St K N s.length w γ e' s' a' w' γ' → s'.length = s.length → a'.defers = a.defers → Q .normal a' w') → wpOpsIn F n P ops Q (l.map (·.2)) a w
  | [], als, muts, h, _, e, s, a, w, γ, e', s', hr, hs, hN, hE, hS, hQ => by
    simp [compOpers] at h; subst h
    simp [runOps] at hr; obtain ⟨rfl, rfl⟩ := hr
    exact hQ a w γ ⟨hN, hE, hS, Ext.refl _ _ _⟩ rfl rfl
  | (o, j) :: l, als, muts, h, hm, e, s, a, w, γ, e', s', hr, hs, hN, hE, hS, hQ => by
    have hj : ops[j]? = some o := hm (o, j) (by simp)
    have hm' : ∀ x ∈ l, ops[x.2]? = some x.1 := fun x hx => hm x (by simp [hx])
    simp only [compOpers] at h
    split at h
    · rename_i op r h1 h2
      split at h
      · rename_i hdst
        have hd : ∀ d, o.dst = some d → d < a.tmps.size := fun d hd => by rw [hd] at hdst; simp at hdst; rw [hN]; exact hdst
        simp only [List.map_cons, wpOpsIn, hj]
        -- one operation that runs, and the rest
        have runs : ∀ (g : Option (Nat × Bool)), ∀ {v : V} {s1 : Stk}, op1 T X { dst := o.dst, op, guard := g } e s = some (v, s1) → runOps T X r (setDst o.dst v e) s1 = some (e', s') →
            o.wpIn F n P a w (wpOpsIn F n P ops Q (l.map (·.2))) Q := by
          intro g v s1 hv hrest
          refine op1_sound hst hyl hF hS hE hs (ao := { dst := o.dst, op, guard := g }) h1 hv (fun u w1 γ1 k1 k2 k3 k4 => ?_)
          have hs1 : s1 ≠ [] := fun e0 => by rw [e0] at k4; exact hs (List.eq_nil_of_length_eq_zero k4.symm)
          refine ops_sound hst hyl hF l h2 hm' hrest hs1 (by rw [put_size]; exact hN) ?_ k2 (fun a' w' γ' st hl hd' => ?_)
          · rw [k4] at k1 ⊢
            exact (hE.ext k3).put k1 hd
          · rw [k4] at hl st
            exact hQ a' w' γ' ⟨st.size, st.env, st.stk, k3.trans st.ext⟩ hl (by rw [hd', put_defers])
        have skips : ∀ {e1 : Env}, e1 = setDst o.dst .skip e → runOps T X r e1 s = some (e', s') → wpOpsIn F n P ops Q (l.map (·.2)) (a.put o.dst undef) w := by
          intro e1 he hrest
          subst he
          refine ops_sound hst hyl hF l h2 hm' hrest hs (by rw [put_size]; exact hN) (hE.put .skip hd) hS (fun a' w' γ' st hl hd' => hQ a' w' γ' st hl (by rw [hd', put_defers]))
        split at h
        · rename_i hg
          cases h
          have hw : Region.wanted o (yielded ops a.tmps) = true := by simp [Region.wanted, hg]
          simp only [hw, if_true]
          simp only [runOps] at hr
          split at hr
          · rename_i v s1 hv
            exact runs _ hv hr
          · cases hr
        · rename_i g want hg
          split at h
          · rename_i slot hslot
            cases h
            simp only [runOps] at hr
            split at hr
            · rename_i b hb
              have hy := yielded_of hslot hE hb
              split at hr
              · rename_i hbw
                have hw : Region.wanted o (yielded ops a.tmps) = true := by simp [Region.wanted, hg, hy, hbw]
                simp only [hw, if_true]
                split at hr
                · rename_i v s1 hv
                  exact runs _ hv hr
                · cases hr
              · rename_i hbw
                have hw : Region.wanted o (yielded ops a.tmps) = false := by simp [Region.wanted, hg, hy, hbw]
                simp only [hw, Bool.false_eq_true, if_false]
                exact ⟨fun f _ => hF.fn f, skips rfl hr⟩
            · rename_i hb
              have hy := yielded_skip hslot hE hb
              have hw : Region.wanted o (yielded ops a.tmps) = false := by simp [Region.wanted, hg, hy]
              simp only [hw, Bool.false_eq_true, if_false]
              exact ⟨fun f _ => hF.fn f, skips rfl hr⟩
            · cases hr
          · cases h
      · cases h
    · cases h

theorem zipIdx_mem {α : Type} (xs : Array α) : ∀ x ∈ xs.toList.zipIdx, xs[x.2]? = some x.1 := by
  intro x hx
  have := List.mem_zipIdx_iff_getElem?.1 hx
  simpa using this

theorem zipIdx_range {α : Type} (xs : Array α) : xs.toList.zipIdx.map (·.2) = List.range xs.size := by
  simp [List.zipIdx_map_snd, List.range_eq_range']

theorem region_sound (hst : StatOk K P T X) (hyl : YldOk K P T X) {F : Fence} (hF : Wide F) {n N id : Nat} {ops : Array Oper} {Q : Exit → Act → World → Prop} {als : List AOper} {live : List Nat} {muts : List Nat} (h : compOpers P N muts ops ops.toList.zipIdx = some als)
    {e' : Env} {s' : Stk} (hr : runOps T X als e s = some (e', s')) (hs : s ≠ []) (hN : a.tmps.size = N) (hE : ER s.length w γ e a) (hS : SR K s w γ)
    (hQ : ∀ a' w' γ', St K N s.length w γ (e'.only live) s' a' w' γ' → s'.length = s.length → a'.defers = a.defers → Q .normal a' w') : (Code.region id ops false).wpIn F n P Q a w := by
  refine wpIn_region ?_
  rw [← zipIdx_range]
  refine ops_sound hst hyl hF _ h (zipIdx_mem ops) hr hs hN hE hS (fun a' w' γ' st hl hd => hQ a' w' γ' ⟨st.size, ?_, st.stk, st.ext⟩ hl hd)
  exact st.env.only live
end
end Go.Ab

/-
  What becomes of a state when names are dropped, renamed, or turn no more.
-/
namespace Go.Ab

theorem VR.pureOwn {D : Nat} {w : World} {γ γ' : G} (own : ∀ b off, Own γ' b off → Own γ b off) {v : V} {u : Value} (h : VR D w γ v u) (D' : Nat) : v.pure = true → VR D' w γ' v u := by
  induction h with
  | undef u => exact fun _ => .undef u
  | skip => exact fun _ => .skip
  | int k n => exact fun _ => .int k n
  | bool b => exact fun _ => .bool b
  | agg cs us hl _ ih => exact fun hp => .agg cs us hl fun i v u hv hu => ih i v u hv hu (pureAll_mem (by simpa [V.pure] using hp) v (List.mem_of_getElem? hv))
  | tup cs us hl _ ih => exact fun hp => .tup cs us hl fun i v u hv hu => ih i v u hv hu (pureAll_mem (by simpa [V.pure] using hp) v (List.mem_of_getElem? hv))
  | nilp => exact fun _ => .nilp
  | ptr d l off b hd hb => exact fun hp => by simp [V.pure] at hp
  | ep cs b off _ hc hno _ ih => exact fun hp => by simp [V.pure] at hp
  | slnil c sz hcap => exact fun hp => by simp [V.pure] at hp; subst hp; exact .slnil _ _ trivial
  | sl0 c sz a cap hcap => exact fun hp => by simp [V.pure] at hp; subst hp; exact .sl0 _ _ a cap trivial
  | sl c sz es b off cap hsz hp hle hcap hc hno _ ih =>
    intro hpu
    simp [V.pure] at hpu; subst hpu
    exact .sl _ sz es b off cap hsz hp hle trivial hc (fun i cs j v h1 h2 ho => hno i cs j v h1 h2 (own _ _ ho)) fun i cs j v u h1 h2 hu => ih i cs j v u h1 h2 hu (elemAll_mem (hp cs (List.mem_of_getElem? h1)) v (List.mem_of_getElem? h2)).1
  | fn f first cap us ws h1 h2 _ _ i1 i2 =>
    intro hp
    simp [V.pure] at hp
    exact .fn f first cap us ws h1 h2 (fun i v u hv hu => i1 i v u hv hu (pureAll_mem hp.1 v (List.mem_of_getElem? hv))) (fun i v u hv hu => i2 i v u hv hu (pureAll_mem hp.2 v (List.mem_of_getElem? hv)))
  | nilf => exact fun _ => .nilf
  | yld d l b hd hb => exact fun hp => by simp [V.pure] at hp
  | asl d l sz len b k hd hb hle => exact fun hp => by simp [V.pure] at hp
  | aslnil d l sz base hd hb => exact fun hp => by simp [V.pure] at hp
  | eptr d l i j b sz k hd hb => exact fun hp => by simp [V.pure] at hp

structure RenOk (r : Ren) (D : Nat) (w : World) (γ : G) (D' : Nat) (γ' : G) : Prop where
  p : ∀ d l o u, VR D w γ (.ptr d l o) u → VR D' w γ' (r.p d l o) u
  c : ∀ c sz base len cap, capOk D γ c sz base len cap → capOk D' γ' (r.c c) sz base len cap
  y : ∀ d l u, VR D w γ (.yld d l) u → VR D' w γ' (r.y d l) u
  a : ∀ d l z n u, VR D w γ (.asl d l z n) u → VR D' w γ' (r.a d l z n) u
  e : ∀ d l i j u, VR D w γ (.eptr d l i j) u → VR D' w γ' (r.e d l i j) u
  own : ∀ b off, Own γ' b off → Own γ b off

section
variable {r : Ren} {D D' : Nat} {w : World} {γ γ' : G}

mutual
theorem VR.map' (ok : RenOk r D w γ D' γ') : ∀ (v : V) (u : Value), VR D w γ v u → VR D' w γ' (v.map r) u
  | .agg cs, u, h => by
    obtain ⟨us, rfl, hl⟩ := h.agg_inv
    have := VR.agg_mk (LR.map' ok cs us.toList hl)
    simpa [V.map] using this
  | .tup cs, u, h => by
    obtain ⟨us, rfl, hl⟩ := h.tup_inv
    have := VR.tup_mk (LR.map' ok cs us.toList hl)
    simpa [V.map] using this
  | .sl c z es, u, h => by
    simp only [V.map]
    cases h with
    | slnil _ _ hc => exact .slnil _ _ (ok.c _ _ _ _ _ hc)
    | sl0 _ _ a k hc => exact .sl0 _ _ a k (ok.c _ _ _ _ _ hc)
    | sl _ _ _ b off k hsz hp hle hcap hc hno h =>
      refine .sl _ _ _ b off k hsz hp hle (ok.c _ _ _ _ _ hcap) hc (fun i cs j v h1 h2 ho => hno i cs j v h1 h2 (ok.own _ _ ho)) (fun i cs j v u h1 h2 hu => ?_)
      have hel := elemAll_mem (hp cs (List.mem_of_getElem? h1)) v (List.mem_of_getElem? h2)
      exact (h i cs j v u h1 h2 hu).pureOwn ok.own _ hel.1
  | .fn f as bs, u, h => by
    cases h with
    | fn _ _ _ us ws h1 h2 k1 k2 =>
      have e1 := LR.map' ok as us.toList ⟨by simpa using h1, fun i v u hv hu => k1 i v u hv (by simpa using hu)⟩
      have e2 := LR.map' ok bs ws.toList ⟨by simpa using h2, fun i v u hv hu => k2 i v u hv (by simpa using hu)⟩
      have := VR.fn_mk (f := f) e1 e2
      simpa [V.map] using this
  | .undef, u, h => .undef u
  | .skip, u, h => by cases h; exact .skip
  | .int k n, u, h => by cases h; exact .int k n
  | .bool b, u, h => by cases h; exact .bool b
  | .nilp, u, h => by cases h; exact .nilp
  | .ptr d l o, u, h => by simpa only [V.map] using ok.p d l o u h
  | .ep cs, u, h => by
    simp only [V.map]
    cases h with
    | ep _ b off hp hc hno h =>
      exact .ep cs b off hp hc (fun i v hv ho => hno i v hv (ok.own _ _ ho)) (fun i v u hv hu => (h i v u hv hu).pureOwn ok.own _ (pureAll_mem hp v (List.mem_of_getElem? hv)))
  | .nilf, u, h => by cases h; exact .nilf
  | .yld d l, u, h => by simpa only [V.map] using ok.y d l u h
  | .asl d l z n, u, h => by simpa only [V.map] using ok.a d l z n u h
  | .eptr d l i j, u, h => by simpa only [V.map] using ok.e d l i j u h
theorem LR.map' (ok : RenOk r D w γ D' γ') : ∀ (vs : List V) (us : List Value), LR D w γ vs us → LR D' w γ' (V.mapAll r vs) us
  | [], us, h => ⟨h.1, fun i v u hv => by simp [V.mapAll] at hv⟩
  | v :: t, us, h => by
    obtain ⟨u, us', rfl, h1, h2⟩ := h.inv
    exact LR.cons (VR.map' ok v u h1) (LR.map' ok t us' h2)
end

theorem env_ren (e : Env) (t : Nat) : (Env.ren r e).get t = (e.get t).map r := by
  induction e with
  | nil => rfl
  | cons x l ih =>
    obtain ⟨k, v⟩ := x
    simp only [Env.ren, List.map_cons, Env.get]
    split
    · rfl
    · exact ih

theorem ER.map (ok : RenOk r D w γ D' γ') {e : Env} {a : Act} (h : ER D w γ e a) : ER D' w γ' (Env.ren r e) a := fun t => by
  rw [env_ren]; exact VR.map' ok _ _ (h t)

theorem mapAll_length : ∀ (vs : List V), (V.mapAll r vs).length = vs.length
  | [] => rfl
  | _ :: t => by simp [V.mapAll, mapAll_length t]
theorem mapAll_get : ∀ (vs : List V) (i : Nat), (V.mapAll r vs)[i]? = (vs[i]?).map (V.map r)
  | [], i => by simp [V.mapAll]
  | v :: t, 0 => by simp [V.mapAll]
  | v :: t, i + 1 => by simp [V.mapAll, mapAll_get t i]

theorem EnR.map {K : KK} {d l d' l' : Nat} {x : Entry} (h : EnR K w γ d l x) (ok : RenOk r (d + 1) w γ (d' + 1) γ') (hg : ∀ g, γ d l = some g → γ' d' l' = some g) : EnR K w γ' d' l' (x.map r) := by
  cases x with
  | cell cs =>
    obtain ⟨b, c, e, h1, h2, h3⟩ := h
    exact ⟨b, c, e, hg _ h1, h2, LR.map' ok _ _ h3⟩
  | tok n =>
    obtain ⟨blk, h1, h2⟩ := h
    exact ⟨blk, hg _ h1, h2⟩
  | arr sz es =>
    obtain ⟨blk, h1, h0, h2⟩ := h
    refine ⟨blk, hg _ h1, fun cs hc => ?_, ?_⟩
    · obtain ⟨c0, hc0, rfl⟩ := List.mem_map.1 hc
      rw [mapAll_length]; exact h0 c0 hc0
    · cases blk with
      | none => have h2 : es = [] := h2; subst h2; rfl
      | some y =>
        obtain ⟨b, sz', k⟩ := y
        obtain ⟨e1, c, e, h3, h4, h5, h6, h7, h8⟩ := h2
        refine ⟨e1, c, e, h3, by simpa using h4, h5, h6, h7, fun i cs j v u k1 k2 k3 => ?_⟩
        rw [List.getElem?_map] at k1
        obtain ⟨c0, k4, rfl⟩ := Option.map_eq_some_iff.1 k1
        rw [mapAll_get] at k2
        obtain ⟨v0, k5, rfl⟩ := Option.map_eq_some_iff.1 k2
        exact VR.map' ok _ _ (h8 i c0 j v0 u k4 k5 k3)
  | loop ps A B env o p =>
    obtain ⟨b, q, h1, h2, h3, h4, h5⟩ := h
    exact ⟨b, q, hg _ h1, h2, h3, fun t => by rw [env_ren]; exact VR.map' ok _ _ (h4 t), h5⟩
end

/-! nothing becomes of the names -/

def idR : Ren := ⟨.ptr, id, .yld, .asl, .eptr⟩

mutual
theorem map_id : ∀ (v : V), v.map idR = v
  | .agg cs => by simp [V.map, mapAll_id cs]
  | .tup cs => by simp [V.map, mapAll_id cs]
  | .fn f a b => by simp [V.map, mapAll_id a, mapAll_id b]
  | .sl _ _ _ | .undef | .skip | .int _ _ | .bool _ | .nilp | .ptr _ _ _ | .ep _ | .nilf | .yld _ _ | .asl _ _ _ _ | .eptr _ _ _ _ => by simp [V.map, idR]
theorem mapAll_id : ∀ (vs : List V), V.mapAll idR vs = vs
  | [] => rfl
  | v :: t => by simp [V.mapAll, map_id v, mapAll_id t]
end

theorem ent_id (x : Entry) : x.map idR = x := by
  cases x with
  | cell cs => simp [Entry.map, mapAll_id]
  | tok n => rfl
  | arr z es =>
    have : V.mapAll idR = id := funext mapAll_id
    simp [Entry.map, this]
  | loop ps a b env o p =>
    simp only [Entry.map, Env.ren]
    congr 1
    have : (fun x : Nat × V => (x.1, x.2.map idR)) = id := by funext x; simp [map_id]
    rw [this]; simp

theorem RenOk.id {D D' : Nat} {w : World} {γ γ' : G} (hD : D ≤ D') (hg : ∀ (d l : Nat) g, d < D → γ d l = some g → γ' d l = some g) (ho : ∀ b off, Own γ' b off → Own γ b off) : RenOk idR D w γ D' γ' where
  p := fun d l o u h => by
    cases h with
    | ptr _ _ _ b hd hb => exact .ptr _ _ _ b (by omega) (hg d l _ hd hb)
  c := fun c sz base len cap h => by
    cases c with
    | no => trivial
    | full => exact h
    | own d l =>
      obtain ⟨hd, n, blk, h1, h2⟩ := h
      exact ⟨by omega, n, blk, hg d l _ hd h1, h2⟩
  y := fun d l u h => by
    cases h with
    | yld _ _ b hd hb => exact .yld _ _ b (by omega) (hg d l _ hd hb)
  a := fun d l z n u h => by
    cases h with
    | asl _ _ _ _ b k hd hb hle => exact .asl _ _ _ _ b k (by omega) (hg d l _ hd hb) hle
    | aslnil _ _ _ base hd hb => exact .aslnil _ _ _ base (by omega) (hg d l _ hd hb)
  e := fun d l i j u h => by
    cases h with
    | eptr _ _ _ _ b sz k hd hb => exact .eptr _ _ _ _ b sz k (by omega) (hg d l _ hd hb)
  own := ho

theorem VR.restrict {D D' : Nat} {w : World} {γ γ' : G} {v : V} {u : Value} (h : VR D w γ v u) (hD : D ≤ D') (hg : ∀ (d l : Nat) g, d < D → γ d l = some g → γ' d l = some g) (ho : ∀ b off, Own γ' b off → Own γ b off) : VR D' w γ' v u := by
  have := VR.map' (RenOk.id hD hg ho) v u h
  rwa [map_id] at this

theorem EnR.restrict {K : KK} {d l : Nat} {w : World} {γ γ' : G} {x : Entry} (h : EnR K w γ d l x) (hg : ∀ (d' l' : Nat) g, d' ≤ d → γ d' l' = some g → γ' d' l' = some g) (ho : ∀ b off, Own γ' b off → Own γ b off) : EnR K w γ' d l x := by
  have := EnR.map (d' := d) (l' := l) h (RenOk.id (Nat.le_refl _) (fun d' l' g h' => hg d' l' g (by omega)) ho) (fun g => hg d l g (Nat.le_refl _))
  rwa [ent_id] at this

/-! names are dropped -/

def G.drop (γ : G) (d : Nat) (keep : List Nat) : G := fun d' l => if d' = some d ∧ l ∉ keep then none else γ d' l

theorem G.drop_eq {γ : G} {d : Nat} {keep : List Nat} {d' l : Nat} (h : ¬ (d' = d ∧ l ∉ keep)) : γ.drop d keep d' l = γ d' l := by
  simp only [G.drop]; rw [if_neg (by rintro ⟨e, h2⟩; cases e; exact h ⟨rfl, h2⟩)]
theorem G.drop_none {γ : G} {d : Nat} {keep : List Nat} {l : Nat} : γ.drop d keep none l = γ none l := by simp [G.drop]

theorem G.drop_some {γ : G} {d : Nat} {keep : List Nat} {d' : Option Nat} {l : Nat} {g : GE} (h : γ.drop d keep d' l = some g) : γ d' l = some g := by
  unfold G.drop at h
  split at h
  · cases h
  · exact h

theorem own_drop {γ : G} {d : Nat} {keep : List Nat} : ∀ b off, Own (γ.drop d keep) b off → Own γ b off := by
  rintro b off ⟨d', l, g, h1, h2⟩
  exact ⟨d', l, g, G.drop_some h1, h2⟩

theorem RenOk.drop {D : Nat} {w : World} {γ : G} {d : Nat} {keep : List Nat} : RenOk (dropR d keep) D w γ D (γ.drop d keep) where
  p := fun d' l o u h => by
    simp only [dropR]
    split
    · exact .undef _
    · rename_i hn
      cases h with
      | ptr _ _ _ b hd hb => exact .ptr _ _ _ b hd ((G.drop_eq hn).trans hb)
  c := fun c sz base len cap h => by
    cases c with
    | no => trivial
    | full => exact h
    | own d' l =>
      simp only [dropR, Cap.drop]
      split
      · trivial
      · rename_i hn
        obtain ⟨hd, n, blk, h1, h2⟩ := h
        exact ⟨hd, n, blk, (G.drop_eq hn).trans h1, h2⟩
  y := fun d' l u h => by
    simp only [dropR]
    split
    · exact .undef _
    · rename_i hn
      cases h with
      | yld _ _ b hd hb => exact .yld _ _ b hd ((G.drop_eq hn).trans hb)
  a := fun d' l z n u h => by
    simp only [dropR]
    split
    · exact .undef _
    · rename_i hn
      cases h with
      | asl _ _ _ _ b k hd hb hle => exact .asl _ _ _ _ b k hd ((G.drop_eq hn).trans hb) hle
      | aslnil _ _ _ base hd hb => exact .aslnil _ _ _ base hd ((G.drop_eq hn).trans hb)
  e := fun d' l i j u h => by
    simp only [dropR]
    split
    · exact .undef _
    · rename_i hn
      cases h with
      | eptr _ _ _ _ b sz k hd hb => exact .eptr _ _ _ _ b sz k hd ((G.drop_eq hn).trans hb)
  own := own_drop

theorem lget_ren (r : Ren) (loc : Loc) (l : Nat) : (Loc.ren r loc).get l = (loc.get l).map (Entry.map r) := by
  induction loc with
  | nil => rfl
  | cons x t ih =>
    obtain ⟨k, x⟩ := x
    simp only [Loc.ren, List.map_cons, Loc.get]
    split
    · rfl
    · exact ih

theorem lget_filter (keep : List Nat) (loc : Loc) (l : Nat) : Loc.get (loc.filter fun x => keep.contains x.1) l = if l ∈ keep then loc.get l else none := by
  induction loc with
  | nil => simp [Loc.get]
  | cons x t ih =>
    obtain ⟨k, x⟩ := x
    simp only [List.filter_cons]
    split
    · rename_i hk
      simp only [Loc.get]
      split
      · rename_i h; subst h; rw [if_pos (by simpa using hk)]
      · exact ih
    · rename_i hk
      rw [ih]
      simp only [Loc.get]
      split
      · split
        · rename_i h1 h2; subst h2; exact absurd h1 (by simpa using hk)
        · rfl
      · rfl

theorem sget_lt {s : Stk} {d l : Nat} {x : Entry} (h : sget s d l = some x) : d < s.length := by
  apply Nat.lt_of_not_le; intro hle; rw [sget_none hle] at h; cases h

theorem SR.gc {K : KK} {s : Stk} {w : World} {γ : G} (h : SR K s w γ) (keep : List Nat) : SR K (gcStk keep s) w (γ.drop (dep s) keep) := by
  cases s with
  | nil =>
    refine ⟨fun d l x hx => by simp [gcStk, sget] at hx, fun d l _ => ?_, fun d l g d' l' g' b h1 h2 => h.inj d l g d' l' g' b (G.drop_some h1) (G.drop_some h2), fun l g b h1 => h.frn l g b (G.drop_some h1)⟩
    unfold G.drop; split
    · rfl
    · exact h.none d l rfl
  | cons loc r =>
    have hdep : dep (loc :: r) = r.length := by simp [dep]
    rw [hdep]
    refine ⟨fun d l x hx => ?_, fun d l hx => ?_, fun d l g d' l' g' b h1 h2 => h.inj d l g d' l' g' b (G.drop_some h1) (G.drop_some h2), fun l g b h1 => h.frn l g b (G.drop_some h1)⟩
    · simp only [gcStk, sget] at hx
      split at hx
      · rename_i hd
        subst hd
        rw [Loc.gc, lget_ren, lget_filter] at hx
        split at hx
        · rename_i hk
          obtain ⟨y, hy, rfl⟩ := Option.map_eq_some_iff.1 hx
          have he := h.ent r.length l y (by simp [sget, hy])
          exact EnR.map he RenOk.drop (fun g h => (G.drop_eq (by simp [hk])).trans h)
        · cases hx
      · rename_i hd
        have he := h.ent d l x (by simp [sget, hd, hx])
        have hlt := sget_lt hx
        exact he.restrict (fun d' l' g h' h => (G.drop_eq (by omega)).trans h) own_drop
    · simp only [gcStk, sget] at hx
      split at hx
      · rename_i hd
        subst hd
        rw [Loc.gc, lget_ren, lget_filter] at hx
        unfold G.drop
        split
        · rfl
        · rename_i hk
          have hk' : l ∈ keep := by
            by_cases hm : l ∈ keep
            · exact hm
            · exact absurd ⟨rfl, hm⟩ hk
          rw [if_pos hk'] at hx
          exact h.none _ l (by simpa [sget] using hx)
      · rename_i hd
        rw [G.drop_eq (by omega)]
        exact h.none d l (by simp [sget, hd, hx])

theorem gcStk_length (keep : List Nat) (s : Stk) : (gcStk keep s).length = s.length := by cases s <;> simp [gcStk]

theorem ER.gc {w : World} {γ : G} {e : Env} {a : Act} {s : Stk} (h : ER s.length w γ e a) (live keep : List Nat) : ER s.length w (γ.drop (dep s) keep) (gcEnv live keep e s) a :=
  ER.map RenOk.drop (h.only live)

theorem Ext.drop {D : Nat} {w : World} {γ : G} {d : Nat} {keep : List Nat} (hD : D ≤ d) : Ext D w γ w (γ.drop d keep) := by
  have hne : ∀ {d' l : Nat}, d' < D → γ.drop d keep d' l = γ d' l := fun h => G.drop_eq (by omega)
  refine ⟨rfl, rfl, rfl, Nat.le_refl _, fun d' l b h hb => by rw [hne h]; exact hb, fun d' l b h hb => by rw [hne h]; exact hb, fun d' l b h hb => by rw [hne h]; exact hb, fun d' l n blk h hb => ⟨n, blk, by rw [hne h]; exact hb, .inl ⟨rfl, rfl⟩⟩, fun _ _ _ h _ => h, fun b off _ hno ho => hno (own_drop b off ho), fun _ _ _ => rfl, fun _ => G.drop_none, fun _ _ _ _ _ => rfl⟩
end Go.Ab

/-
  Ghost steps: arrays that turn no more; the right to append.
-/
namespace Go.Ab

section
variable {K : KK} {s : Stk} {w : World} {γ : G} {e : Env} {a : Act}

/-- a ghost step: the world stays -/
def Ghost (K : KK) (_ : Env) (s : Stk) (a : Act) (w : World) (γ : G) (e' : Env) (s' : Stk) : Prop :=
  ∃ γ', ER s'.length w γ' e' a ∧ SR K s' w γ' ∧ Ext (dep s) w γ w γ' ∧ s'.length = s.length ∧ ∀ b off, Own γ' b off → Own γ b off

theorem Ghost.refl (hE : ER s.length w γ e a) (hS : SR K s w γ) : Ghost K e s a w γ e s := ⟨γ, hE, hS, Ext.refl _ _ _, rfl, fun _ _ h => h⟩

theorem strip_len : ∀ (vs : List V), (V.stripAll vs).length = vs.length
  | [] => rfl
  | v :: r => by simp [V.stripAll, strip_len r]

theorem elemsOk_mem {es : List (List V)} {sz : Nat} (h : elemsOk es sz = true) : ∀ cs, cs ∈ es → V.elemAll cs = true ∧ cs.length = sz := by
  intro cs hc
  have := List.all_eq_true.1 h cs hc
  simpa using this

theorem LR.pureOwn {D D' : Nat} {γ γ' : G} (own : ∀ b off, Own γ' b off → Own γ b off) {vs : List V} {us : List Value} (h : LR D w γ vs us) (hp : ∀ v, v ∈ vs → v.pure = true) : LR D' w γ' vs us :=
  ⟨h.1, fun i v u hv hu => (h.2 i v u hv hu).pureOwn own _ (hp v (List.mem_of_getElem? hv))⟩

/-- an array's elements, its block no longer written below n -/
theorem arr_frozen (hS : SR K s w γ) {d l : Nat} {z n : Nat} {u : Value} (h : VR s.length w γ (.asl d l z n) u) {sz : Nat} {es : List (List V)} (hg : sget s d l = some (.arr sz es)) (hok : elemsOk (es.map V.stripAll) sz = true) (hn : n ≤ es.length)
    {D' : Nat} {γ' : G} (own : ∀ b off, Own γ' b off → Own γ b off) (hno : ∀ b sz k, γ d l = some (.arr (some (b, sz, k))) → ∀ j, j < n * sz → ¬ Own γ' b j) {c : Cap}
    (hcap : ∀ base cap, (∀ b sz k, γ d l = some (.arr (some (b, sz, k))) → base = some ⟨b, 0, none⟩ ∧ cap = k) → (γ d l = some (.arr none) → n = 0 ∧ cap = 0) → capOk D' γ' c z base n cap) :
    z = sz → VR D' w γ' (.sl c sz ((es.map V.stripAll).take n)) u := by
  rintro rfl
  have hlen : ((es.map V.stripAll).take n).length = n := by simp; omega
  have hread := arr_read hS h hg hn
  have hmem : ∀ cs, cs ∈ (es.map V.stripAll).take n → V.elemAll cs = true ∧ cs.length = z := fun cs hc => elemsOk_mem hok cs (List.mem_of_mem_take hc)
  cases h with
  | aslnil _ _ _ base hd hb =>
    have hc0 := hcap base 0 (fun b sz k h => by rw [hb] at h; cases h) (fun _ => ⟨rfl, rfl⟩)
    simp only [List.take_zero]
    exact VR.sl_empty hc0 (fun _ => rfl)
  | asl _ _ _ _ b k hd hb hle =>
    rcases hread with ⟨h1, h2⟩ | ⟨b', off, cap, us, h1, h2, h3, h4⟩
    · have h0 : n = 0 := by rw [← hlen, h2]; rfl
      subst h0
      simp only [List.take_zero]
      have hc0 := hcap (some ⟨b, 0, none⟩) k (fun b' sz k' h => by rw [hb] at h; cases h; exact ⟨rfl, rfl⟩) (fun h => by rw [hb] at h; cases h)
      exact .sl c z [] b 0 k (by simp) (by simp) (Nat.zero_le _) hc0 (fun i cs j v hi => by simp at hi) (fun i cs j v hi => by simp at hi) (fun i cs j v u hi => by simp at hi)
    · rw [hlen] at h1
      cases h1
      have hc0 := hcap (some ⟨b, 0, none⟩) k (fun b' sz k' h => by rw [hb] at h; cases h; exact ⟨rfl, rfl⟩) (fun h => by rw [hb] at h; cases h)
      have hp : ∀ v, v ∈ ((es.map V.stripAll).take n).flatten → v.pure = true := fun v hv => by
        obtain ⟨cs, hc, hv⟩ := List.mem_flatten.1 hv
        exact (elemAll_mem (hmem cs hc).1 v hv).1
      have := VR.sl_mk (D := D') (w := w) (γ := γ') (c := c) (sz := z) (es := (es.map V.stripAll).take n) (b := b) (off := 0) (cap := k) (us := us) (fun cs hc => (hmem cs hc).2) (fun cs hc => (hmem cs hc).1) (by rw [hlen]; exact hle)
        (by rw [hlen]; exact hc0) (h3.pureOwn own hp) h4 (fun j hj => by
          rw [Nat.zero_add]
          refine hno b z k hb j ?_
          rw [← h3.1, flatten_len _ (fun cs hc => (hmem cs hc).2), hlen] at hj
          exact hj)
      rwa [hlen] at this

theorem frz1_ok (hE : ER s.length w γ e a) (hS : SR K s w γ) (l : Nat) : Ghost K e s a w γ (frz1 l e s).1 (frz1 l e s).2 := by
  cases s with
  | nil => exact Ghost.refl hE hS
  | cons loc r =>
    simp only [frz1]
    cases hl : loc.get l with
    | none => exact Ghost.refl hE hS
    | some x =>
      cases x with
      | arr sz es =>
        dsimp only
        split
        · rename_i hok
          have hg : sget (loc :: r) r.length l = some (.arr sz es) := by simp [sget, hl]
          obtain ⟨blk, h1, h0, h2⟩ := hS.ent _ _ _ hg
          obtain ⟨γ', hγ⟩ : ∃ γ' : G, γ' = γ.set r.length l (.tok es.length blk) := ⟨_, rfl⟩
          have hsame : γ' r.length l = some (.tok es.length blk) := by rw [hγ, G.set_same]
          have hoth' : ∀ {d' : Option Nat} {l'}, ¬ (d' = some r.length ∧ l' = l) → γ' d' l' = γ d' l' := fun h => by rw [hγ, G.set_other' γ _ h]
          have hoth : ∀ {d' l' : Nat}, ¬ (d' = r.length ∧ l' = l) → γ' d' l' = γ d' l' := fun h => hoth' (by rintro ⟨e, e2⟩; cases e; exact h ⟨rfl, e2⟩)
          have own : ∀ b off, Own γ' b off → Own γ b off := by
            rintro b off ⟨d', l', g, k1, k2⟩
            by_cases e : d' = some r.length ∧ l' = l
            · obtain ⟨rfl, rfl⟩ := e
              rw [hsame] at k1; cases k1
              refine ⟨_, _, _, h1, ?_⟩
              cases blk with
              | none => exact k2.elim
              | some y => obtain ⟨b0, sz0, k0⟩ := y; simp [GE.owns] at k2 ⊢; exact k2.1
            · rw [hoth' e] at k1
              exact ⟨d', l', g, k1, k2⟩
          have hD : (loc :: r).length = r.length + 1 := rfl
          have hno : ∀ b sz' k, γ r.length l = some (.arr (some (b, sz', k))) → ∀ j, j < es.length * sz' → ¬ Own γ' b j := by
            rintro b sz' k hb j hj ⟨d', l', g, k1, k2⟩
            rw [h1] at hb; cases hb
            by_cases e : d' = some r.length ∧ l' = l
            · obtain ⟨rfl, rfl⟩ := e
              rw [hsame] at k1; cases k1
              simp [GE.owns] at k2; omega
            · rw [hoth' e] at k1
              exact e (hS.inj d' l' g r.length l _ b k1 h1 (GE.owns_blk k2) rfl)
          have ok : RenOk (frzR r.length l sz (es.map V.stripAll)) (r.length + 1) w γ (r.length + 1) γ' :=
            { p := fun d' l' o u h => by
                cases h with
                | ptr _ _ _ b hd hb =>
                  refine .ptr _ _ _ b hd ?_
                  rw [hoth]; exact hb
                  rintro ⟨rfl, rfl⟩
                  rw [h1] at hb; cases hb
              c := fun c sz base len cap h => by
                cases c with
                | no => trivial
                | full => exact h
                | own d' l' =>
                  obtain ⟨hd, n, blk', k1, k2⟩ := h
                  refine ⟨hd, n, blk', ?_, k2⟩
                  rw [hoth]; exact k1
                  rintro ⟨rfl, rfl⟩
                  rw [h1] at k1; cases k1
              y := fun d' l' u h => by
                cases h with
                | yld _ _ b hd hb =>
                  refine .yld _ _ b hd ?_
                  rw [hoth]; exact hb
                  rintro ⟨rfl, rfl⟩
                  rw [h1] at hb; cases hb
              a := fun d' l' z n u h => by
                simp only [frzR]
                split
                · rename_i e
                  obtain ⟨rfl, rfl⟩ := e
                  split
                  · rename_i hc
                    obtain ⟨rfl, hn⟩ := hc
                    rw [List.length_map] at hn
                    refine arr_frozen hS h hg hok hn own (fun b sz' k hb j hj => hno b sz' k hb j ?_) ?_ rfl
                    · have := Nat.mul_le_mul_right sz' hn; omega
                    · intro base cap q1 q2
                      refine ⟨Nat.lt_succ_self _, es.length, blk, hsame, hn, fun hnn => ?_⟩
                      cases blk with
                      | none => obtain ⟨q3, q4⟩ := q2 h1; simp only; omega
                      | some y =>
                        obtain ⟨b, sz', k⟩ := y
                        obtain ⟨q3, q4⟩ := q1 b sz' k h1
                        exact ⟨q3, q4, h2.1⟩
                  · exact .undef _
                · rename_i e
                  cases h with
                  | asl _ _ _ _ b k hd hb hle => exact .asl _ _ _ _ b k hd (by rw [hoth e]; exact hb) hle
                  | aslnil _ _ _ base hd hb => exact .aslnil _ _ _ base hd (by rw [hoth e]; exact hb)
              e := fun d' l' i j u h => by
                simp only [frzR]
                split
                · exact .undef _
                · rename_i e
                  cases h with
                  | eptr _ _ _ _ b sz k hd hb => exact .eptr _ _ _ _ b sz k hd (by rw [hoth e]; exact hb)
              own := own }
          refine ⟨γ', ER.map ok hE, ⟨fun d' l' x hx => ?_, fun d' l' hx => ?_, ?_, fun l' g b h => hS.frn l' g b (by rwa [hoth' (by rintro ⟨e, _⟩; cases e)] at h)⟩, ?_, rfl, own⟩
          · simp only [sget] at hx
            split at hx
            · rename_i hd
              subst hd
              by_cases e : l' = l
              · subst e
                rw [lget_put_same] at hx
                cases hx
                refine ⟨blk, hsame, fun b sz' k hb => ?_⟩
                subst hb
                obtain ⟨rfl, c, e, h3, h4, h5, h6, h7, _⟩ := h2
                exact ⟨c, e, h3, h4, h5, h6, h7⟩
              · rw [lget_put_other _ _ e, lget_ren] at hx
                obtain ⟨y, hy, rfl⟩ := Option.map_eq_some_iff.1 hx
                have he := hS.ent r.length l' y (by simp [sget, hy])
                exact EnR.map he ok (fun g h => (hoth (by rintro ⟨_, rfl⟩; exact e rfl)).trans h)
            · rename_i hd
              have he := hS.ent d' l' x (by simp [sget, hd, hx])
              have hlt := sget_lt hx
              exact he.restrict (fun d1 l1 g h' h => (hoth (by omega)).trans h) own
          · simp only [sget] at hx
            split at hx
            · rename_i hd
              subst hd
              by_cases e : l' = l
              · subst e; rw [lget_put_same] at hx; cases hx
              · rw [lget_put_other _ _ e, lget_ren] at hx
                rw [hoth (by rintro ⟨_, rfl⟩; exact e rfl)]
                exact hS.none _ l' (by simpa [sget] using hx)
            · rename_i hd
              rw [hoth (by omega)]
              exact hS.none d' l' (by simp [sget, hd, hx])
          · intro d1 l1 g1 d2 l2 g2 b k1 k2 b1 b2
            have pull : ∀ {d : Option Nat} {l' g}, γ' d l' = some g → g.blk = some b → ∃ g', γ d l' = some g' ∧ g'.blk = some b := by
              intro d l' g k kb
              by_cases e : d = some r.length ∧ l' = l
              · obtain ⟨rfl, rfl⟩ := e
                rw [hsame] at k; cases k
                refine ⟨_, h1, ?_⟩
                cases blk with
                | none => exact kb
                | some y => exact kb
              · rw [hoth' e] at k; exact ⟨g, k, kb⟩
            obtain ⟨g1', k1', b1'⟩ := pull k1 b1
            obtain ⟨g2', k2', b2'⟩ := pull k2 b2
            exact hS.inj d1 l1 g1' d2 l2 g2' b k1' k2' b1' b2'
          · have hne : ∀ {d' l' : Nat}, d' < dep (loc :: r) → γ' d' l' = γ d' l' := fun h => hoth (by simp [dep] at h; omega)
            exact ⟨rfl, rfl, rfl, Nat.le_refl _, fun d' l b h hb => by rw [hne h]; exact hb, fun d' l b h hb => by rw [hne h]; exact hb, fun d' l b h hb => by rw [hne h]; exact hb, fun d' l n blk h hb => ⟨n, blk, by rw [hne h]; exact hb, .inl ⟨rfl, rfl⟩⟩, fun _ _ _ h _ => h, fun b off _ hno ho => hno (own b off ho), fun _ _ _ => rfl, fun _ => hoth' (by rintro ⟨e, _⟩; cases e), fun _ _ _ _ _ => rfl⟩
        · exact Ghost.refl hE hS
      | _ => exact Ghost.refl hE hS

theorem Ghost.trans {e1 e2 : Env} {s1 s2 : Stk} (h : Ghost K e s a w γ e1 s1) (k : ∀ γ1, ER s1.length w γ1 e1 a → SR K s1 w γ1 → Ghost K e1 s1 a w γ1 e2 s2) : Ghost K e s a w γ e2 s2 := by
  obtain ⟨γ1, h1, h2, h3, h4, h5⟩ := h
  obtain ⟨γ2, k1, k2, k3, k4, k5⟩ := k γ1 h1 h2
  have hd : dep s1 = dep s := by simp [dep, h4]
  exact ⟨γ2, k1, k2, h3.trans (by rw [← hd]; exact k3), k4.trans h4, fun b off h => h5 b off (k5 b off h)⟩

theorem frzAll_ok : ∀ (ls : List Nat) {e : Env} {s : Stk} {γ : G}, ER s.length w γ e a → SR K s w γ → Ghost K e s a w γ (frzAll ls e s).1 (frzAll ls e s).2
  | [], _, _, _, hE, hS => Ghost.refl hE hS
  | l :: r, e, s, γ, hE, hS => by
    have h := frz1_ok hE hS l
    simp only [frzAll]
    exact h.trans fun γ1 h1 h2 => frzAll_ok r h1 h2

/-- a new token -/
theorem tok_new (hS : SR K s w γ) (hs : s ≠ []) {l n : Nat} (hn : sget s (dep s) l = none) : SR K (sput s (dep s) l (.tok n)) w (γ.set (dep s) l (.tok n none)) ∧ Ext s.length w γ w (γ.set (dep s) l (.tok n none)) ∧ ∀ b off, Own (γ.set (dep s) l (.tok n none)) b off → Own γ b off := by
  have hd := dep_succ hs
  have hx : Ext s.length w γ w (γ.set (dep s) l (.tok n none)) := Ext.name _ w γ (hS.none _ _ hn) (fun b off h => h.elim)
  refine ⟨hS.step (by omega) hx rfl ⟨none, G.set_same _ _ _ _, fun _ _ _ h => by cases h⟩ (fun _ _ _ _ _ _ _ => rfl) (fun b hb => by simp [GE.blk] at hb), hx, fun b off h => ?_⟩
  rcases own_set h with h | h
  · exact h.elim
  · exact h

theorem own_full {D : Nat} {z sz l : Nat} {es : List (List V)} {u : Value} (h : VR D w γ (.sl .full z es) u) (hz : z = sz ∨ es = []) {d : Nat} (hd : d < D) (hg : γ d l = some (.tok es.length none)) : VR D w γ (.sl (.own d l) sz es) u := by
  cases h with
  | slnil _ _ hc => exact .slnil _ _ ⟨hd, 0, none, hg, Nat.le_refl _, fun _ => rfl⟩
  | sl0 _ _ a cap hc => exact .sl0 _ _ a cap ⟨hd, 0, none, hg, Nat.le_refl _, fun _ => hc⟩
  | sl _ _ _ b off cap hsz hp hle hcap hc hno h =>
    have hcap' : cap = es.length := hcap
    have hcap2 : capOk D γ (.own d l) sz (some ⟨b, off, none⟩) es.length cap := ⟨hd, es.length, none, hg, Nat.le_refl _, fun _ => hcap'⟩
    rcases hz with rfl | rfl
    · exact .sl _ _ _ b off cap hsz hp hle hcap2 hc hno h
    · exact .sl _ sz [] b off cap (by simp) (by simp) hle hcap2 (fun i cs j v hi => by simp at hi) (fun i cs j v hi => by simp at hi) (fun i cs j v u hi => by simp at hi)

theorem thaw_ok (hE : ER s.length w γ e a) (hS : SR K s w γ) {t l sz : Nat} {ex : Ex} {e' : Env} {s' : Stk} (h : thaw t l sz e s = some (ex, e', s')) : ex = .normal ∧ Ghost K e s a w γ e' s' := by
  unfold thaw at h
  split at h
  · rename_i z es he
    split at h
    · rename_i hc
      obtain ⟨hz, hn, hs⟩ := hc
      cases h
      obtain ⟨h1, h2, h3⟩ := tok_new hS hs (l := l) (n := es.length) (by simpa using hn)
      have hd := dep_succ hs
      refine ⟨rfl, _, fun t' => ?_, h1, h2.mono (by omega), by simp, h3⟩
      rw [sput_length]
      simp only [Env.get]
      split
      · rename_i ht
        subst ht
        have hv := hE t'
        rw [he] at hv
        exact own_full (hv.ext h2) hz (by omega) (G.set_same _ _ _ _)
      · exact (hE t').ext h2
    · cases h
  · cases h; exact ⟨rfl, Ghost.refl hE hS⟩
  · cases h

theorem thawc_ok (hE : ER s.length w γ e a) (hS : SR K s w γ) {t off l sz : Nat} {ex : Ex} {e' : Env} {s' : Stk} (h : thawc t off l sz e s = some (ex, e', s')) : ex = .normal ∧ Ghost K e s a w γ e' s' := by
  unfold thawc at h
  split at h
  · rename_i d k o he
    split at h
    · rename_i cs hg
      split at h
      · rename_i z es hcs
        split at h
        · rename_i hc
          obtain ⟨hz, hdd, hn, hs, hkl⟩ := hc
          cases h
          subst hdd
          have hd := dep_succ hs
          obtain ⟨b, c, el, g1, g2, g3⟩ := hS.cell hg
          obtain ⟨γ', hγ⟩ : ∃ γ', γ' = γ.set (dep s) l (.tok es.length none) := ⟨_, rfl⟩
          have hn' : sget s (dep s) l = none := by simpa using hn
          -- first the token, then the cell
          have hs1 : sput s (dep s) l (.tok es.length) ≠ [] := fun e0 => hs (List.eq_nil_of_length_eq_zero (by rw [← sput_length s (dep s) l (.tok es.length), e0]; rfl))
          obtain ⟨h1, h2, h3⟩ := tok_new hS hs (l := l) (n := es.length) hn'
          rw [← hγ] at h1 h2 h3
          have gk : γ' (dep s) k = some (.cell b) := by rw [hγ, G.set_other γ _ (by rintro ⟨_, rfl⟩; exact hkl rfl)]; exact g1
          have gl : γ' (dep s) l = some (.tok es.length none) := by rw [hγ, G.set_same]
          have hlr : LR (dep s + 1) w γ' (cs.set (o + off) (.sl (.own (dep s) l) sz es)) c.toList := by
            have hl0 := g3.ext (h2.mono (show dep s + 1 ≤ s.length by omega))
            refine ⟨by simpa using hl0.1, fun i v u hv hu => ?_⟩
            rw [List.getElem?_set] at hv
            split at hv
            · rename_i hi
              split at hv
              · cases hv
                subst hi
                exact own_full (hl0.2 _ _ u hcs hu) hz (by omega) gl
              · cases hv
            · exact hl0.2 i v u hv hu
          have h4 : SR K (sput (sput s (dep s) l (.tok es.length)) (dep s) k (.cell (cs.set (o + off) (.sl (.own (dep s) l) sz es)))) w γ' := by
            refine h1.step (g := .cell b) (by rw [sput_length]; omega) (Ext.refl _ _ _) (set_self gk).symm ⟨b, c, el, gk, g2, hlr⟩ (fun _ _ _ _ _ _ _ => rfl) ?_
            intro b1 hb1 d' l' g' hne hg' hb'
            simp [GE.blk] at hb1; subst hb1
            exact hne (h1.inj d' l' g' (dep s) k _ b hg' gk hb' rfl)
          have hcomm : ∀ d' l', sget (sput (sput s (dep s) k (.cell (cs.set (o + off) (.sl (.own (dep s) l) sz es)))) (dep s) l (.tok es.length)) d' l' = sget (sput (sput s (dep s) l (.tok es.length)) (dep s) k (.cell (cs.set (o + off) (.sl (.own (dep s) l) sz es)))) d' l' := by
            intro d' l'
            have hlt : dep s < s.length := by omega
            by_cases e1 : d' = dep s ∧ l' = l
            · obtain ⟨rfl, rfl⟩ := e1
              rw [sget_put_same _ _ _ (by simpa using hlt), sget_put_other _ _ (by rintro ⟨_, rfl⟩; exact hkl rfl), sget_put_same _ _ _ hlt]
            · rw [sget_put_other _ _ e1]
              by_cases e2 : d' = dep s ∧ l' = k
              · obtain ⟨rfl, rfl⟩ := e2
                rw [sget_put_same _ _ _ hlt, sget_put_same _ _ _ (by simpa using hlt)]
              · rw [sget_put_other _ _ e2, sget_put_other _ _ e2, sget_put_other _ _ e1]
          refine ⟨rfl, γ', ?_, ⟨fun d' l' x hx => h4.ent d' l' x (by rw [← hcomm]; exact hx), fun d' l' hx => h4.none d' l' (by rw [← hcomm]; exact hx), h4.inj, h4.frn⟩, h2.mono (by omega), by simp, h3⟩
          simp only [sput_length]
          exact hE.ext h2
        · cases h
      · cases h; exact ⟨rfl, Ghost.refl hE hS⟩
      · cases h
    · cases h
  · cases h
end
end Go.Ab

/-
  A call is over: the callee's frame goes, what its result names goes to the caller's.
-/
namespace Go.Ab

theorem idxOf_inj {ls : List Nat} {a b : Nat} (ha : a ∈ ls) (hb : b ∈ ls) (h : idxOf a ls = idxOf b ls) : a = b := by
  induction ls with
  | nil => cases ha
  | cons x r ih =>
    simp only [idxOf] at h
    split at h
    · rename_i h1
      split at h
      · rename_i h2; rw [h1, h2]
      · omega
    · rename_i h1
      split at h
      · omega
      · rename_i h2
        refine ih ?_ ?_ (by omega)
        · cases ha with
          | head => exact absurd rfl h1
          | tail _ h => exact h
        · cases hb with
          | head => exact absurd rfl h2
          | tail _ h => exact h

theorem newLab_inj {ls : List Nat} {a b lab : Nat} (ha : a ∈ ls) (hb : b ∈ ls) (h : newLab lab a ls = newLab lab b ls) : a = b := by
  unfold newLab at h
  exact idxOf_inj ha hb (by omega)

theorem dep_sput (s : Stk) (d l : Nat) (x : Entry) : dep (sput s d l x) = dep s := by simp [dep]

theorem adoptAll_spec {own : Bool} {d : Nat} {ls : List Nat} {loc : Loc} {lab : Nat} : ∀ {r : List Nat} {s s' : Stk}, (∀ l ∈ r, l ∈ ls) → s ≠ [] → adoptAll own d ls loc lab r s = some s' →
    s'.length = s.length ∧ (∀ l ∈ r, ∃ x, loc.get l = some x ∧ x.goes own = true ∧ sget s (dep s) (newLab lab l ls) = none ∧ sget s' (dep s) (newLab lab l ls) = some (x.map (renR own d loc ls (dep s) lab))) ∧
    ∀ d' l', (¬ (d' = dep s ∧ ∃ l ∈ r, l' = newLab lab l ls)) → sget s' d' l' = sget s d' l'
  | [], s, s', _, _, h => by simp [adoptAll] at h; subst h; simp
  | l :: r, s, s', hm, hs, h => by
    simp only [adoptAll] at h
    split at h
    · rename_i x hx
      split at h
      · rename_i hc
        simp only [Bool.and_eq_true] at hc
        have hn : sget s (dep s) (newLab lab l ls) = none := by simpa using hc.2
        have hs1 : sput s (dep s) (newLab lab l ls) (x.map (renR own d loc ls (dep s) lab)) ≠ [] := fun e0 => hs (List.eq_nil_of_length_eq_zero (by rw [← sput_length s (dep s) (newLab lab l ls), e0]; rfl))
        obtain ⟨h1, h2, h3⟩ := adoptAll_spec (fun l' hl => hm l' (by simp [hl])) hs1 h
        rw [dep_sput] at h2 h3
        rw [sput_length] at h1
        have hlt : dep s < s.length := by have := dep_succ hs; omega
        -- l itself does not come up again
        have hnr : l ∉ r := by
          intro hr
          obtain ⟨_, _, _, h4, _⟩ := h2 l hr
          rw [sget_put_same _ _ _ hlt] at h4
          cases h4
        refine ⟨h1, ?_, ?_⟩
        · intro l' hl'
          cases hl' with
          | head =>
            refine ⟨x, hx, hc.1, hn, ?_⟩
            rw [h3 _ _ (by
              rintro ⟨_, l', hl', e⟩
              exact hnr (by rw [newLab_inj (hm l (by simp)) (hm l' (by simp [hl'])) e]; exact hl')), sget_put_same _ _ _ hlt]
          | tail _ hl' =>
            obtain ⟨y, k1, k2, k3, k4⟩ := h2 l' hl'
            refine ⟨y, k1, k2, ?_, k4⟩
            rw [sget_put_other] at k3
            · exact k3
            · rintro ⟨_, e⟩
              exact hnr (by rw [newLab_inj (hm l (by simp)) (hm l' (List.mem_cons_of_mem _ hl')) e.symm]; exact hl')
        · intro d' l' hne
          rw [h3 d' l' (by rintro ⟨e, l2, hl2, e2⟩; exact hne ⟨e, l2, by simp [hl2], e2⟩), sget_put_other _ _ (by rintro ⟨e, e2⟩; exact hne ⟨e, l, by simp, e2⟩)]
      · cases h
    · cases h

section
variable {K : KK} {s : Stk} {w : World} {γ : G} {own : Bool} {loc : Loc} {lab : Nat} {ls : List Nat}

/-- the names behind a call -/
def G.pop (γ : G) (n : Nat) (ls : List Nat) (lab : Nat) : G := fun d' l => match d' with
  | none => γ none l
  | some d => if d < n then (match γ d l with
    | some g => some g
    | none => if d = n - 1 then (match ls.find? fun k => newLab lab k ls == l with
      | some k => γ n k
      | none => none) else none)
  else none

theorem pop_none {n l : Nat} : γ.pop n ls lab none l = γ none l := rfl

theorem pop_old {n : Nat} {d l : Nat} {g : GE} (hd : d < n) (h : γ d l = some g) : γ.pop n ls lab d l = some g := by
  simp [G.pop, hd, h]

theorem pop_new {n : Nat} (hn : 0 < n) {l : Nat} (hl : l ∈ ls) (h : γ (some (n - 1)) (newLab lab l ls) = none) : γ.pop n ls lab (some (n - 1)) (newLab lab l ls) = γ n l := by
  simp only [G.pop]
  rw [if_pos (by omega), h]
  simp only [if_true]
  cases hf : ls.find? fun k => newLab lab k ls == newLab lab l ls with
  | none => exact absurd (List.find?_eq_none.1 hf l hl) (by simp)
  | some k =>
    have h1 := List.find?_some hf
    have h2 := List.mem_of_find?_eq_some hf
    rw [newLab_inj h2 hl (by simpa using h1)]

/-- whence -/
theorem pop_from {n : Nat} {d : Option Nat} {l : Nat} {g : GE} (h : γ.pop n ls lab d l = some g) : ((∀ d', d = some d' → d' < n) ∧ γ d l = some g) ∨ (d = some (n - 1) ∧ 0 < n ∧ ∃ k, k ∈ ls ∧ newLab lab k ls = l ∧ γ n k = some g) := by
  cases d with
  | none => exact .inl ⟨(fun _ e => by cases e), h⟩
  | some d =>
  simp only [G.pop] at h
  split at h
  · rename_i hd
    split at h
    · rename_i g' hg; cases h; exact .inl ⟨(fun d' e => by cases e; exact hd), hg⟩
    · split at h
      · rename_i hd'
        split at h
        · rename_i k hf
          exact .inr ⟨by rw [hd'], by omega, k, List.mem_of_find?_eq_some hf, by simpa using List.find?_some hf, h⟩
        · cases h
      · cases h
  · cases h

theorem own_pop {n : Nat} : ∀ b off, Own (γ.pop n ls lab) b off → Own γ b off := by
  rintro b off ⟨d, l, g, h1, h2⟩
  rcases pop_from h1 with ⟨_, h⟩ | ⟨_, _, k, _, _, h⟩
  · exact ⟨d, l, g, h, h2⟩
  · exact ⟨n, k, g, h, h2⟩

theorem pop_ok (hS : SR K (loc :: s) w γ) (hs : s = [] → ls = []) {s' : Stk} (hlen : s'.length = s.length)
    (h1 : ∀ l ∈ ls, ∃ x, loc.get l = some x ∧ x.goes own = true ∧ sget s (dep s) (newLab lab l ls) = none ∧ sget s' (dep s) (newLab lab l ls) = some (x.map (renR own s.length loc ls (dep s) lab)))
    (h2 : ∀ d' l', (¬ (d' = dep s ∧ ∃ l ∈ ls, l' = newLab lab l ls)) → sget s' d' l' = sget s d' l') :
    RenOk (renR own s.length loc ls (dep s) lab) (s.length + 1) w γ s.length (γ.pop s.length ls lab) ∧ SR K s' w (γ.pop s.length ls lab) := by
  have hdep : dep s = s.length - 1 := rfl
  have hlow : ∀ {d l}, d < s.length → sget (loc :: s) d l = sget s d l := fun h => by simp only [sget]; rw [if_neg (by omega)]
  have hpos : ∀ {l}, l ∈ ls → 0 < s.length := fun hl => by
    cases s with
    | nil => rw [hs rfl] at hl; cases hl
    | cons _ _ => simp
  have hnew : ∀ {l}, l ∈ ls → γ.pop s.length ls lab (dep s) (newLab lab l ls) = γ s.length l := fun {l} hl => by
    obtain ⟨x, _, _, k3, _⟩ := h1 l hl
    refine pop_new (hpos hl) hl (hS.none _ _ ?_)
    rw [hlow (by have := hpos hl; omega)]; exact k3
  have ok : RenOk (renR own s.length loc ls (dep s) lab) (s.length + 1) w γ s.length (γ.pop s.length ls lab) :=
    { p := fun a l o u h => by
        simp only [renR]
        cases h with
        | ptr _ _ _ b hd hb =>
          split
          · rename_i ha
            subst ha
            split
            · rename_i hl
              have hl : l ∈ ls := by simpa using hl
              exact .ptr _ _ _ b (by have := hpos hl; omega) ((hnew hl).trans hb)
            · exact .undef _
          · rename_i ha
            exact .ptr _ _ _ b (by omega) (pop_old (by omega) hb)
      c := fun c sz base len cap h => by
        simp only [renR]
        split
        · cases c with
          | no => trivial
          | full => exact h
          | own a l =>
            simp only [Cap.ren]
            obtain ⟨hd, n, blk, k1, k2⟩ := h
            split
            · rename_i ha
              subst ha
              split
              · rename_i hl
                have hl : l ∈ ls := by simp only [Bool.and_eq_true] at hl; simpa using hl.2
                exact ⟨by have := hpos hl; omega, n, blk, (hnew hl).trans k1, k2⟩
              · trivial
            · rename_i ha
              exact ⟨by omega, n, blk, pop_old (by omega) k1, k2⟩
        · trivial
      y := fun a l u h => by
        simp only [renR]
        cases h with
        | yld _ _ b hd hb =>
          split
          · exact .undef _
          · rename_i ha
            exact .yld _ _ b (by omega) (pop_old (by omega) hb)
      a := fun a l z n u h => by
        simp only [renR]
        split
        · rename_i ha
          subst ha
          split
          · split
            · rename_i hl
              have hl : l ∈ ls := by simpa using hl
              cases h with
              | asl _ _ _ _ b k hd hb hle => exact .asl _ _ _ _ b k (by have := hpos hl; omega) ((hnew hl).trans hb) hle
              | aslnil _ _ _ base hd hb => exact .aslnil _ _ _ base (by have := hpos hl; omega) ((hnew hl).trans hb)
            · exact .undef _
          · rename_i hown
            split
            · rename_i sz es hl
              split
              · rename_i hc
                obtain ⟨hz, hn, hok⟩ := hc
                refine arr_frozen hS h (by simp [sget, hl]) hok hn own_pop ?_ (fun _ _ _ _ => trivial) hz
                rintro b sz' k hb j _ ⟨d1, l1, g1, k1, k2⟩
                have kb := GE.owns_blk k2
                rcases pop_from k1 with ⟨hd1, h3⟩ | ⟨_, _, k', hk', _, h3⟩
                · have := (hS.inj d1 l1 g1 s.length l _ b h3 hb kb rfl).1; exact absurd (hd1 _ this) (Nat.lt_irrefl _)
                · have := (hS.inj s.length k' g1 s.length l _ b h3 hb kb rfl).2
                  subst this
                  obtain ⟨x, hx, hg, _⟩ := h1 k' hk'
                  rw [hl] at hx; cases hx
                  simp [Entry.goes] at hg
                  exact hown hg
              · exact .undef _
            · exact .undef _
        · rename_i ha
          cases h with
          | asl _ _ _ _ b k hd hb hle => exact .asl _ _ _ _ b k (by omega) (pop_old (by omega) hb) hle
          | aslnil _ _ _ base hd hb => exact .aslnil _ _ _ base (by omega) (pop_old (by omega) hb)
      e := fun a l i j u h => by
        simp only [renR]
        split
        · exact .undef _
        · cases h with
          | eptr _ _ _ _ b sz k hd hb => exact .eptr _ _ _ _ b sz k (by omega) (pop_old (by omega) hb)
      own := own_pop }
  refine ⟨ok, ⟨fun d l x hx => ?_, fun d l hx => ?_, ?_, hS.frn⟩⟩
  · by_cases e : d = dep s ∧ ∃ k ∈ ls, l = newLab lab k ls
    · obtain ⟨rfl, k, hk, rfl⟩ := e
      obtain ⟨y, k1, k2, k3, k4⟩ := h1 k hk
      rw [k4] at hx
      cases hx
      have he := hS.ent s.length k y (by simp [sget, k1])
      have hp := hpos hk
      have hd1 : dep s + 1 = s.length := by omega
      exact EnR.map he (by rw [hd1]; exact ok) (fun g hg => (hnew hk).trans hg)
    · rw [h2 d l e] at hx
      have hlt := sget_lt hx
      have he := hS.ent d l x (by rw [hlow hlt]; exact hx)
      exact he.restrict (fun d' l' g hd' hg => pop_old (by omega) hg) own_pop
  · cases hp : γ.pop s.length ls lab d l with
    | none => rfl
    | some g =>
      exfalso
      rcases pop_from hp with ⟨hd, hg⟩ | ⟨hd, hpos', k, hk, rfl, hg⟩
      · by_cases e : d = dep s ∧ ∃ k ∈ ls, l = newLab lab k ls
        · obtain ⟨rfl, k, hk, rfl⟩ := e
          obtain ⟨y, _, _, _, k4⟩ := h1 k hk
          rw [k4] at hx; cases hx
        · rw [h2 d l e] at hx
          have := hS.none d l (by rw [hlow (hd d rfl)]; exact hx)
          rw [this] at hg; cases hg
      · obtain ⟨y, _, _, _, k4⟩ := h1 k hk
        cases hd
        rw [← hdep, k4] at hx; cases hx
  · intro d1 l1 g1 d2 l2 g2 b k1 k2 b1 b2
    rcases pop_from k1 with ⟨hd1, q1⟩ | ⟨hd1, hp1, m1, hm1, rfl, q1⟩
    · rcases pop_from k2 with ⟨hd2, q2⟩ | ⟨hd2, hp2, m2, hm2, rfl, q2⟩
      · exact hS.inj d1 l1 g1 d2 l2 g2 b q1 q2 b1 b2
      · have := (hS.inj d1 l1 g1 s.length m2 g2 b q1 q2 b1 b2).1; exact absurd (hd1 _ this) (Nat.lt_irrefl _)
    · rcases pop_from k2 with ⟨hd2, q2⟩ | ⟨hd2, hp2, m2, hm2, rfl, q2⟩
      · have := (hS.inj s.length m1 g1 d2 l2 g2 b q1 q2 b1 b2).1; exact absurd (hd2 _ this.symm) (Nat.lt_irrefl _)
      · have := (hS.inj _ m1 g1 _ m2 g2 b q1 q2 b1 b2).2
        subst this
        exact ⟨hd1.trans hd2.symm, rfl⟩

theorem pop_ext (ls : List Nat) (lab : Nat) {w0 : World} {γ0 : G} {n : Nat} (hx : Ext n w0 γ0 w γ) : Ext n w0 γ0 w (γ.pop n ls lab) :=
  ⟨hx.os, hx.tape, hx.output, hx.size, fun d l b hd hb => pop_old hd (hx.cell d l b hd hb), fun d l b hd hb => pop_old hd (hx.obj d l b hd hb), fun d l b hd hb => pop_old hd (hx.arr d l b hd hb),
    fun d l n blk hd hb => by obtain ⟨n', blk', h1, h2⟩ := hx.tok d l n blk hd hb; exact ⟨n', blk', pop_old hd h1, h2⟩, hx.keep, fun b off hlt hno ho => hx.free b off hlt hno (own_pop b off ho), hx.block, fun l => hx.frn l, hx.fheap⟩

/-- A CALL IS OVER. -/
theorem adopt_ok (hS : SR K (loc :: s) w γ) {r v : V} {u : Value} (hr : VR (s.length + 1) w γ r u) {s' : Stk} (h : adopt own loc r lab s = some (v, s')) :
    ∃ γ', VR s'.length w γ' v u ∧ SR K s' w γ' ∧ s'.length = s.length ∧ ∀ w0 γ0, Ext s.length w0 γ0 w γ → Ext s.length w0 γ0 w γ' := by
  have ext : ∀ (ls : List Nat) w0 γ0, Ext s.length w0 γ0 w γ → Ext s.length w0 γ0 w (γ.pop s.length ls lab) := fun ls w0 γ0 hx => pop_ext ls lab hx
  unfold adopt at h
  split at h
  · cases h
    obtain ⟨ok, hS'⟩ := pop_ok (own := own) (lab := lab) (ls := []) hS (fun _ => rfl) rfl (by simp) (fun _ _ _ => rfl)
    exact ⟨_, VR.map' ok _ _ hr, hS', rfl, ext []⟩
  · rename_i ls _
    split at h
    · cases h
    · rename_i hemp
      obtain ⟨s1, h1, h2⟩ := Option.map_eq_some_iff.1 h
      cases h2
      have hs : s ≠ [] := by simpa using hemp
      obtain ⟨k1, k2, k3⟩ := adoptAll_spec (fun _ h => h) hs h1
      obtain ⟨ok, hS'⟩ := pop_ok hS (fun e => absurd e hs) k1 k2 k3
      refine ⟨_, ?_, hS', k1, ext _⟩
      rw [k1]
      exact VR.map' ok _ _ hr
end
end Go.Ab

/-
  'exec' is right, of code: all but a call's entry.
-/
namespace Go.Ab

def Ex.out : Ex → Exit
  | .normal => .normal
  | .exit id => .exit id
  | .ret => .ret

/-- the records of loops are of this code -/
def KP (P : Program) : KK := fun ps A B _ N tps assign body =>
  tps.toList = ps ∧ (∃ ann a1, comp P N assign ann = some (A, a1)) ∧ (∃ ann a2, comp P N body ann = some (B, a2)) ∧ noRng assign = true ∧ noRng body = true ∧ ∀ t ∈ ps, t < N

/-- the marks among a frame's deferred calls -/
def Marks (w0 : Nat) (γ : G) (ds : List Deferred) (w : World) : Prop :=
  (ds.map (·.target)).Nodup ∧ ∀ d ∈ ds, ∃ r, d.target = .collected r ∧ w0 ≤ r ∧ w.heap[r]? = some (.deferred (some [])) ∧ ∀ off, ¬ Own γ r off

theorem Marks.ext {w0 : Nat} {γ γ' : G} {ds : List Deferred} {w w' : World} {D : Nat} (h : Marks w0 γ ds w) (x : Ext D w γ w' γ') : Marks w0 γ' ds w' := by
  refine ⟨h.1, fun d hd => ?_⟩
  obtain ⟨r, h1, h2, h3, h4⟩ := h.2 d hd
  have hlt : r < w.heap.size := (Array.getElem?_eq_some_iff.1 h3).1
  exact ⟨r, h1, h2, (x.block r hlt h4).trans h3, fun off => x.free r off hlt (h4 off)⟩

theorem Marks.own {w0 : Nat} {γ γ' : G} {ds : List Deferred} {w : World} (h : Marks w0 γ ds w) (own : ∀ b off, Own γ' b off → Own γ b off) : Marks w0 γ' ds w := by
  refine ⟨h.1, fun d hd => ?_⟩
  obtain ⟨r, h1, h2, h3, h4⟩ := h.2 d hd
  exact ⟨r, h1, h2, h3, fun off ho => h4 off (own _ _ ho)⟩

def CodePost (K : KK) (N w0 D L : Nat) (w : World) (γ : G) (ex : Ex) (e' : Env) (s' : Stk) : Exit → Act → World → Prop := fun x a' w' =>
  x = ex.out ∧ ∃ γ', a'.tmps.size = N ∧ ER s'.length w' γ' e' a' ∧ SR K s' w' γ' ∧ Ext D w γ w' γ' ∧ s'.length = L ∧ Marks w0 γ' a'.defers w'

/-- what is asked ahead of code -/
structure Pre (P : Program) (N w0 : Nat) (e : Env) (s : Stk) (a : Act) (w : World) (γ : G) : Prop where
  ne : s ≠ []
  size : a.tmps.size = N
  env : ER s.length w γ e a
  stk : SR (KP P) s w γ
  marks : Marks w0 γ a.defers w
  w0 : w0 ≤ w.heap.size

def CodeOk (P : Program) (X : Exec) : Prop := ∀ N c ann ac ann', comp P N c ann = some (ac, ann') → ∀ e s ex e' s', X ac e s = some (ex, e', s') →
  ∀ F, Wide F → (F.round = none ∨ noRng c = true) → ∀ n w0 w γ a, Pre P N w0 e s a w γ → c.wpIn F n P (CodePost (KP P) N w0 (dep s) s.length w γ ex e' s') a w

def DrawOk (P : Program) (T : Tab) (X : Exec) : Prop := ∀ N id ops muts al als live, compOpers P N muts ops ops.toList.zipIdx = some als → presOk ops.toList 0 (Ab.pres ops.toList []) = true →
  ∀ e s ex e' s', stepDrawn T X (drawn al als (Ab.pres ops.toList []) als.zipIdx) live e s = some (ex, e', s') → ∀ F, Wide F → ∀ n w0 w γ a, Pre P N w0 e s a w γ →
    (Code.region id ops true).wpIn F n P (CodePost (KP P) N w0 (dep s) s.length w γ ex e' s') a w

section
variable {P : Program} {T : Tab} {N w0 : Nat} {e : Env} {s : Stk} {a : Act} {w : World} {γ : G}

theorem Pre.post (h : Pre P N w0 e s a w γ) {D L : Nat} {wI : World} {γI : G} (hx : Ext D wI γI w γ) (hL : s.length = L) (ex : Ex) : CodePost (KP P) N w0 D L wI γI ex e s ex.out a w :=
  ⟨rfl, γ, h.size, h.env, h.stk, hx, hL, h.marks⟩

theorem Pre.ghost (h : Pre P N w0 e s a w γ) {e' : Env} {s' : Stk} (g : Ghost (KP P) e s a w γ e' s') : ∃ γ', Pre P N w0 e' s' a w γ' ∧ Ext (dep s) w γ w γ' ∧ s'.length = s.length := by
  obtain ⟨γ', h1, h2, h3, h4, h5⟩ := g
  refine ⟨γ', ⟨?_, h.size, h1, h2, h.marks.own h5, h.w0⟩, h3, h4⟩
  intro e0
  rw [e0] at h4
  exact h.ne (List.eq_nil_of_length_eq_zero h4.symm)

theorem CodePost.pre {D L : Nat} {wI : World} {γI : G} {ex : Ex} {e' : Env} {s' : Stk} {x : Exit} {a' : Act} {w' : World} (h : CodePost (KP P) N w0 D L wI γI ex e' s' x a' w') (hL : L ≠ 0) (hw : w0 ≤ wI.heap.size) :
    ∃ γ', Pre P N w0 e' s' a' w' γ' ∧ Ext D wI γI w' γ' ∧ s'.length = L ∧ x = ex.out := by
  obtain ⟨h0, γ', h1, h2, h3, h4, h5, h6⟩ := h
  exact ⟨γ', ⟨fun e0 => by rw [e0] at h5; exact hL h5.symm, h1, h2, h3, h6, Nat.le_trans hw h4.size⟩, h4, h5, h0⟩

theorem CodePost.weak {D L : Nat} {wI w1 : World} {γI γ1 : G} {ex : Ex} {e' : Env} {s' : Stk} {x : Exit} {a' : Act} {w' : World} (h : CodePost (KP P) N w0 D L w1 γ1 ex e' s' x a' w') (hx : Ext D wI γI w1 γ1) : CodePost (KP P) N w0 D L wI γI ex e' s' x a' w' := by
  obtain ⟨h0, γ', h1, h2, h3, h4, h5, h6⟩ := h
  exact ⟨h0, γ', h1, h2, h3, hx.trans h4, h5, h6⟩

theorem Pre.len (h : Pre P N w0 e s a w γ) : s.length ≠ 0 := fun e0 => h.ne (List.eq_nil_of_length_eq_zero e0)

/-- ghosts ahead of a loop -/
theorem ghosts_ok : ∀ (gs : List Gh) {c : AC} {n : Nat} {e : Env} {s : Stk} {γ : G} {r : Ex × Env × Stk}, exec T n (ghosts gs c) e s = some r → Pre P N w0 e s a w γ →
    ∃ e1 s1 m γ1, m ≤ n ∧ exec T m c e1 s1 = some r ∧ Pre P N w0 e1 s1 a w γ1 ∧ Ext (dep s) w γ w γ1 ∧ s1.length = s.length
  | [], c, n, e, s, γ, r, h, hp => ⟨e, s, n, γ, Nat.le_refl _, h, hp, Ext.refl _ _ _, rfl⟩
  | g :: gs, c, n, e, s, γ, r, h, hp => by
    cases n with
    | zero => cases g <;> cases h
    | succ n =>
      have key : ∀ (ag : AC), exec T (n + 1) (.seq ag (ghosts gs c)) e s = some r → (∀ m ex e' s', exec T m ag e s = some (ex, e', s') → ex = .normal ∧ Ghost (KP P) e s a w γ e' s') →
          ∃ e1 s1 m γ1, m ≤ n + 1 ∧ exec T m c e1 s1 = some r ∧ Pre P N w0 e1 s1 a w γ1 ∧ Ext (dep s) w γ w γ1 ∧ s1.length = s.length := by
        intro ag h hg
        simp only [exec, step] at h
        split at h
        · rename_i e' s' h1
          obtain ⟨_, h2⟩ := hg n _ _ _ h1
          obtain ⟨γ', p1, p2, p3⟩ := hp.ghost h2
          obtain ⟨e1, s1, m, γ1, q1, q2, q3, q4, q5⟩ := ghosts_ok gs h p1
          refine ⟨e1, s1, m, γ1, by omega, q2, q3, p2.trans ?_, q5.trans p3⟩
          have : dep s' = dep s := by simp [dep, p3]
          rwa [this] at q4
        · rename_i h1
          exfalso
          obtain ⟨ex, e', s'⟩ := r
          obtain ⟨rfl, _⟩ := hg n _ _ _ h
          exact h1 _ _ h
      cases g with
      | t t l z =>
        refine key (.thaw t l z) h fun m ex e' s' hm => ?_
        cases m with
        | zero => cases hm
        | succ m => exact thaw_ok hp.env hp.stk hm
      | c t off l z =>
        refine key (.thawc t off l z) h fun m ex e' s' hm => ?_
        cases m with
        | zero => cases hm
        | succ m => exact thawc_ok hp.env hp.stk hm

theorem frozen_ok {ls : List Nat} {c : AC} {n : Nat} {r : Ex × Env × Stk} (h : exec T n (frozen ls c) e s = some r) (hp : Pre P N w0 e s a w γ) :
    ∃ e1 s1 m γ1, m ≤ n ∧ exec T m c e1 s1 = some r ∧ Pre P N w0 e1 s1 a w γ1 ∧ Ext (dep s) w γ w γ1 ∧ s1.length = s.length := by
  cases ls with
  | nil => exact ⟨e, s, n, γ, Nat.le_refl _, h, hp, Ext.refl _ _ _, rfl⟩
  | cons l ls =>
    simp only [frozen] at h
    cases n with
    | zero => cases h
    | succ n =>
      cases n with
      | zero => simp [exec, step] at h
      | succ n =>
        simp only [exec, step] at h
        obtain ⟨γ', p1, p2, p3⟩ := hp.ghost (frzAll_ok (l :: ls) hp.env hp.stk)
        exact ⟨_, _, n + 1, γ', by omega, h, p1, p2, p3⟩

theorem out_inj {x y : Ex} (h : x.out = y.out) : x = y := by
  cases x <;> cases y <;> simp_all [Ex.out]

/-- the rounds of a loop -/
theorem loop_ok {c : Code} {ac : AC} {ann ann' : Ann} (hc : comp P N c ann = some (ac, ann')) {F : Fence} (hF : Wide F) (hr : F.round = none ∨ noRng c = true) {n : Nat} {live keep : List Nat} {ex : Ex} {e' : Env} {s' : Stk} {D L : Nat} {wI : World} {γI : G} (hw : w0 ≤ wI.heap.size) :
    ∀ (k : Nat), (∀ j, j < k → CodeOk P (exec T j)) → ∀ {e : Env} {s : Stk} {a : Act} {w : World} {γ : G}, exec T k (.loop live keep ac) e s = some (ex, e', s') → Pre P N w0 e s a w γ → Ext D wI γI w γ → dep s = D → s.length = L →
      Code.roundsIn F n P c (CodePost (KP P) N w0 D L wI γI ex e' s') k a w
  | 0, _, _, _, _, _, _, h, _, _, _, _ => by cases h
  | k + 1, ih, e, s, a, w, γ, h, hp, hx, hD, hL => by
    simp only [exec, step, stepLoop] at h
    rw [roundsIn_succ]
    have hdep : dep (gcStk keep s) = dep s := by simp [dep, gcStk_length]
    have hpg : Pre P N w0 (gcEnv live keep e s) (gcStk keep s) a w (γ.drop (dep s) keep) :=
      ⟨fun e0 => hp.len (by rw [← gcStk_length keep s, e0]; rfl), hp.size, by rw [gcStk_length]; exact hp.env.gc live keep, hp.stk.gc keep, hp.marks.own own_drop, hp.w0⟩
    have hxg : Ext (dep s) w γ w (γ.drop (dep s) keep) := Ext.drop (Nat.le_refl _)
    have run : ∀ ex1 e1 s1, exec T k ac (gcEnv live keep e s) (gcStk keep s) = some (ex1, e1, s1) →
        c.wpIn F n P (CodePost (KP P) N w0 D L wI γI ex1 e1 s1) a w := by
      intro ex1 e1 s1 h1
      have := ih k (by omega) N c ann ac ann' hc _ _ _ _ _ h1 F hF hr n w0 w _ a hpg
      rw [hdep, hD, gcStk_length, hL] at this
      refine wpIn_mono this fun x a1 w1 hq => ?_
      exact (hq.weak (by rw [← hD]; exact hxg)).weak hx
    split at h
    · rename_i e1 s1 h1
      refine wpIn_mono (run _ _ _ h1) fun x a1 w1 hq => ?_
      obtain ⟨γ1, q1, q2, q3, q4⟩ := hq.pre (by rw [← hL]; exact hp.len) hw
      subst q4
      show Code.roundsIn F n P c _ k a1 w1
      exact loop_ok hc hF hr hw k (fun j hj => ih j (by omega)) h q1 q2 (by rw [← hD]; simp [dep, q3, hL]) q3
    · rename_i h1
      obtain ⟨y, hy⟩ : ∃ y, exec T k ac (gcEnv live keep e s) (gcStk keep s) = y := ⟨_, rfl⟩
      rw [hy] at h
      subst h
      refine wpIn_mono (run _ _ _ hy) fun x a1 w1 hq => ?_
      have hx : x = ex.out := hq.1
      cases ex with
      | normal => exact absurd hy (h1 _ _)
      | exit id => subst hx; exact hq
      | ret => subst hx; exact hq

theorem shut_ext {D : Nat} {w0 : World} {γ0 : G} {w w' : World} {γ : G} (h : Ext D w0 γ0 w γ) {r : Nat} (hr : w0.heap.size ≤ r) (os : w'.os = w.os) (tape : w'.tape = w.tape) (output : w'.output = w.output) (size : w'.heap.size = w.heap.size)
    (heap : ∀ k, k ≠ r → w'.heap[k]? = w.heap[k]?) (hf : ∀ l g b, γ0 none l = some g → g.blk = some b → b < w0.heap.size) : Ext D w0 γ0 w' γ := by
  refine ⟨os.trans h.os, tape.trans h.tape, output.trans h.output, by rw [size]; exact h.size, h.cell, h.obj, h.arr, h.tok, fun b off u hc hno => ?_, h.free, fun b hb hno => ?_, h.frn, fun l g b hg hb => ?_⟩
  · have hlt : b < w0.heap.size := World.block_lt_of_cell? w0 _ hc
    have := h.keep b off u hc hno
    rw [← this]
    exact World.cell?_of_block (heap b (by omega))
  · rw [heap b (by omega)]; exact h.block b hb hno
  · rw [heap b (by have := hf l g b hg hb; omega)]; exact h.fheap l g b hg hb

end
end Go.Ab
