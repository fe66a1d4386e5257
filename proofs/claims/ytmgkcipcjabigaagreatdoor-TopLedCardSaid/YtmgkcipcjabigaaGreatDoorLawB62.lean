/-
  TopLed: whatever the arguments, the law answers true and leaves them as they were.
-/
import Derived.Test.YtmgkcipcjabigaaGreatDoorEq3
import Derived.Test.YtmgkcipcjabigaaGreatDoorCards
import Derived.Test.YtmgkcipcjabigaaGreatDoorTie
import Derived.LaidMore
import Derived.SevenTiedAt
set_option linter.unusedSimpArgs false
set_option linter.unusedVariables false
namespace Go.Proofs.YtmgkcipcjabigaaGreatDoor.topLed
open Go.ChangeShapes Go.WideShapes Go.ChangeAt Go.RowKit Go.Ab
set_option linter.unusedVariables false
set_option maxRecDepth 100000
theorem own : ownKnob Tryz.prog.godebug = none := by kernel_rfl
theorem laidOut : laidOutB Tryz.prog = true := by kernel_rfl
theorem readable : ∀ t ∈ Tryz.f3.params.toList, Tryz.prog.readableRec t = true ∧ t < Tryz.prog.types.size := by
 have h : (Tryz.f3.params.toList.all fun t => Tryz.prog.readableRec t && decide (t < Tryz.prog.types.size)) = true := by kernel_rfl
 intro t ht
 have := List.all_eq_true.1 h t ht
 simpa using this
theorem ok25 : okTy Tryz.prog 8 25 = true := by kernel_rfl
abbrev laid1 : List (String × DataW Unit) := [("almadraba/beasts.far", Rows.laid_almadraba_beasts_far)]
theorem gFar : Tryz.prog.globalNamed "almadraba/beasts.far" = some 0 := by kernel_rfl
theorem tFar : (Tryz.prog.globals[0]?).map (·.type) = some 58 := by kernel_rfl
theorem cFar : Tryz.prog.cellsOf 58 = 2 := by kernel_rfl
theorem cInt' : Tryz.prog.cellsOf 3 = 1 := by kernel_rfl
theorem one : Tryz.prog.globals.size = 1 := by kernel_rfl
theorem laidG_far {g : Nat} {cs : List Int} (h : laidG Tryz.prog g = some cs) : g = 0 ∧ cs = [1073741824, 1073741824] := by
 unfold laidG at h
 split at h
 ·rename_i hx
  refine ⟨?_, (Option.some.inj h).symm⟩
  by_cases hg : g < Tryz.prog.globals.size
  ·rw [one] at hg; omega
  ·rw [Array.getElem?_eq_none (by omega)] at hx; simp at hx
 ·cases h
theorem door_met (os : Os) (args : Array Value) : laidMetH Tryz.prog laid1 ((World.doorLaid Tryz.prog 14 os).forCall (fun _ _ => 0) ⟨#[], args, []⟩).memory :=
 laidMetH_of_parts3 (fuel := 8) (laidMet_of_run' 8 (by kernel_rfl) (by kernel_rfl)) (by kernel_rfl) (by kernel_rfl)
theorem of_laid {W : World} (h : laidMetH Tryz.prog laid1 W) : GlobOk (KP Tryz.prog) W γ0 := by
 rw [MakeChecks.laidMetH_plain _ _ _ (by kernel_rfl)] at h
 obtain ⟨ps, ⟨g0, t0, cs0, f0, p0, q0, hg0, ht0, hv0, hd0, _, _⟩, _, _⟩ := h
 obtain rfl := Option.some.inj (gFar.symm.trans hg0)
 obtain rfl := Option.some.inj (tFar.symm.trans ht0)
 obtain ⟨xs, m, rfl, hx, hlen, hn, hel⟩ := DataW.trod_struct Tryz.underlying58 hd0
 have h0 := hel 0 _ rfl
 have h1 := hel 1 _ rfl
 change DataW.trod _ Tryz.prog W 0 _ false m 3 ((cs0.toList.drop 0).take (Tryz.prog.cellsOf 3)) = xs[0]? at h0
 change DataW.trod _ Tryz.prog W 0 _ false m 3 ((cs0.toList.drop 1).take (Tryz.prog.cellsOf 3)) = xs[1]? at h1
 rw [cInt'] at h0 h1
 match xs, hn, hx, h0, h1 with
 | [x0, x1], _, hx, h0, h1 =>
   simp only [Rows.laid_almadraba_beasts_far, Prod.mk.injEq, DataW.agg.injEq, List.map_cons, List.map_nil, List.cons.injEq] at hx
   obtain ⟨a, e1, e2, _⟩ := DataW.trod_int Tryz.underlying3 (show DataW.trod _ Tryz.prog W 0 _ false m 3 _ = some x0 from h0)
   obtain ⟨b, e3, e4, _⟩ := DataW.trod_int Tryz.underlying3 (show DataW.trod _ Tryz.prog W 0 _ false m 3 _ = some x1 from h1)
   have ha : a = 1073741824 := by rw [e2] at hx; simpa using hx.1.1.symm
   have hb : b = 1073741824 := by rw [e4] at hx; simpa using hx.1.2.1.symm
   subst ha hb
   have c0 := World.var?_cell hg0 hv0 0
   have c1 := World.var?_cell hg0 hv0 1
   rw [cFar] at hlen
   obtain ⟨l⟩ := cs0
   match l, hlen, e1, e3 with
   | [y0, y1], _, e1, e3 =>
     simp at e1 e3
     subst e1 e3
     intro g cs hg
     obtain ⟨rfl, rfl⟩ := laidG_far hg
     refine ⟨?_, fun off => own0, fun i n hi => ?_⟩
     ·refine Classical.byContradiction fun hlt => ?_
      simp [World.cell?, Array.getElem?_eq_none (Nat.le_of_not_lt hlt)] at c0
     ·match i, hi with
      | 0, hi => cases hi; simpa using c0
      | 1, hi => cases hi; simpa using c1
theorem contract (H : Type) (enc : TypeId × Value → H) (W : World) (base : Nat) (args : Array Value) (ds gs : List (DataW H)) (before : List MemPlace)
 (hval : ∀ (j : Nat) t v, Tryz.f3.params[j]? = some t → args[j]? = some v → Value.okWide Tryz.prog W .any base t v)
 (hW : DataW.Whole enc Tryz.prog Tryz.f3.params.toList Rows.topLedSpec.vars false W args.toList ds gs before)
 (hz : (DataW.weightsEach Tryz.prog (Tryz.f3.params.toList ++ Rows.topLedSpec.plain.varTypes Tryz.prog) (ds ++ gs)).all (· ≤ reachBytes) = true) (hL : laidMetH Tryz.prog laid1 W) :
 Calls Tryz.prog 3 args W fun e W' => ∃ v, e = .returned v ∧ Rows.topLedSpec.post enc Tryz.prog Tryz.f3 false true false false W args v W' := by
 have hW' := hW
 obtain ⟨p, q, hA0, hV, rfl, hfz, hnd⟩ := hW
 have hA : DataW.TrodAll enc Tryz.prog W 0 (fun _ => true) true Tryz.f3.params.toList args.toList ds p := hA0
 rw [Tryz.params3] at hA hval hz
 obtain ⟨v0, vs0, d0, ds0, p0, q0, hargs, rfl, rfl, h0, r0⟩ := trodAll_cons hA
 obtain ⟨v1, vs1, d1, ds1, p1, q1, rfl, rfl, rfl, h1, r1⟩ := trodAll_cons r0
 obtain ⟨rfl, rfl, rfl⟩ := trodAll_nil r1
 obtain rfl : args = #[v0, v1] := by cases args; simp_all
 obtain ⟨rfl, rfl⟩ := trodVars_none hV
 obtain ⟨a1, rfl, rfl, rfl, w1⟩ := open_int Tryz.underlying3 (hval 1 3 v1 rfl rfl) h1
 obtain ⟨m0, f0⟩ := h0
 obtain ⟨us0, g0, l0, _⟩ := arg_fit (B := Reach) (good := heavy Tryz.prog) (fun e => ⟨Nat.zero_le _, by simp⟩) heavy_agg heavy_slice 8 ok25 f0 (heavy_of hz 0 rfl rfl)
 obtain ⟨x0, rfl⟩ := fit_beast (n := 4) g0
 have V0 := arg_agg Tryz.underlying25 (hval 0 25 v0 rfl rfl) l0
 have hd := e_TopLed x0 a1 0 []
 refine (law_calls mixed (of_laid hL) tabOk (LR.cons V0 (LR.cons (.int .i64 a1) LR.nil)) hd).mono fun e W' ⟨he, hb⟩ => ?_
 exact ⟨_, he, law_post laidOut readable rfl (fun ds gs hg hl => by
  subst hg
  match ds, hl with
  | [z0, z1], _ => rfl) (by kernel_rfl) Tryz.underlying4 hW' hb⟩
theorem lifted (os : Os) (started : os.Started) (H : Type) (enc : TypeId × Value → H) :
 ReturnsInHanded {} Tryz.checked os 3 .any (fun w args => (Rows.topLedSpec.pre enc Tryz.prog Tryz.f3 [] false w args ∧ laidMetH Tryz.prog laid1 w) ∧ sizedMet enc Tryz.prog Tryz.f3 (OpenSpec.ofChange Rows.topLedSpec) false w args)
  (Rows.topLedSpec.post enc Tryz.prog Tryz.f3 false true false false) := by
 refine returnsInHanded_of_change_and (C := Tryz.checked) (X := fun w _ => laidMetH Tryz.prog laid1 w) (fun _ _ _ hh h => h.of_heap hh) own started (by kernel_rfl) Tryz.func3
  (ChangeSpec.witness_shaped (enc := enc) (C := Tryz.checked) (os := os) (X := fun w _ => laidMetH Tryz.prog laid1 w) false (World.doorLaid Tryz.prog 14 os) #[.agg #[.int .i64 0, .slice none 0 0, .slice none 0 0, .int .i64 0, .int .i64 0, .slice none 0 0], .int .i64 0] 8 rfl (World.shaped_of_RefB (by kernel_rfl) (by kernel_rfl)) (by kernel_rfl) (by kernel_rfl) (by kernel_rfl) (door_met os _)) ?_
 intro W base args ds gs before hval hW _ hz hL _
 exact contract H enc W base args ds gs before hval hW hz hL
theorem over : Rows.topLedRow.holds Tryz.pinned (OpenSpec.ofChange Rows.topLedSpec) :=
 OpenClaim.holds_of_wide 3 Tryz.f3 rfl rfl rfl rfl rfl rfl rfl ⟨rfl, rfl, rfl, rfl, rfl⟩ rfl rfl rfl rfl rfl (by kernel_rfl) Tryz.func3 (by kernel_rfl)
  (of_decide_eq_true (by kernel_rfl)) (by unfold Func.isWrapper; first | (rw [if_pos (by decide +kernel)]; kernel_rfl) | (rw [if_neg (by decide +kernel)]; exact ⟨rfl, rfl⟩))
  (fun os started H enc _ => lifted os started H enc)
theorem row : Rows.TopLedSaid := over
theorem proved : Rows.TopLedCardSaid :=
 Claim7.holds_tied_plain_at .later [] [.data] true (true, "97e141ae10c6db5eeba43e2cc7f106ba5d5f5492102d875b5de3328d0fa53526") false
  over (fun _ h => by cases h) (by kernel_rfl) (fun _ h => by cases h) topLed_row_tie rfl ⟨rfl, rfl⟩ (by kernel_rfl) rfl
  (fun f fn hf hfn => by
    obtain rfl : f = 3 := Option.some.inj ((show Tryz.prog.funcNamed "almadraba/almadrabatop.TopLed" = some 3 by kernel_rfl).symm.trans hf) |>.symm
    obtain rfl : fn = Tryz.f3 := (Option.some.inj (Tryz.func3.symm.trans hfn)).symm
    exact ⟨by kernel_rfl, fun j t ht => by
     rw [Tryz.params3] at ht
     have hm : t ∈ [25, 3] := by simpa using Array.mem_of_getElem? ht
     have hall : ([25, 3].all fun u => !Tryz.prog.wantsStandIn u) = true := by kernel_rfl
     exact (show Tryz.prog.wantsStandIn t = false by simpa using List.all_eq_true.1 hall t hm)⟩)
  (by kernel_rfl)
#print axioms proved
end Go.Proofs.YtmgkcipcjabigaaGreatDoor.topLed
