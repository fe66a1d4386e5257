/-
  DoorsBlind: whatever the arguments, the law answers true and leaves them as they were.
-/
import Derived.Test.YtbcjofkfgpbhmaaEq3
import Derived.Test.YtbcjofkfgpbhmaaRows
set_option linter.unusedSimpArgs false
set_option linter.unusedVariables false
namespace Go.Proofs.Ytbcjofkfgpbhmaa.doorsBlind
open Go.ChangeShapes Go.WideShapes Go.ChangeAt Go.RowKit Go.Ab
set_option linter.unusedVariables false
set_option maxRecDepth 100000
theorem own : ownKnob Try.prog.godebug = none := by kernel_rfl
theorem laidOut : laidOutB Try.prog = true := by kernel_rfl
theorem readable : ∀ t ∈ Try.f12.params.toList, Try.prog.readableRec t = true ∧ t < Try.prog.types.size := by
 have h : (Try.f12.params.toList.all fun t => Try.prog.readableRec t && decide (t < Try.prog.types.size)) = true := by kernel_rfl
 intro t ht
 have := List.all_eq_true.1 h t ht
 simpa using this
theorem ok25 : okTy Try.prog 8 25 = true := by kernel_rfl
theorem contract (H : Type) (enc : TypeId × Value → H) (W : World) (base : Nat) (args : Array Value) (ds gs : List (DataW H)) (before : List MemPlace)
 (hval : ∀ (j : Nat) t v, Try.f12.params[j]? = some t → args[j]? = some v → Value.okWide Try.prog W .any base t v)
 (hW : DataW.Whole enc Try.prog Try.f12.params.toList Rows.doorsBlindSpec.vars false W args.toList ds gs before)
 (hz : (DataW.weightsEach Try.prog (Try.f12.params.toList ++ Rows.doorsBlindSpec.plain.varTypes Try.prog) (ds ++ gs)).all (· ≤ reachBytes) = true) :
 Calls Try.prog 12 args W fun e W' => ∃ v, e = .returned v ∧ Rows.doorsBlindSpec.post enc Try.prog Try.f12 false true false false W args v W' := by
 have hW' := hW
 obtain ⟨p, q, hA0, hV, rfl, hfz, hnd⟩ := hW
 have hA : DataW.TrodAll enc Try.prog W 0 (fun _ => true) true Try.f12.params.toList args.toList ds p := hA0
 rw [Try.params12] at hA hval hz
 obtain ⟨v0, vs0, d0, ds0, p0, q0, hargs, rfl, rfl, h0, r0⟩ := trodAll_cons hA
 obtain ⟨rfl, rfl, rfl⟩ := trodAll_nil r0
 obtain rfl : args = #[v0] := by cases args; simp_all
 obtain ⟨rfl, rfl⟩ := trodVars_none hV
 obtain ⟨m0, f0⟩ := h0
 obtain ⟨us0, g0, l0, _⟩ := arg_fit (B := Reach) (good := heavy Try.prog) (fun e => ⟨Nat.zero_le _, by simp⟩) heavy_agg heavy_slice 8 ok25 f0 (heavy_of hz 0 rfl rfl)
 obtain ⟨x0, rfl, b0⟩ := fit_trap (n := 4) g0
 have V0 := arg_agg Try.underlying25 (hval 0 25 v0 rfl rfl) l0
 have hd := e_DoorsBlind x0 b0 0 []
 refine (law_calls mixed tabOk (LR.cons V0 LR.nil) hd).mono fun e W' ⟨he, hb⟩ => ?_
 exact ⟨_, he, law_post laidOut readable rfl (fun ds gs hg hl => by
  subst hg
  match ds, hl with
  | [z0], _ => rfl) (by kernel_rfl) Try.underlying4 hW' hb⟩
theorem lifted (os : Os) (started : os.Started) (H : Type) (enc : TypeId × Value → H) :
 ReturnsInHanded {} Try.checked os 12 .any (Rows.doorsBlindSpec.pre6 enc Try.prog Try.f12 Rows.doorsBlindRow.domain false) (Rows.doorsBlindSpec.post enc Try.prog Try.f12 false true false false) := by
 refine returnsInHanded_of_change_sized (C := Try.checked) own started (by kernel_rfl) Try.func12
  (ChangeSpec.witness6 (enc := enc) (C := Try.checked) false ⟨#[], #[.agg #[.int .i64 0, .int .i64 0, .int .i64 0, .slice none 0 0, .slice none 0 0]], []⟩ 8 (by kernel_rfl) (by kernel_rfl) (by kernel_rfl) (by kernel_rfl)) ?_
 intro W base args ds gs before hval hW _ hz _
 exact contract H enc W base args ds gs before hval hW hz
theorem over : Rows.doorsBlindRow.holds Try.pinned (OpenSpec.ofChange Rows.doorsBlindSpec) :=
 OpenClaim.holds_of_wide 12 Try.f12 rfl rfl rfl rfl rfl rfl rfl ⟨rfl, rfl, rfl, rfl, rfl⟩ rfl rfl rfl rfl rfl (by kernel_rfl) Try.func12 (by kernel_rfl)
  (of_decide_eq_true (by kernel_rfl)) (by unfold Func.isWrapper; first | (rw [if_pos (by decide +kernel)]; kernel_rfl) | (rw [if_neg (by decide +kernel)]; exact ⟨rfl, rfl⟩))
  (fun os started H enc _ => lifted os started H enc)
theorem proved : Rows.DoorsBlindSaid := over
#print axioms proved
end Go.Proofs.Ytbcjofkfgpbhmaa.doorsBlind
