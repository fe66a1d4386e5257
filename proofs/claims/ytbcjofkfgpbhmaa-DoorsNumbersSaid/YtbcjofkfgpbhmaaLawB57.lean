/-
  DoorsNumbers: whatever the arguments, the law answers true and leaves them as they were.
-/
import Derived.Test.YtbcjofkfgpbhmaaEq4
import Derived.Test.YtbcjofkfgpbhmaaRows
set_option linter.unusedSimpArgs false
set_option linter.unusedVariables false
namespace Go.Proofs.Ytbcjofkfgpbhmaa.doorsNumbers
open Go.ChangeShapes Go.WideShapes Go.ChangeAt Go.RowKit Go.Ab
set_option linter.unusedVariables false
set_option maxRecDepth 100000
theorem own : ownKnob Try.prog.godebug = none := by kernel_rfl
theorem laidOut : laidOutB Try.prog = true := by kernel_rfl
theorem readable : ∀ t ∈ Try.f13.params.toList, Try.prog.readableRec t = true ∧ t < Try.prog.types.size := by
 have h : (Try.f13.params.toList.all fun t => Try.prog.readableRec t && decide (t < Try.prog.types.size)) = true := by kernel_rfl
 intro t ht
 have := List.all_eq_true.1 h t ht
 simpa using this
theorem ok25 : okTy Try.prog 8 25 = true := by kernel_rfl
theorem contract (H : Type) (enc : TypeId × Value → H) (W : World) (base : Nat) (args : Array Value) (ds gs : List (DataW H)) (before : List MemPlace)
 (hval : ∀ (j : Nat) t v, Try.f13.params[j]? = some t → args[j]? = some v → Value.okWide Try.prog W .any base t v)
 (hW : DataW.Whole enc Try.prog Try.f13.params.toList Rows.doorsNumbersSpec.vars false W args.toList ds gs before)
 (hz : (DataW.weightsEach Try.prog (Try.f13.params.toList ++ Rows.doorsNumbersSpec.plain.varTypes Try.prog) (ds ++ gs)).all (· ≤ reachBytes) = true) :
 Calls Try.prog 13 args W fun e W' => ∃ v, e = .returned v ∧ Rows.doorsNumbersSpec.post enc Try.prog Try.f13 false true false false W args v W' := by
 have hW' := hW
 obtain ⟨p, q, hA0, hV, rfl, hfz, hnd⟩ := hW
 have hA : DataW.TrodAll enc Try.prog W 0 (fun _ => true) true Try.f13.params.toList args.toList ds p := hA0
 rw [Try.params13] at hA hval hz
 obtain ⟨v0, vs0, d0, ds0, p0, q0, hargs, rfl, rfl, h0, r0⟩ := trodAll_cons hA
 obtain ⟨v1, vs1, d1, ds1, p1, q1, rfl, rfl, rfl, h1, r1⟩ := trodAll_cons r0
 obtain ⟨v2, vs2, d2, ds2, p2, q2, rfl, rfl, rfl, h2, r2⟩ := trodAll_cons r1
 obtain ⟨rfl, rfl, rfl⟩ := trodAll_nil r2
 obtain rfl : args = #[v0, v1, v2] := by cases args; simp_all
 obtain ⟨rfl, rfl⟩ := trodVars_none hV
 obtain ⟨a1, rfl, rfl, rfl, w1⟩ := open_int Try.underlying3 (hval 1 3 v1 rfl rfl) h1
 obtain ⟨a2, rfl, rfl, rfl, w2⟩ := open_int Try.underlying3 (hval 2 3 v2 rfl rfl) h2
 obtain ⟨m0, f0⟩ := h0
 obtain ⟨us0, g0, l0, _⟩ := arg_fit (B := Reach) (good := heavy Try.prog) (fun e => ⟨Nat.zero_le _, by simp⟩) heavy_agg heavy_slice 8 ok25 f0 (heavy_of hz 0 rfl rfl)
 obtain ⟨x0, rfl, b0⟩ := fit_trap (n := 4) g0
 have V0 := arg_agg Try.underlying25 (hval 0 25 v0 rfl rfl) l0
 have hd := e_DoorsNumbers x0 b0 a1 a2 0 []
 refine (law_calls mixed tabOk (LR.cons V0 (LR.cons (.int .i64 a1) (LR.cons (.int .i64 a2) LR.nil))) hd).mono fun e W' ⟨he, hb⟩ => ?_
 exact ⟨_, he, law_post laidOut readable rfl (fun ds gs hg hl => by
  subst hg
  match ds, hl with
  | [z0, z1, z2], _ => rfl) (by kernel_rfl) Try.underlying4 hW' hb⟩
theorem lifted (os : Os) (started : os.Started) (H : Type) (enc : TypeId × Value → H) :
 ReturnsInHanded {} Try.checked os 13 .any (Rows.doorsNumbersSpec.pre6 enc Try.prog Try.f13 Rows.doorsNumbersRow.domain false) (Rows.doorsNumbersSpec.post enc Try.prog Try.f13 false true false false) := by
 refine returnsInHanded_of_change_sized (C := Try.checked) own started (by kernel_rfl) Try.func13
  (ChangeSpec.witness6 (enc := enc) (C := Try.checked) false ⟨#[], #[.agg #[.int .i64 0, .int .i64 0, .int .i64 0, .slice none 0 0, .slice none 0 0], .int .i64 0, .int .i64 0], []⟩ 8 (by kernel_rfl) (by kernel_rfl) (by kernel_rfl) (by kernel_rfl)) ?_
 intro W base args ds gs before hval hW _ hz _
 exact contract H enc W base args ds gs before hval hW hz
theorem over : Rows.doorsNumbersRow.holds Try.pinned (OpenSpec.ofChange Rows.doorsNumbersSpec) :=
 OpenClaim.holds_of_wide 13 Try.f13 rfl rfl rfl rfl rfl rfl rfl ⟨rfl, rfl, rfl, rfl, rfl⟩ rfl rfl rfl rfl rfl (by kernel_rfl) Try.func13 (by kernel_rfl)
  (of_decide_eq_true (by kernel_rfl)) (by unfold Func.isWrapper; first | (rw [if_pos (by decide +kernel)]; kernel_rfl) | (rw [if_neg (by decide +kernel)]; exact ⟨rfl, rfl⟩))
  (fun os started H enc _ => lifted os started H enc)
theorem proved : Rows.DoorsNumbersSaid := over
#print axioms proved
end Go.Proofs.Ytbcjofkfgpbhmaa.doorsNumbers
