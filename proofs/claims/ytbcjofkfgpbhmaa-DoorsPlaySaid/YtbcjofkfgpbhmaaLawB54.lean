/-
  DoorsPlay: whatever the arguments, the law answers true and leaves them as they were.
-/
import Derived.Test.YtbcjofkfgpbhmaaEq4
import Derived.Test.YtbcjofkfgpbhmaaRows
set_option linter.unusedSimpArgs false
set_option linter.unusedVariables false
namespace Go.Proofs.Ytbcjofkfgpbhmaa.doorsPlay
open Go.ChangeShapes Go.WideShapes Go.ChangeAt Go.RowKit Go.Ab
set_option linter.unusedVariables false
set_option maxRecDepth 100000
theorem own : ownKnob Try.prog.godebug = none := by kernel_rfl
theorem laidOut : laidOutB Try.prog = true := by kernel_rfl
theorem readable : ∀ t ∈ Try.f15.params.toList, Try.prog.readableRec t = true ∧ t < Try.prog.types.size := by
 have h : (Try.f15.params.toList.all fun t => Try.prog.readableRec t && decide (t < Try.prog.types.size)) = true := by kernel_rfl
 intro t ht
 have := List.all_eq_true.1 h t ht
 simpa using this
theorem ok62 : okTy Try.prog 8 62 = true := by kernel_rfl
theorem ok25 : okTy Try.prog 8 25 = true := by kernel_rfl
theorem contract (H : Type) (enc : TypeId × Value → H) (W : World) (base : Nat) (args : Array Value) (ds gs : List (DataW H)) (before : List MemPlace)
 (hval : ∀ (j : Nat) t v, Try.f15.params[j]? = some t → args[j]? = some v → Value.okWide Try.prog W .any base t v)
 (hW : DataW.Whole enc Try.prog Try.f15.params.toList Rows.doorsPlaySpec.vars false W args.toList ds gs before)
 (hz : (DataW.weightsEach Try.prog (Try.f15.params.toList ++ Rows.doorsPlaySpec.plain.varTypes Try.prog) (ds ++ gs)).all (· ≤ reachBytes) = true) :
 Calls Try.prog 15 args W fun e W' => ∃ v, e = .returned v ∧ Rows.doorsPlaySpec.post enc Try.prog Try.f15 false true false false W args v W' := by
 have hW' := hW
 obtain ⟨p, q, hA0, hV, rfl, hfz, hnd⟩ := hW
 have hA : DataW.TrodAll enc Try.prog W 0 (fun _ => true) true Try.f15.params.toList args.toList ds p := hA0
 rw [Try.params15] at hA hval hz
 obtain ⟨v0, vs0, d0, ds0, p0, q0, hargs, rfl, rfl, h0, r0⟩ := trodAll_cons hA
 obtain ⟨v1, vs1, d1, ds1, p1, q1, rfl, rfl, rfl, h1, r1⟩ := trodAll_cons r0
 obtain ⟨v2, vs2, d2, ds2, p2, q2, rfl, rfl, rfl, h2, r2⟩ := trodAll_cons r1
 obtain ⟨rfl, rfl, rfl⟩ := trodAll_nil r2
 obtain rfl : args = #[v0, v1, v2] := by cases args; simp_all
 obtain ⟨rfl, rfl⟩ := trodVars_none hV
 obtain ⟨m0, f0⟩ := h0
 obtain ⟨us0, g0, l0, _⟩ := arg_fit (B := Reach) (good := heavy Try.prog) (fun e => ⟨Nat.zero_le _, by simp⟩) heavy_agg heavy_slice 8 ok25 f0 (heavy_of hz 0 rfl rfl)
 obtain ⟨x0, rfl, b0⟩ := fit_trap (n := 4) g0
 have V0 := arg_agg Try.underlying25 (hval 0 25 v0 rfl rfl) l0
 obtain ⟨m1, f1⟩ := h1
 obtain ⟨us1, g1, l1, _⟩ := arg_fit (B := Reach) (good := heavy Try.prog) (fun e => ⟨Nat.zero_le _, by simp⟩) heavy_agg heavy_slice 8 ok62 f1 (heavy_of hz 1 rfl rfl)
 obtain ⟨x1, rfl, b1, c1⟩ := fit_lists (n := 5) g1
 have V1 := arg_slice Try.underlying62 (hval 1 62 v1 rfl rfl) l1
 obtain ⟨m2, f2⟩ := h2
 obtain ⟨us2, g2, l2, _⟩ := arg_fit (B := Reach) (good := heavy Try.prog) (fun e => ⟨Nat.zero_le _, by simp⟩) heavy_agg heavy_slice 8 ok62 f2 (heavy_of hz 2 rfl rfl)
 obtain ⟨x2, rfl, b2, c2⟩ := fit_lists (n := 5) g2
 have V2 := arg_slice Try.underlying62 (hval 2 62 v2 rfl rfl) l2
 have hd := e_DoorsPlay x0 b0 x1 b1 c1 x2 b2 c2 0 []
 refine (law_calls mixed tabOk (LR.cons V0 (LR.cons V1 (LR.cons V2 LR.nil))) hd).mono fun e W' ⟨he, hb⟩ => ?_
 exact ⟨_, he, law_post laidOut readable rfl (fun ds gs hg hl => by
  subst hg
  match ds, hl with
  | [z0, z1, z2], _ => rfl) (by kernel_rfl) Try.underlying4 hW' hb⟩
theorem lifted (os : Os) (started : os.Started) (H : Type) (enc : TypeId × Value → H) :
 ReturnsInHanded {} Try.checked os 15 .any (Rows.doorsPlaySpec.pre6 enc Try.prog Try.f15 Rows.doorsPlayRow.domain false) (Rows.doorsPlaySpec.post enc Try.prog Try.f15 false true false false) := by
 refine returnsInHanded_of_change_sized (C := Try.checked) own started (by kernel_rfl) Try.func15
  (ChangeSpec.witness6 (enc := enc) (C := Try.checked) false ⟨#[], #[.agg #[.int .i64 0, .int .i64 0, .int .i64 0, .slice none 0 0, .slice none 0 0], .slice none 0 0, .slice none 0 0], []⟩ 8 (by kernel_rfl) (by kernel_rfl) (by kernel_rfl) (by kernel_rfl)) ?_
 intro W base args ds gs before hval hW _ hz _
 exact contract H enc W base args ds gs before hval hW hz
theorem over : Rows.doorsPlayRow.holds Try.pinned (OpenSpec.ofChange Rows.doorsPlaySpec) :=
 OpenClaim.holds_of_wide 15 Try.f15 rfl rfl rfl rfl rfl rfl rfl ⟨rfl, rfl, rfl, rfl, rfl⟩ rfl rfl rfl rfl rfl (by kernel_rfl) Try.func15 (by kernel_rfl)
  (of_decide_eq_true (by kernel_rfl)) (by unfold Func.isWrapper; first | (rw [if_pos (by decide +kernel)]; kernel_rfl) | (rw [if_neg (by decide +kernel)]; exact ⟨rfl, rfl⟩))
  (fun os started H enc _ => lifted os started H enc)
theorem proved : Rows.DoorsPlaySaid := over
#print axioms proved
end Go.Proofs.Ytbcjofkfgpbhmaa.doorsPlay
