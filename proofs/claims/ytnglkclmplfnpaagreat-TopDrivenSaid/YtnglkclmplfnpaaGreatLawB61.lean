/-
  TopDriven: whatever the arguments, the law answers true and leaves them as they were.
-/
import Derived.Test.YtnglkclmplfnpaaGreatEq5
import Derived.Test.YtnglkclmplfnpaaGreatRows
set_option linter.unusedSimpArgs false
set_option linter.unusedVariables false
namespace Go.Proofs.YtnglkclmplfnpaaGreat.topDriven
open Go.ChangeShapes Go.WideShapes Go.ChangeAt Go.RowKit Go.Ab
set_option linter.unusedVariables false
set_option maxRecDepth 100000
theorem own : ownKnob Tryz.prog.godebug = none := by kernel_rfl
theorem laidOut : laidOutB Tryz.prog = true := by kernel_rfl
theorem readable : ∀ t ∈ Tryz.f3.params.toList, Tryz.prog.readableRec t = true ∧ t < Tryz.prog.types.size := by
 have h : (Tryz.f3.params.toList.all fun t => Tryz.prog.readableRec t && decide (t < Tryz.prog.types.size)) = true := by kernel_rfl
 intro t ht
 have := List.all_eq_true.1 h t ht
 simpa using this
theorem ok26 : okTy Tryz.prog 8 26 = true := by kernel_rfl
theorem ok25 : okTy Tryz.prog 8 25 = true := by kernel_rfl
theorem contract (H : Type) (enc : TypeId × Value → H) (W : World) (base : Nat) (args : Array Value) (ds gs : List (DataW H)) (before : List MemPlace)
 (hval : ∀ (j : Nat) t v, Tryz.f3.params[j]? = some t → args[j]? = some v → Value.okWide Tryz.prog W .any base t v)
 (hW : DataW.Whole enc Tryz.prog Tryz.f3.params.toList Rows.topDrivenSpec.vars false W args.toList ds gs before)
 (hz : (DataW.weightsEach Tryz.prog (Tryz.f3.params.toList ++ Rows.topDrivenSpec.plain.varTypes Tryz.prog) (ds ++ gs)).all (· ≤ reachBytes) = true) :
 Calls Tryz.prog 3 args W fun e W' => ∃ v, e = .returned v ∧ Rows.topDrivenSpec.post enc Tryz.prog Tryz.f3 false true false false W args v W' := by
 have hW' := hW
 obtain ⟨p, q, hA0, hV, rfl, hfz, hnd⟩ := hW
 have hA : DataW.TrodAll enc Tryz.prog W 0 (fun _ => true) true Tryz.f3.params.toList args.toList ds p := hA0
 rw [Tryz.params3] at hA hval hz
 obtain ⟨v0, vs0, d0, ds0, p0, q0, hargs, rfl, rfl, h0, r0⟩ := trodAll_cons hA
 obtain ⟨v1, vs1, d1, ds1, p1, q1, rfl, rfl, rfl, h1, r1⟩ := trodAll_cons r0
 obtain ⟨v2, vs2, d2, ds2, p2, q2, rfl, rfl, rfl, h2, r2⟩ := trodAll_cons r1
 obtain ⟨rfl, rfl, rfl⟩ := trodAll_nil r2
 obtain rfl : args = #[v0, v1, v2] := by cases args; simp_all
 obtain ⟨rfl, rfl⟩ := trodVars_none hV
 obtain ⟨m0, f0⟩ := h0
 obtain ⟨us0, g0, l0, _⟩ := arg_fit (B := Reach) (good := heavy Tryz.prog) (fun e => ⟨Nat.zero_le _, by simp⟩) heavy_agg heavy_slice 8 ok25 f0 (heavy_of hz 0 rfl rfl)
 obtain ⟨x0, rfl, b0⟩ := fit_trap (n := 4) g0
 have V0 := arg_agg Tryz.underlying25 (hval 0 25 v0 rfl rfl) l0
 obtain ⟨m1, f1⟩ := h1
 obtain ⟨us1, g1, l1, _⟩ := arg_fit (B := Reach) (good := heavy Tryz.prog) (fun e => ⟨Nat.zero_le _, by simp⟩) heavy_agg heavy_slice 8 ok26 f1 (heavy_of hz 1 rfl rfl)
 obtain ⟨x1, rfl, b1, c1⟩ := fit_lists (n := 5) g1
 have V1 := arg_slice Tryz.underlying26 (hval 1 26 v1 rfl rfl) l1
 obtain ⟨m2, f2⟩ := h2
 obtain ⟨us2, g2, l2, _⟩ := arg_fit (B := Reach) (good := heavy Tryz.prog) (fun e => ⟨Nat.zero_le _, by simp⟩) heavy_agg heavy_slice 8 ok26 f2 (heavy_of hz 2 rfl rfl)
 obtain ⟨x2, rfl, b2, c2⟩ := fit_lists (n := 5) g2
 have V2 := arg_slice Tryz.underlying26 (hval 2 26 v2 rfl rfl) l2
 have hd := e_TopDriven x0 b0 x1 b1 c1 x2 b2 c2 0 []
 refine (law_calls mixed tabOk (LR.cons V0 (LR.cons V1 (LR.cons V2 LR.nil))) hd).mono fun e W' ⟨he, hb⟩ => ?_
 exact ⟨_, he, law_post laidOut readable rfl (fun ds gs hg hl => by
  subst hg
  match ds, hl with
  | [z0, z1, z2], _ => rfl) (by kernel_rfl) Tryz.underlying4 hW' hb⟩
theorem lifted (os : Os) (started : os.Started) (H : Type) (enc : TypeId × Value → H) :
 ReturnsInHanded {} Tryz.checked os 3 .any (Rows.topDrivenSpec.pre6 enc Tryz.prog Tryz.f3 Rows.topDrivenRow.domain false) (Rows.topDrivenSpec.post enc Tryz.prog Tryz.f3 false true false false) := by
 refine returnsInHanded_of_change_sized (C := Tryz.checked) own started (by kernel_rfl) Tryz.func3
  (ChangeSpec.witness6 (enc := enc) (C := Tryz.checked) false ⟨#[], #[.agg #[.int .i64 0, .int .i64 0, .int .i64 0, .slice none 0 0, .slice none 0 0], .slice none 0 0, .slice none 0 0], []⟩ 8 (by kernel_rfl) (by kernel_rfl) (by kernel_rfl) (by kernel_rfl)) ?_
 intro W base args ds gs before hval hW _ hz _
 exact contract H enc W base args ds gs before hval hW hz
theorem over : Rows.topDrivenRow.holds Tryz.pinned (OpenSpec.ofChange Rows.topDrivenSpec) :=
 OpenClaim.holds_of_wide 3 Tryz.f3 rfl rfl rfl rfl rfl rfl rfl ⟨rfl, rfl, rfl, rfl, rfl⟩ rfl rfl rfl rfl rfl (by kernel_rfl) Tryz.func3 (by kernel_rfl)
  (of_decide_eq_true (by kernel_rfl)) (by unfold Func.isWrapper; first | (rw [if_pos (by decide +kernel)]; kernel_rfl) | (rw [if_neg (by decide +kernel)]; exact ⟨rfl, rfl⟩))
  (fun os started H enc _ => lifted os started H enc)
theorem proved : Rows.TopDrivenSaid := over
#print axioms proved
end Go.Proofs.YtnglkclmplfnpaaGreat.topDriven
