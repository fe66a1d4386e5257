/-
  No cell of these rows narrows 'for every input' (looked for: loops, veiled, ifaces, maps, wideKeys, modest, calm, conditions, laid).
  DERIVED. THE GIVEN ROWS OF THIS SEAT. 7 by the template 'for every input the law returns true; each argument reads behind the call as it read before'; 0 by the template 'total and deterministic' (their statements: YtekgicoibcgecaaTotals.lean).
  GIVEN WITH THE SEED: the statements are not yours to turn. If you find one false, say at which input.
  Laid BY PROGRAM, IN A SANDBOX (cutbox-rows.mjs): the forced cells as the released guide's own fill.sh prints them over the translation 790267f4b92fc8e5… (all of the seat's roots in one cut). By AI agents, Wed Nov 11 2026. No macro, syntax, notation, axiom, sorry.
-/
import Derived.Test.YtekgicoibcgecaaChecked
import GoSem.Claim
import GoSem.ClaimJoined
import GoSem.ClaimMapViews
import Derived.JoinedTies
import Derived.KernelRfl
namespace Go.Proofs.Ytekgicoibcgecaa
/- THE CELL 'sum', in the pinned program and in every row, IS THE sha256 OF THE DUMP (.gsa) THAT YtekgicoibcgecaaProg.lean LOADS. Nothing in Lean hashes anything: it is a label: what it is worth is what the hold of that sum in a sandbox is worth. -/
noncomputable def Try.pinned : Pinned := { name := "ytekgicoibcgecaa", sum := "790267f4b92fc8e5646ebfcbf7fae64ac91ecce67e4b261bcafd9e186dc5a771", checked := Try.checked }
namespace Rows
def none {H : Type} : Left H := { results := [], args := [] }

/-- 'almadrabalaw13.SkiesMore': WHATEVER THE INPUT: true; the input reads as it did. -/
def skiesMoreSpec : ChangeSpec := { name := "skiesMore", fn := fun _ => fun
  | [d1, d2, d3] => { results := [.lit (.bool true)], args := [d1, d2, d3] }
  | _ => none }
def skiesMoreRow : OpenClaim := { program := "ytekgicoibcgecaa", sum := "790267f4b92fc8e5646ebfcbf7fae64ac91ecce67e4b261bcafd9e186dc5a771", func := "almadraba/almadrabalaw13.SkiesMore", spec := "skiesMore", unfollowed := true, recurses := true, apart := false }
def SkiesMoreSaid : Prop := skiesMoreRow.holds Try.pinned (OpenSpec.ofChange skiesMoreSpec)

/-- ITS FALSE NEIGHBOUR: 'it returns false'. Refute it at one input. -/
def skiesMoreWrong : ChangeSpec := { name := "skiesMore", fn := fun _ => fun
  | [d1, d2, d3] => { results := [.lit (.bool false)], args := [d1, d2, d3] }
  | _ => none }
def SkiesMoreWrongFalsely : Prop := skiesMoreRow.holds Try.pinned (OpenSpec.ofChange skiesMoreWrong)

/-- 'almadrabalaw13.SkiesCalmer': WHATEVER THE INPUT: true; the input reads as it did. -/
def skiesCalmerSpec : ChangeSpec := { name := "skiesCalmer", fn := fun _ => fun
  | [d1, d2, d3] => { results := [.lit (.bool true)], args := [d1, d2, d3] }
  | _ => none }
def skiesCalmerRow : OpenClaim := { program := "ytekgicoibcgecaa", sum := "790267f4b92fc8e5646ebfcbf7fae64ac91ecce67e4b261bcafd9e186dc5a771", func := "almadraba/almadrabalaw13.SkiesCalmer", spec := "skiesCalmer", unfollowed := true, recurses := true, apart := false }
def SkiesCalmerSaid : Prop := skiesCalmerRow.holds Try.pinned (OpenSpec.ofChange skiesCalmerSpec)

/-- ITS FALSE NEIGHBOUR: 'it returns false'. Refute it at one input. -/
def skiesCalmerWrong : ChangeSpec := { name := "skiesCalmer", fn := fun _ => fun
  | [d1, d2, d3] => { results := [.lit (.bool false)], args := [d1, d2, d3] }
  | _ => none }
def SkiesCalmerWrongFalsely : Prop := skiesCalmerRow.holds Try.pinned (OpenSpec.ofChange skiesCalmerWrong)

/-- 'almadrabalaw13.SkiesDay': WHATEVER THE INPUT: true; the input reads as it did. -/
def skiesDaySpec : ChangeSpec := { name := "skiesDay", fn := fun _ => fun
  | [d1, d2] => { results := [.lit (.bool true)], args := [d1, d2] }
  | _ => none }
def skiesDayRow : OpenClaim := { program := "ytekgicoibcgecaa", sum := "790267f4b92fc8e5646ebfcbf7fae64ac91ecce67e4b261bcafd9e186dc5a771", func := "almadraba/almadrabalaw13.SkiesDay", spec := "skiesDay", unfollowed := true, recurses := true, apart := false }
def SkiesDaySaid : Prop := skiesDayRow.holds Try.pinned (OpenSpec.ofChange skiesDaySpec)

/-- ITS FALSE NEIGHBOUR: 'it returns false'. Refute it at one input. -/
def skiesDayWrong : ChangeSpec := { name := "skiesDay", fn := fun _ => fun
  | [d1, d2] => { results := [.lit (.bool false)], args := [d1, d2] }
  | _ => none }
def SkiesDayWrongFalsely : Prop := skiesDayRow.holds Try.pinned (OpenSpec.ofChange skiesDayWrong)

/-- 'almadrabalaw13.SkiesSame': WHATEVER THE INPUT: true; the input reads as it did. -/
def skiesSameSpec : ChangeSpec := { name := "skiesSame", fn := fun _ => fun
  | [d] => { results := [.lit (.bool true)], args := [d] }
  | _ => none }
def skiesSameRow : OpenClaim := { program := "ytekgicoibcgecaa", sum := "790267f4b92fc8e5646ebfcbf7fae64ac91ecce67e4b261bcafd9e186dc5a771", func := "almadraba/almadrabalaw13.SkiesSame", spec := "skiesSame", unfollowed := true, recurses := true, apart := false }
def SkiesSameSaid : Prop := skiesSameRow.holds Try.pinned (OpenSpec.ofChange skiesSameSpec)

/-- ITS FALSE NEIGHBOUR: 'it returns false'. Refute it at one input. -/
def skiesSameWrong : ChangeSpec := { name := "skiesSame", fn := fun _ => fun
  | [d] => { results := [.lit (.bool false)], args := [d] }
  | _ => none }
def SkiesSameWrongFalsely : Prop := skiesSameRow.holds Try.pinned (OpenSpec.ofChange skiesSameWrong)

/-- 'almadrabalaw13.SkiesPounds': WHATEVER THE INPUT: true; the input reads as it did. -/
def skiesPoundsSpec : ChangeSpec := { name := "skiesPounds", fn := fun _ => fun
  | [d1, d2] => { results := [.lit (.bool true)], args := [d1, d2] }
  | _ => none }
def skiesPoundsRow : OpenClaim := { program := "ytekgicoibcgecaa", sum := "790267f4b92fc8e5646ebfcbf7fae64ac91ecce67e4b261bcafd9e186dc5a771", func := "almadraba/almadrabalaw13.SkiesPounds", spec := "skiesPounds", unfollowed := true, recurses := true, apart := false }
def SkiesPoundsSaid : Prop := skiesPoundsRow.holds Try.pinned (OpenSpec.ofChange skiesPoundsSpec)

/-- ITS FALSE NEIGHBOUR: 'it returns false'. Refute it at one input. -/
def skiesPoundsWrong : ChangeSpec := { name := "skiesPounds", fn := fun _ => fun
  | [d1, d2] => { results := [.lit (.bool false)], args := [d1, d2] }
  | _ => none }
def SkiesPoundsWrongFalsely : Prop := skiesPoundsRow.holds Try.pinned (OpenSpec.ofChange skiesPoundsWrong)

/-- 'almadrabalaw13.SkiesPut': WHATEVER THE INPUT: true; the input reads as it did. -/
def skiesPutSpec : ChangeSpec := { name := "skiesPut", fn := fun _ => fun
  | [d1, d2] => { results := [.lit (.bool true)], args := [d1, d2] }
  | _ => none }
def skiesPutRow : OpenClaim := { program := "ytekgicoibcgecaa", sum := "790267f4b92fc8e5646ebfcbf7fae64ac91ecce67e4b261bcafd9e186dc5a771", func := "almadraba/almadrabalaw13.SkiesPut", spec := "skiesPut", unfollowed := true, recurses := true, apart := false }
def SkiesPutSaid : Prop := skiesPutRow.holds Try.pinned (OpenSpec.ofChange skiesPutSpec)

/-- ITS FALSE NEIGHBOUR: 'it returns false'. Refute it at one input. -/
def skiesPutWrong : ChangeSpec := { name := "skiesPut", fn := fun _ => fun
  | [d1, d2] => { results := [.lit (.bool false)], args := [d1, d2] }
  | _ => none }
def SkiesPutWrongFalsely : Prop := skiesPutRow.holds Try.pinned (OpenSpec.ofChange skiesPutWrong)

/-- 'almadrabalaw13.SkiesStep': WHATEVER THE INPUT: true; the input reads as it did. -/
def skiesStepSpec : ChangeSpec := { name := "skiesStep", fn := fun _ => fun
  | [d1, d2, d3] => { results := [.lit (.bool true)], args := [d1, d2, d3] }
  | _ => none }
def skiesStepRow : OpenClaim := { program := "ytekgicoibcgecaa", sum := "790267f4b92fc8e5646ebfcbf7fae64ac91ecce67e4b261bcafd9e186dc5a771", func := "almadraba/almadrabalaw13.SkiesStep", spec := "skiesStep", unfollowed := true, recurses := true, apart := false }
def SkiesStepSaid : Prop := skiesStepRow.holds Try.pinned (OpenSpec.ofChange skiesStepSpec)

/-- ITS FALSE NEIGHBOUR: 'it returns false'. Refute it at one input. -/
def skiesStepWrong : ChangeSpec := { name := "skiesStep", fn := fun _ => fun
  | [d1, d2, d3] => { results := [.lit (.bool false)], args := [d1, d2, d3] }
  | _ => none }
def SkiesStepWrongFalsely : Prop := skiesStepRow.holds Try.pinned (OpenSpec.ofChange skiesStepWrong)

/- THE SECOND FORM. 'bulk': how many values and letters a reading holds, each counted each time it is reached (what is shared counts as often as it is met; a slice's spare places count too). A statement '..UptoSaid' is the law's where the arguments, and the package variables that the reading takes, are together of bulk at most 1048576: NARROWER than '..Said'. Prove '..Said' where nothing that the law and all that it calls make is longer than what came in: it says more and counts as full. Else prove '..UptoSaid'. A law counts once. -/
mutual
def uptoBulk {H : Type} : DataW H → Nat
  | .lit (.string bytes) => bytes.length + 1
  | .lit _ => 1
  | .nil => 1
  | .ptr d => uptoBulk d + 1
  | .slice elems spare => uptoBulkAll elems + uptoBulkAll spare + 1
  | .agg parts => uptoBulkAll parts + 1
  | .iface _ d => uptoBulk d + 1
  | .map entries => uptoBulkEntries entries + 1
  | .held _ => 1
def uptoBulkAll {H : Type} : List (DataW H) → Nat
  | [] => 0
  | d :: r => uptoBulk d + uptoBulkAll r
def uptoBulkEntries {H : Type} : List (Lit × DataW H) → Nat
  | [] => 0
  | x :: r => uptoBulkEntry x + uptoBulkEntries r
def uptoBulkEntry {H : Type} : Lit × DataW H → Nat
  | (.string bytes, d) => bytes.length + uptoBulk d + 1
  | (_, d) => uptoBulk d + 1
 end
def uptoSmall : (H : Type) → List (DataW H) → Bool := fun _ ds => decide (uptoBulkAll ds ≤ 1048576)
def OpenSpec.upto (s : _root_.Go.ChangeSpec) : _root_.Go.OpenSpec := { _root_.Go.OpenSpec.ofChange s with cond := some uptoSmall }

/-- 'almadrabalaw13.SkiesMore', WHERE WHAT IT READS IS OF BULK AT MOST 1048576: true; the input reads as it did. -/
def skiesMoreUptoRow : OpenClaim := { program := "ytekgicoibcgecaa", sum := "790267f4b92fc8e5646ebfcbf7fae64ac91ecce67e4b261bcafd9e186dc5a771", func := "almadraba/almadrabalaw13.SkiesMore", spec := "skiesMore", unfollowed := true, recurses := true, apart := false, narrowed := true }
def SkiesMoreUptoSaid : Prop := skiesMoreUptoRow.holds Try.pinned (OpenSpec.upto skiesMoreSpec)

/-- 'almadrabalaw13.SkiesCalmer', WHERE WHAT IT READS IS OF BULK AT MOST 1048576: true; the input reads as it did. -/
def skiesCalmerUptoRow : OpenClaim := { program := "ytekgicoibcgecaa", sum := "790267f4b92fc8e5646ebfcbf7fae64ac91ecce67e4b261bcafd9e186dc5a771", func := "almadraba/almadrabalaw13.SkiesCalmer", spec := "skiesCalmer", unfollowed := true, recurses := true, apart := false, narrowed := true }
def SkiesCalmerUptoSaid : Prop := skiesCalmerUptoRow.holds Try.pinned (OpenSpec.upto skiesCalmerSpec)

/-- 'almadrabalaw13.SkiesDay', WHERE WHAT IT READS IS OF BULK AT MOST 1048576: true; the input reads as it did. -/
def skiesDayUptoRow : OpenClaim := { program := "ytekgicoibcgecaa", sum := "790267f4b92fc8e5646ebfcbf7fae64ac91ecce67e4b261bcafd9e186dc5a771", func := "almadraba/almadrabalaw13.SkiesDay", spec := "skiesDay", unfollowed := true, recurses := true, apart := false, narrowed := true }
def SkiesDayUptoSaid : Prop := skiesDayUptoRow.holds Try.pinned (OpenSpec.upto skiesDaySpec)

/-- 'almadrabalaw13.SkiesSame', WHERE WHAT IT READS IS OF BULK AT MOST 1048576: true; the input reads as it did. -/
def skiesSameUptoRow : OpenClaim := { program := "ytekgicoibcgecaa", sum := "790267f4b92fc8e5646ebfcbf7fae64ac91ecce67e4b261bcafd9e186dc5a771", func := "almadraba/almadrabalaw13.SkiesSame", spec := "skiesSame", unfollowed := true, recurses := true, apart := false, narrowed := true }
def SkiesSameUptoSaid : Prop := skiesSameUptoRow.holds Try.pinned (OpenSpec.upto skiesSameSpec)

/-- 'almadrabalaw13.SkiesPounds', WHERE WHAT IT READS IS OF BULK AT MOST 1048576: true; the input reads as it did. -/
def skiesPoundsUptoRow : OpenClaim := { program := "ytekgicoibcgecaa", sum := "790267f4b92fc8e5646ebfcbf7fae64ac91ecce67e4b261bcafd9e186dc5a771", func := "almadraba/almadrabalaw13.SkiesPounds", spec := "skiesPounds", unfollowed := true, recurses := true, apart := false, narrowed := true }
def SkiesPoundsUptoSaid : Prop := skiesPoundsUptoRow.holds Try.pinned (OpenSpec.upto skiesPoundsSpec)

/-- 'almadrabalaw13.SkiesPut', WHERE WHAT IT READS IS OF BULK AT MOST 1048576: true; the input reads as it did. -/
def skiesPutUptoRow : OpenClaim := { program := "ytekgicoibcgecaa", sum := "790267f4b92fc8e5646ebfcbf7fae64ac91ecce67e4b261bcafd9e186dc5a771", func := "almadraba/almadrabalaw13.SkiesPut", spec := "skiesPut", unfollowed := true, recurses := true, apart := false, narrowed := true }
def SkiesPutUptoSaid : Prop := skiesPutUptoRow.holds Try.pinned (OpenSpec.upto skiesPutSpec)

/-- 'almadrabalaw13.SkiesStep', WHERE WHAT IT READS IS OF BULK AT MOST 1048576: true; the input reads as it did. -/
def skiesStepUptoRow : OpenClaim := { program := "ytekgicoibcgecaa", sum := "790267f4b92fc8e5646ebfcbf7fae64ac91ecce67e4b261bcafd9e186dc5a771", func := "almadraba/almadrabalaw13.SkiesStep", spec := "skiesStep", unfollowed := true, recurses := true, apart := false, narrowed := true }
def SkiesStepUptoSaid : Prop := skiesStepUptoRow.holds Try.pinned (OpenSpec.upto skiesStepSpec)

end Rows
end Go.Proofs.Ytekgicoibcgecaa
