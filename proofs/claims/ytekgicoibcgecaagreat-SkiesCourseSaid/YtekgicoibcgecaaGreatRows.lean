/-
  No cell of these rows narrows 'for every input' (looked for: loops, veiled, ifaces, maps, wideKeys, modest, calm, conditions, laid).
  DERIVED. THE GIVEN ROWS OF THIS SEAT. 5 by the template 'for every input the law returns true; each argument reads behind the call as it read before'; 0 by the template 'total and deterministic' (their statements: YtekgicoibcgecaaGreatTotals.lean).
  GIVEN WITH THE SEED: the statements are not yours to turn. If you find one false, say at which input.
  Laid BY PROGRAM, IN A SANDBOX (cutbox-rows.mjs): the forced cells as the released guide's own fill.sh prints them over the translation 946fd094cce8fdc8… (all of the seat's roots in one cut). By AI agents, Wed Nov 11 2026. No macro, syntax, notation, axiom, sorry.
-/
import Derived.Test.YtekgicoibcgecaaGreatChecked
import GoSem.Claim
import GoSem.ClaimJoined
import GoSem.ClaimMapViews
import Derived.JoinedTies
import Derived.KernelRfl
namespace Go.Proofs.YtekgicoibcgecaaGreat
/- THE CELL 'sum', in the pinned program and in every row, IS THE sha256 OF THE DUMP (.gsa) THAT YtekgicoibcgecaaGreatProg.lean LOADS. Nothing in Lean hashes anything: it is a label: what it is worth is what the hold of that sum in a sandbox is worth. -/
noncomputable def Tryz.pinned : Pinned := { name := "ytekgicoibcgecaagreat", sum := "946fd094cce8fdc8a7ac3551450838021f6250e43f24f71319ce68d29b11452f", checked := Tryz.checked }
namespace Rows
def none {H : Type} : Left H := { results := [], args := [] }

/-- 'almadrabalaw13.SkiesMay': WHATEVER THE INPUT: true; the input reads as it did. -/
def skiesMaySpec : ChangeSpec := { name := "skiesMay", fn := fun _ => fun
  | [d1, d2, d3] => { results := [.lit (.bool true)], args := [d1, d2, d3] }
  | _ => none }
def skiesMayRow : OpenClaim := { program := "ytekgicoibcgecaagreat", sum := "946fd094cce8fdc8a7ac3551450838021f6250e43f24f71319ce68d29b11452f", func := "almadraba/almadrabalaw13.SkiesMay", spec := "skiesMay", unfollowed := true, recurses := true, apart := false }
def SkiesMaySaid : Prop := skiesMayRow.holds Tryz.pinned (OpenSpec.ofChange skiesMaySpec)

/-- ITS FALSE NEIGHBOUR: 'it returns false'. Refute it at one input. -/
def skiesMayWrong : ChangeSpec := { name := "skiesMay", fn := fun _ => fun
  | [d1, d2, d3] => { results := [.lit (.bool false)], args := [d1, d2, d3] }
  | _ => none }
def SkiesMayWrongFalsely : Prop := skiesMayRow.holds Tryz.pinned (OpenSpec.ofChange skiesMayWrong)

/-- 'almadrabalaw13.SkiesBrings': WHATEVER THE INPUT: true; the input reads as it did. -/
def skiesBringsSpec : ChangeSpec := { name := "skiesBrings", fn := fun _ => fun
  | [d1, d2] => { results := [.lit (.bool true)], args := [d1, d2] }
  | _ => none }
def skiesBringsRow : OpenClaim := { program := "ytekgicoibcgecaagreat", sum := "946fd094cce8fdc8a7ac3551450838021f6250e43f24f71319ce68d29b11452f", func := "almadraba/almadrabalaw13.SkiesBrings", spec := "skiesBrings", unfollowed := true, recurses := true, apart := false }
def SkiesBringsSaid : Prop := skiesBringsRow.holds Tryz.pinned (OpenSpec.ofChange skiesBringsSpec)

/-- ITS FALSE NEIGHBOUR: 'it returns false'. Refute it at one input. -/
def skiesBringsWrong : ChangeSpec := { name := "skiesBrings", fn := fun _ => fun
  | [d1, d2] => { results := [.lit (.bool false)], args := [d1, d2] }
  | _ => none }
def SkiesBringsWrongFalsely : Prop := skiesBringsRow.holds Tryz.pinned (OpenSpec.ofChange skiesBringsWrong)

/-- 'almadrabalaw13.SkiesOff': WHATEVER THE INPUT: true; the input reads as it did. -/
def skiesOffSpec : ChangeSpec := { name := "skiesOff", fn := fun _ => fun
  | [d] => { results := [.lit (.bool true)], args := [d] }
  | _ => none }
def skiesOffRow : OpenClaim := { program := "ytekgicoibcgecaagreat", sum := "946fd094cce8fdc8a7ac3551450838021f6250e43f24f71319ce68d29b11452f", func := "almadraba/almadrabalaw13.SkiesOff", spec := "skiesOff", unfollowed := true, recurses := true, apart := false }
def SkiesOffSaid : Prop := skiesOffRow.holds Tryz.pinned (OpenSpec.ofChange skiesOffSpec)

/-- ITS FALSE NEIGHBOUR: 'it returns false'. Refute it at one input. -/
def skiesOffWrong : ChangeSpec := { name := "skiesOff", fn := fun _ => fun
  | [d] => { results := [.lit (.bool false)], args := [d] }
  | _ => none }
def SkiesOffWrongFalsely : Prop := skiesOffRow.holds Tryz.pinned (OpenSpec.ofChange skiesOffWrong)

/-- 'almadrabalaw13.SkiesWorth': WHATEVER THE INPUT: true; the input reads as it did. -/
def skiesWorthSpec : ChangeSpec := { name := "skiesWorth", fn := fun _ => fun
  | [d1, d2, d3] => { results := [.lit (.bool true)], args := [d1, d2, d3] }
  | _ => none }
def skiesWorthRow : OpenClaim := { program := "ytekgicoibcgecaagreat", sum := "946fd094cce8fdc8a7ac3551450838021f6250e43f24f71319ce68d29b11452f", func := "almadraba/almadrabalaw13.SkiesWorth", spec := "skiesWorth", unfollowed := true, recurses := true, apart := false }
def SkiesWorthSaid : Prop := skiesWorthRow.holds Tryz.pinned (OpenSpec.ofChange skiesWorthSpec)

/-- ITS FALSE NEIGHBOUR: 'it returns false'. Refute it at one input. -/
def skiesWorthWrong : ChangeSpec := { name := "skiesWorth", fn := fun _ => fun
  | [d1, d2, d3] => { results := [.lit (.bool false)], args := [d1, d2, d3] }
  | _ => none }
def SkiesWorthWrongFalsely : Prop := skiesWorthRow.holds Tryz.pinned (OpenSpec.ofChange skiesWorthWrong)

/-- 'almadrabalaw13.SkiesCourse': WHATEVER THE INPUT: true; the input reads as it did. -/
def skiesCourseSpec : ChangeSpec := { name := "skiesCourse", fn := fun _ => fun
  | [d1, d2] => { results := [.lit (.bool true)], args := [d1, d2] }
  | _ => none }
def skiesCourseRow : OpenClaim := { program := "ytekgicoibcgecaagreat", sum := "946fd094cce8fdc8a7ac3551450838021f6250e43f24f71319ce68d29b11452f", func := "almadraba/almadrabalaw13.SkiesCourse", spec := "skiesCourse", unfollowed := true, recurses := true, apart := false }
def SkiesCourseSaid : Prop := skiesCourseRow.holds Tryz.pinned (OpenSpec.ofChange skiesCourseSpec)

/-- ITS FALSE NEIGHBOUR: 'it returns false'. Refute it at one input. -/
def skiesCourseWrong : ChangeSpec := { name := "skiesCourse", fn := fun _ => fun
  | [d1, d2] => { results := [.lit (.bool false)], args := [d1, d2] }
  | _ => none }
def SkiesCourseWrongFalsely : Prop := skiesCourseRow.holds Tryz.pinned (OpenSpec.ofChange skiesCourseWrong)

/- THE SECOND FORM. 'bulk': how many values and letters a reading holds, each counted each time it is reached (what is shared counts as often as it is met; a slice's spare places count too). A statement '..UptoSaid' is the law's where the arguments, and the package variables that the reading takes, are together of bulk at most 1048576: NARROWER than '..Said'. Prove '..Said' where nothing that the law and all that it calls make is longer than what came in: it says more and counts as full. Else prove '..UptoSaid'. A law counts once. -/
mutual
def uptoBulk {H : Type} : DataW H → Nat
  | .lit (.string bytes) => bytes.length + 1
  | .lit _ => 1
  | .nil => 1
  | .ptr d => uptoBulk d + 1
  | .slice elems spare => uptoBulkAll elems + uptoBulkAll spare + 1
  | .agg parts => uptoBulkAll parts + 1
  | .iface _ d => uptoBulk d + 1
  | .map entries => uptoBulkEntries entries + 1
  | .held _ => 1
def uptoBulkAll {H : Type} : List (DataW H) → Nat
  | [] => 0
  | d :: r => uptoBulk d + uptoBulkAll r
def uptoBulkEntries {H : Type} : List (Lit × DataW H) → Nat
  | [] => 0
  | x :: r => uptoBulkEntry x + uptoBulkEntries r
def uptoBulkEntry {H : Type} : Lit × DataW H → Nat
  | (.string bytes, d) => bytes.length + uptoBulk d + 1
  | (_, d) => uptoBulk d + 1
 end
def uptoSmall : (H : Type) → List (DataW H) → Bool := fun _ ds => decide (uptoBulkAll ds ≤ 1048576)
def OpenSpec.upto (s : _root_.Go.ChangeSpec) : _root_.Go.OpenSpec := { _root_.Go.OpenSpec.ofChange s with cond := some uptoSmall }

/-- 'almadrabalaw13.SkiesMay', WHERE WHAT IT READS IS OF BULK AT MOST 1048576: true; the input reads as it did. -/
def skiesMayUptoRow : OpenClaim := { program := "ytekgicoibcgecaagreat", sum := "946fd094cce8fdc8a7ac3551450838021f6250e43f24f71319ce68d29b11452f", func := "almadraba/almadrabalaw13.SkiesMay", spec := "skiesMay", unfollowed := true, recurses := true, apart := false, narrowed := true }
def SkiesMayUptoSaid : Prop := skiesMayUptoRow.holds Tryz.pinned (OpenSpec.upto skiesMaySpec)

/-- 'almadrabalaw13.SkiesBrings', WHERE WHAT IT READS IS OF BULK AT MOST 1048576: true; the input reads as it did. -/
def skiesBringsUptoRow : OpenClaim := { program := "ytekgicoibcgecaagreat", sum := "946fd094cce8fdc8a7ac3551450838021f6250e43f24f71319ce68d29b11452f", func := "almadraba/almadrabalaw13.SkiesBrings", spec := "skiesBrings", unfollowed := true, recurses := true, apart := false, narrowed := true }
def SkiesBringsUptoSaid : Prop := skiesBringsUptoRow.holds Tryz.pinned (OpenSpec.upto skiesBringsSpec)

/-- 'almadrabalaw13.SkiesOff', WHERE WHAT IT READS IS OF BULK AT MOST 1048576: true; the input reads as it did. -/
def skiesOffUptoRow : OpenClaim := { program := "ytekgicoibcgecaagreat", sum := "946fd094cce8fdc8a7ac3551450838021f6250e43f24f71319ce68d29b11452f", func := "almadraba/almadrabalaw13.SkiesOff", spec := "skiesOff", unfollowed := true, recurses := true, apart := false, narrowed := true }
def SkiesOffUptoSaid : Prop := skiesOffUptoRow.holds Tryz.pinned (OpenSpec.upto skiesOffSpec)

/-- 'almadrabalaw13.SkiesWorth', WHERE WHAT IT READS IS OF BULK AT MOST 1048576: true; the input reads as it did. -/
def skiesWorthUptoRow : OpenClaim := { program := "ytekgicoibcgecaagreat", sum := "946fd094cce8fdc8a7ac3551450838021f6250e43f24f71319ce68d29b11452f", func := "almadraba/almadrabalaw13.SkiesWorth", spec := "skiesWorth", unfollowed := true, recurses := true, apart := false, narrowed := true }
def SkiesWorthUptoSaid : Prop := skiesWorthUptoRow.holds Tryz.pinned (OpenSpec.upto skiesWorthSpec)

/-- 'almadrabalaw13.SkiesCourse', WHERE WHAT IT READS IS OF BULK AT MOST 1048576: true; the input reads as it did. -/
def skiesCourseUptoRow : OpenClaim := { program := "ytekgicoibcgecaagreat", sum := "946fd094cce8fdc8a7ac3551450838021f6250e43f24f71319ce68d29b11452f", func := "almadraba/almadrabalaw13.SkiesCourse", spec := "skiesCourse", unfollowed := true, recurses := true, apart := false, narrowed := true }
def SkiesCourseUptoSaid : Prop := skiesCourseUptoRow.holds Tryz.pinned (OpenSpec.upto skiesCourseSpec)

end Rows
end Go.Proofs.YtekgicoibcgecaaGreat
