/-
  No cell of these rows narrows 'for every input' (looked for: loops, veiled, ifaces, maps, wideKeys, modest, calm, conditions, laid).
  DERIVED. THE GIVEN ROWS OF THIS SEAT. 13 by the template 'for every input the law returns true; each argument reads behind the call as it read before'; 0 by the template 'total and deterministic' (their statements: YtbcjofkfgpbhmaaTotals.lean).
  GIVEN WITH THE SEED: the statements are not yours to turn. If you find one false, say at which input.
  Laid BY PROGRAM, IN A SANDBOX (cutbox-rows.mjs): the forced cells as the released guide's own fill.sh prints them over the translation 6289f73002688bcf… (all of the seat's roots in one cut). By AI agents, Wed Nov 11 2026. No macro, syntax, notation, axiom, sorry.
-/
import Derived.Test.YtbcjofkfgpbhmaaChecked
import GoSem.Claim
import GoSem.ClaimJoined
import GoSem.ClaimMapViews
import Derived.JoinedTies
import Derived.KernelRfl
namespace Go.Proofs.Ytbcjofkfgpbhmaa
/- THE CELL 'sum', in the pinned program and in every row, IS THE sha256 OF THE DUMP (.gsa) THAT YtbcjofkfgpbhmaaProg.lean LOADS. Nothing in Lean hashes anything: it is a label: what it is worth is what the hold of that sum in a sandbox is worth. -/
noncomputable def Try.pinned : Pinned := { name := "ytbcjofkfgpbhmaa", sum := "6289f73002688bcf3163ec2f7615fc98787bea9236a7f96b2daf498db3d6146d", checked := Try.checked }
namespace Rows
def none {H : Type} : Left H := { results := [], args := [] }

/-- 'almadrabalaw03.DoorsBest': WHATEVER THE INPUT: true; the input reads as it did. -/
def doorsBestSpec : ChangeSpec := { name := "doorsBest", fn := fun _ => fun
  | [d1, d2, d3] => { results := [.lit (.bool true)], args := [d1, d2, d3] }
  | _ => none }
def doorsBestRow : OpenClaim := { program := "ytbcjofkfgpbhmaa", sum := "6289f73002688bcf3163ec2f7615fc98787bea9236a7f96b2daf498db3d6146d", func := "almadraba/almadrabalaw03.DoorsBest", spec := "doorsBest", unfollowed := true, recurses := true, plainKeys := false, apart := false }
def DoorsBestSaid : Prop := doorsBestRow.holds Try.pinned (OpenSpec.ofChange doorsBestSpec)

/-- ITS FALSE NEIGHBOUR: 'it returns false'. Refute it at one input. -/
def doorsBestWrong : ChangeSpec := { name := "doorsBest", fn := fun _ => fun
  | [d1, d2, d3] => { results := [.lit (.bool false)], args := [d1, d2, d3] }
  | _ => none }
def DoorsBestWrongFalsely : Prop := doorsBestRow.holds Try.pinned (OpenSpec.ofChange doorsBestWrong)

/-- 'almadrabalaw03.DoorsWorst': WHATEVER THE INPUT: true; the input reads as it did. -/
def doorsWorstSpec : ChangeSpec := { name := "doorsWorst", fn := fun _ => fun
  | [d1, d2] => { results := [.lit (.bool true)], args := [d1, d2] }
  | _ => none }
def doorsWorstRow : OpenClaim := { program := "ytbcjofkfgpbhmaa", sum := "6289f73002688bcf3163ec2f7615fc98787bea9236a7f96b2daf498db3d6146d", func := "almadraba/almadrabalaw03.DoorsWorst", spec := "doorsWorst", unfollowed := true, recurses := true, plainKeys := false, apart := false }
def DoorsWorstSaid : Prop := doorsWorstRow.holds Try.pinned (OpenSpec.ofChange doorsWorstSpec)

/-- ITS FALSE NEIGHBOUR: 'it returns false'. Refute it at one input. -/
def doorsWorstWrong : ChangeSpec := { name := "doorsWorst", fn := fun _ => fun
  | [d1, d2] => { results := [.lit (.bool false)], args := [d1, d2] }
  | _ => none }
def DoorsWorstWrongFalsely : Prop := doorsWorstRow.holds Try.pinned (OpenSpec.ofChange doorsWorstWrong)

/-- 'almadrabalaw03.DoorsMore': WHATEVER THE INPUT: true; the input reads as it did. -/
def doorsMoreSpec : ChangeSpec := { name := "doorsMore", fn := fun _ => fun
  | [d1, d2, d3] => { results := [.lit (.bool true)], args := [d1, d2, d3] }
  | _ => none }
def doorsMoreRow : OpenClaim := { program := "ytbcjofkfgpbhmaa", sum := "6289f73002688bcf3163ec2f7615fc98787bea9236a7f96b2daf498db3d6146d", func := "almadraba/almadrabalaw03.DoorsMore", spec := "doorsMore", unfollowed := true, recurses := true, plainKeys := false, apart := false }
def DoorsMoreSaid : Prop := doorsMoreRow.holds Try.pinned (OpenSpec.ofChange doorsMoreSpec)

/-- ITS FALSE NEIGHBOUR: 'it returns false'. Refute it at one input. -/
def doorsMoreWrong : ChangeSpec := { name := "doorsMore", fn := fun _ => fun
  | [d1, d2, d3] => { results := [.lit (.bool false)], args := [d1, d2, d3] }
  | _ => none }
def DoorsMoreWrongFalsely : Prop := doorsMoreRow.holds Try.pinned (OpenSpec.ofChange doorsMoreWrong)

/-- 'almadrabalaw03.DoorsTogether': WHATEVER THE INPUT: true; the input reads as it did. -/
def doorsTogetherSpec : ChangeSpec := { name := "doorsTogether", fn := fun _ => fun
  | [d1, d2, d3] => { results := [.lit (.bool true)], args := [d1, d2, d3] }
  | _ => none }
def doorsTogetherRow : OpenClaim := { program := "ytbcjofkfgpbhmaa", sum := "6289f73002688bcf3163ec2f7615fc98787bea9236a7f96b2daf498db3d6146d", func := "almadraba/almadrabalaw03.DoorsTogether", spec := "doorsTogether", unfollowed := true, recurses := true, plainKeys := false, apart := false }
def DoorsTogetherSaid : Prop := doorsTogetherRow.holds Try.pinned (OpenSpec.ofChange doorsTogetherSpec)

/-- ITS FALSE NEIGHBOUR: 'it returns false'. Refute it at one input. -/
def doorsTogetherWrong : ChangeSpec := { name := "doorsTogether", fn := fun _ => fun
  | [d1, d2, d3] => { results := [.lit (.bool false)], args := [d1, d2, d3] }
  | _ => none }
def DoorsTogetherWrongFalsely : Prop := doorsTogetherRow.holds Try.pinned (OpenSpec.ofChange doorsTogetherWrong)

/-- 'almadrabalaw03.DoorsOne': WHATEVER THE INPUT: true; the input reads as it did. -/
def doorsOneSpec : ChangeSpec := { name := "doorsOne", fn := fun _ => fun
  | [d1, d2, d3] => { results := [.lit (.bool true)], args := [d1, d2, d3] }
  | _ => none }
def doorsOneRow : OpenClaim := { program := "ytbcjofkfgpbhmaa", sum := "6289f73002688bcf3163ec2f7615fc98787bea9236a7f96b2daf498db3d6146d", func := "almadraba/almadrabalaw03.DoorsOne", spec := "doorsOne", unfollowed := true, recurses := true, plainKeys := false, apart := false }
def DoorsOneSaid : Prop := doorsOneRow.holds Try.pinned (OpenSpec.ofChange doorsOneSpec)

/-- ITS FALSE NEIGHBOUR: 'it returns false'. Refute it at one input. -/
def doorsOneWrong : ChangeSpec := { name := "doorsOne", fn := fun _ => fun
  | [d1, d2, d3] => { results := [.lit (.bool false)], args := [d1, d2, d3] }
  | _ => none }
def DoorsOneWrongFalsely : Prop := doorsOneRow.holds Try.pinned (OpenSpec.ofChange doorsOneWrong)

/-- 'almadrabalaw03.DoorsAfter': WHATEVER THE INPUT: true; the input reads as it did. -/
def doorsAfterSpec : ChangeSpec := { name := "doorsAfter", fn := fun _ => fun
  | [d1, d2] => { results := [.lit (.bool true)], args := [d1, d2] }
  | _ => none }
def doorsAfterRow : OpenClaim := { program := "ytbcjofkfgpbhmaa", sum := "6289f73002688bcf3163ec2f7615fc98787bea9236a7f96b2daf498db3d6146d", func := "almadraba/almadrabalaw03.DoorsAfter", spec := "doorsAfter", unfollowed := true, recurses := true, plainKeys := false, apart := false }
def DoorsAfterSaid : Prop := doorsAfterRow.holds Try.pinned (OpenSpec.ofChange doorsAfterSpec)

/-- ITS FALSE NEIGHBOUR: 'it returns false'. Refute it at one input. -/
def doorsAfterWrong : ChangeSpec := { name := "doorsAfter", fn := fun _ => fun
  | [d1, d2] => { results := [.lit (.bool false)], args := [d1, d2] }
  | _ => none }
def DoorsAfterWrongFalsely : Prop := doorsAfterRow.holds Try.pinned (OpenSpec.ofChange doorsAfterWrong)

/-- 'almadrabalaw03.DoorsStill': WHATEVER THE INPUT: true; the input reads as it did. -/
def doorsStillSpec : ChangeSpec := { name := "doorsStill", fn := fun _ => fun
  | [d1, d2] => { results := [.lit (.bool true)], args := [d1, d2] }
  | _ => none }
def doorsStillRow : OpenClaim := { program := "ytbcjofkfgpbhmaa", sum := "6289f73002688bcf3163ec2f7615fc98787bea9236a7f96b2daf498db3d6146d", func := "almadraba/almadrabalaw03.DoorsStill", spec := "doorsStill", unfollowed := true, recurses := true, plainKeys := false, apart := false }
def DoorsStillSaid : Prop := doorsStillRow.holds Try.pinned (OpenSpec.ofChange doorsStillSpec)

/-- ITS FALSE NEIGHBOUR: 'it returns false'. Refute it at one input. -/
def doorsStillWrong : ChangeSpec := { name := "doorsStill", fn := fun _ => fun
  | [d1, d2] => { results := [.lit (.bool false)], args := [d1, d2] }
  | _ => none }
def DoorsStillWrongFalsely : Prop := doorsStillRow.holds Try.pinned (OpenSpec.ofChange doorsStillWrong)

/-- 'almadrabalaw03.DoorsWorth': WHATEVER THE INPUT: true; the input reads as it did. -/
def doorsWorthSpec : ChangeSpec := { name := "doorsWorth", fn := fun _ => fun
  | [d1, d2] => { results := [.lit (.bool true)], args := [d1, d2] }
  | _ => none }
def doorsWorthRow : OpenClaim := { program := "ytbcjofkfgpbhmaa", sum := "6289f73002688bcf3163ec2f7615fc98787bea9236a7f96b2daf498db3d6146d", func := "almadraba/almadrabalaw03.DoorsWorth", spec := "doorsWorth", unfollowed := true, recurses := true, plainKeys := false, apart := false }
def DoorsWorthSaid : Prop := doorsWorthRow.holds Try.pinned (OpenSpec.ofChange doorsWorthSpec)

/-- ITS FALSE NEIGHBOUR: 'it returns false'. Refute it at one input. -/
def doorsWorthWrong : ChangeSpec := { name := "doorsWorth", fn := fun _ => fun
  | [d1, d2] => { results := [.lit (.bool false)], args := [d1, d2] }
  | _ => none }
def DoorsWorthWrongFalsely : Prop := doorsWorthRow.holds Try.pinned (OpenSpec.ofChange doorsWorthWrong)

/-- 'almadrabalaw03.DoorsWays': WHATEVER THE INPUT: true; the input reads as it did. -/
def doorsWaysSpec : ChangeSpec := { name := "doorsWays", fn := fun _ => fun
  | [d1, d2] => { results := [.lit (.bool true)], args := [d1, d2] }
  | _ => none }
def doorsWaysRow : OpenClaim := { program := "ytbcjofkfgpbhmaa", sum := "6289f73002688bcf3163ec2f7615fc98787bea9236a7f96b2daf498db3d6146d", func := "almadraba/almadrabalaw03.DoorsWays", spec := "doorsWays", unfollowed := true, recurses := true, plainKeys := false, apart := false }
def DoorsWaysSaid : Prop := doorsWaysRow.holds Try.pinned (OpenSpec.ofChange doorsWaysSpec)

/-- ITS FALSE NEIGHBOUR: 'it returns false'. Refute it at one input. -/
def doorsWaysWrong : ChangeSpec := { name := "doorsWays", fn := fun _ => fun
  | [d1, d2] => { results := [.lit (.bool false)], args := [d1, d2] }
  | _ => none }
def DoorsWaysWrongFalsely : Prop := doorsWaysRow.holds Try.pinned (OpenSpec.ofChange doorsWaysWrong)

/-- 'almadrabalaw03.DoorsBlind': WHATEVER THE INPUT: true; the input reads as it did. -/
def doorsBlindSpec : ChangeSpec := { name := "doorsBlind", fn := fun _ => fun
  | [d] => { results := [.lit (.bool true)], args := [d] }
  | _ => none }
def doorsBlindRow : OpenClaim := { program := "ytbcjofkfgpbhmaa", sum := "6289f73002688bcf3163ec2f7615fc98787bea9236a7f96b2daf498db3d6146d", func := "almadraba/almadrabalaw03.DoorsBlind", spec := "doorsBlind", unfollowed := true, recurses := true, plainKeys := false, apart := false }
def DoorsBlindSaid : Prop := doorsBlindRow.holds Try.pinned (OpenSpec.ofChange doorsBlindSpec)

/-- ITS FALSE NEIGHBOUR: 'it returns false'. Refute it at one input. -/
def doorsBlindWrong : ChangeSpec := { name := "doorsBlind", fn := fun _ => fun
  | [d] => { results := [.lit (.bool false)], args := [d] }
  | _ => none }
def DoorsBlindWrongFalsely : Prop := doorsBlindRow.holds Try.pinned (OpenSpec.ofChange doorsBlindWrong)

/-- 'almadrabalaw03.DoorsNumbers': WHATEVER THE INPUT: true; the input reads as it did. -/
def doorsNumbersSpec : ChangeSpec := { name := "doorsNumbers", fn := fun _ => fun
  | [d1, d2, d3] => { results := [.lit (.bool true)], args := [d1, d2, d3] }
  | _ => none }
def doorsNumbersRow : OpenClaim := { program := "ytbcjofkfgpbhmaa", sum := "6289f73002688bcf3163ec2f7615fc98787bea9236a7f96b2daf498db3d6146d", func := "almadraba/almadrabalaw03.DoorsNumbers", spec := "doorsNumbers", unfollowed := true, recurses := true, plainKeys := false, apart := false }
def DoorsNumbersSaid : Prop := doorsNumbersRow.holds Try.pinned (OpenSpec.ofChange doorsNumbersSpec)

/-- ITS FALSE NEIGHBOUR: 'it returns false'. Refute it at one input. -/
def doorsNumbersWrong : ChangeSpec := { name := "doorsNumbers", fn := fun _ => fun
  | [d1, d2, d3] => { results := [.lit (.bool false)], args := [d1, d2, d3] }
  | _ => none }
def DoorsNumbersWrongFalsely : Prop := doorsNumbersRow.holds Try.pinned (OpenSpec.ofChange doorsNumbersWrong)

/-- 'almadrabalaw03.DoorsEnd': WHATEVER THE INPUT: true; the input reads as it did. -/
def doorsEndSpec : ChangeSpec := { name := "doorsEnd", fn := fun _ => fun
  | [d] => { results := [.lit (.bool true)], args := [d] }
  | _ => none }
def doorsEndRow : OpenClaim := { program := "ytbcjofkfgpbhmaa", sum := "6289f73002688bcf3163ec2f7615fc98787bea9236a7f96b2daf498db3d6146d", func := "almadraba/almadrabalaw03.DoorsEnd", spec := "doorsEnd", unfollowed := true, recurses := true, plainKeys := false, apart := false }
def DoorsEndSaid : Prop := doorsEndRow.holds Try.pinned (OpenSpec.ofChange doorsEndSpec)

/-- ITS FALSE NEIGHBOUR: 'it returns false'. Refute it at one input. -/
def doorsEndWrong : ChangeSpec := { name := "doorsEnd", fn := fun _ => fun
  | [d] => { results := [.lit (.bool false)], args := [d] }
  | _ => none }
def DoorsEndWrongFalsely : Prop := doorsEndRow.holds Try.pinned (OpenSpec.ofChange doorsEndWrong)

/-- 'almadrabalaw03.DoorsPlay': WHATEVER THE INPUT: true; the input reads as it did. -/
def doorsPlaySpec : ChangeSpec := { name := "doorsPlay", fn := fun _ => fun
  | [d1, d2, d3] => { results := [.lit (.bool true)], args := [d1, d2, d3] }
  | _ => none }
def doorsPlayRow : OpenClaim := { program := "ytbcjofkfgpbhmaa", sum := "6289f73002688bcf3163ec2f7615fc98787bea9236a7f96b2daf498db3d6146d", func := "almadraba/almadrabalaw03.DoorsPlay", spec := "doorsPlay", unfollowed := true, recurses := true, plainKeys := false, apart := false }
def DoorsPlaySaid : Prop := doorsPlayRow.holds Try.pinned (OpenSpec.ofChange doorsPlaySpec)

/-- ITS FALSE NEIGHBOUR: 'it returns false'. Refute it at one input. -/
def doorsPlayWrong : ChangeSpec := { name := "doorsPlay", fn := fun _ => fun
  | [d1, d2, d3] => { results := [.lit (.bool false)], args := [d1, d2, d3] }
  | _ => none }
def DoorsPlayWrongFalsely : Prop := doorsPlayRow.holds Try.pinned (OpenSpec.ofChange doorsPlayWrong)

/- THE SECOND FORM. 'bulk': how many values and letters a reading holds, each counted each time it is reached (what is shared counts as often as it is met; a slice's spare places count too). A statement '..UptoSaid' is the law's where the arguments, and the package variables that the reading takes, are together of bulk at most 1048576: NARROWER than '..Said'. Prove '..Said' where nothing that the law and all that it calls make is longer than what came in: it says more and counts as full. Else prove '..UptoSaid'. A law counts once. -/
mutual
def uptoBulk {H : Type} : DataW H → Nat
  | .lit (.string bytes) => bytes.length + 1
  | .lit _ => 1
  | .nil => 1
  | .ptr d => uptoBulk d + 1
  | .slice elems spare => uptoBulkAll elems + uptoBulkAll spare + 1
  | .agg parts => uptoBulkAll parts + 1
  | .iface _ d => uptoBulk d + 1
  | .map entries => uptoBulkEntries entries + 1
  | .held _ => 1
def uptoBulkAll {H : Type} : List (DataW H) → Nat
  | [] => 0
  | d :: r => uptoBulk d + uptoBulkAll r
def uptoBulkEntries {H : Type} : List (Lit × DataW H) → Nat
  | [] => 0
  | x :: r => uptoBulkEntry x + uptoBulkEntries r
def uptoBulkEntry {H : Type} : Lit × DataW H → Nat
  | (.string bytes, d) => bytes.length + uptoBulk d + 1
  | (_, d) => uptoBulk d + 1
 end
def uptoSmall : (H : Type) → List (DataW H) → Bool := fun _ ds => decide (uptoBulkAll ds ≤ 1048576)
def OpenSpec.upto (s : _root_.Go.ChangeSpec) : _root_.Go.OpenSpec := { _root_.Go.OpenSpec.ofChange s with cond := some uptoSmall }

/-- 'almadrabalaw03.DoorsBest', WHERE WHAT IT READS IS OF BULK AT MOST 1048576: true; the input reads as it did. -/
def doorsBestUptoRow : OpenClaim := { program := "ytbcjofkfgpbhmaa", sum := "6289f73002688bcf3163ec2f7615fc98787bea9236a7f96b2daf498db3d6146d", func := "almadraba/almadrabalaw03.DoorsBest", spec := "doorsBest", unfollowed := true, recurses := true, plainKeys := false, apart := false, narrowed := true }
def DoorsBestUptoSaid : Prop := doorsBestUptoRow.holds Try.pinned (OpenSpec.upto doorsBestSpec)

/-- 'almadrabalaw03.DoorsWorst', WHERE WHAT IT READS IS OF BULK AT MOST 1048576: true; the input reads as it did. -/
def doorsWorstUptoRow : OpenClaim := { program := "ytbcjofkfgpbhmaa", sum := "6289f73002688bcf3163ec2f7615fc98787bea9236a7f96b2daf498db3d6146d", func := "almadraba/almadrabalaw03.DoorsWorst", spec := "doorsWorst", unfollowed := true, recurses := true, plainKeys := false, apart := false, narrowed := true }
def DoorsWorstUptoSaid : Prop := doorsWorstUptoRow.holds Try.pinned (OpenSpec.upto doorsWorstSpec)

/-- 'almadrabalaw03.DoorsMore', WHERE WHAT IT READS IS OF BULK AT MOST 1048576: true; the input reads as it did. -/
def doorsMoreUptoRow : OpenClaim := { program := "ytbcjofkfgpbhmaa", sum := "6289f73002688bcf3163ec2f7615fc98787bea9236a7f96b2daf498db3d6146d", func := "almadraba/almadrabalaw03.DoorsMore", spec := "doorsMore", unfollowed := true, recurses := true, plainKeys := false, apart := false, narrowed := true }
def DoorsMoreUptoSaid : Prop := doorsMoreUptoRow.holds Try.pinned (OpenSpec.upto doorsMoreSpec)

/-- 'almadrabalaw03.DoorsTogether', WHERE WHAT IT READS IS OF BULK AT MOST 1048576: true; the input reads as it did. -/
def doorsTogetherUptoRow : OpenClaim := { program := "ytbcjofkfgpbhmaa", sum := "6289f73002688bcf3163ec2f7615fc98787bea9236a7f96b2daf498db3d6146d", func := "almadraba/almadrabalaw03.DoorsTogether", spec := "doorsTogether", unfollowed := true, recurses := true, plainKeys := false, apart := false, narrowed := true }
def DoorsTogetherUptoSaid : Prop := doorsTogetherUptoRow.holds Try.pinned (OpenSpec.upto doorsTogetherSpec)

/-- 'almadrabalaw03.DoorsOne', WHERE WHAT IT READS IS OF BULK AT MOST 1048576: true; the input reads as it did. -/
def doorsOneUptoRow : OpenClaim := { program := "ytbcjofkfgpbhmaa", sum := "6289f73002688bcf3163ec2f7615fc98787bea9236a7f96b2daf498db3d6146d", func := "almadraba/almadrabalaw03.DoorsOne", spec := "doorsOne", unfollowed := true, recurses := true, plainKeys := false, apart := false, narrowed := true }
def DoorsOneUptoSaid : Prop := doorsOneUptoRow.holds Try.pinned (OpenSpec.upto doorsOneSpec)

/-- 'almadrabalaw03.DoorsAfter', WHERE WHAT IT READS IS OF BULK AT MOST 1048576: true; the input reads as it did. -/
def doorsAfterUptoRow : OpenClaim := { program := "ytbcjofkfgpbhmaa", sum := "6289f73002688bcf3163ec2f7615fc98787bea9236a7f96b2daf498db3d6146d", func := "almadraba/almadrabalaw03.DoorsAfter", spec := "doorsAfter", unfollowed := true, recurses := true, plainKeys := false, apart := false, narrowed := true }
def DoorsAfterUptoSaid : Prop := doorsAfterUptoRow.holds Try.pinned (OpenSpec.upto doorsAfterSpec)

/-- 'almadrabalaw03.DoorsStill', WHERE WHAT IT READS IS OF BULK AT MOST 1048576: true; the input reads as it did. -/
def doorsStillUptoRow : OpenClaim := { program := "ytbcjofkfgpbhmaa", sum := "6289f73002688bcf3163ec2f7615fc98787bea9236a7f96b2daf498db3d6146d", func := "almadraba/almadrabalaw03.DoorsStill", spec := "doorsStill", unfollowed := true, recurses := true, plainKeys := false, apart := false, narrowed := true }
def DoorsStillUptoSaid : Prop := doorsStillUptoRow.holds Try.pinned (OpenSpec.upto doorsStillSpec)

/-- 'almadrabalaw03.DoorsWorth', WHERE WHAT IT READS IS OF BULK AT MOST 1048576: true; the input reads as it did. -/
def doorsWorthUptoRow : OpenClaim := { program := "ytbcjofkfgpbhmaa", sum := "6289f73002688bcf3163ec2f7615fc98787bea9236a7f96b2daf498db3d6146d", func := "almadraba/almadrabalaw03.DoorsWorth", spec := "doorsWorth", unfollowed := true, recurses := true, plainKeys := false, apart := false, narrowed := true }
def DoorsWorthUptoSaid : Prop := doorsWorthUptoRow.holds Try.pinned (OpenSpec.upto doorsWorthSpec)

/-- 'almadrabalaw03.DoorsWays', WHERE WHAT IT READS IS OF BULK AT MOST 1048576: true; the input reads as it did. -/
def doorsWaysUptoRow : OpenClaim := { program := "ytbcjofkfgpbhmaa", sum := "6289f73002688bcf3163ec2f7615fc98787bea9236a7f96b2daf498db3d6146d", func := "almadraba/almadrabalaw03.DoorsWays", spec := "doorsWays", unfollowed := true, recurses := true, plainKeys := false, apart := false, narrowed := true }
def DoorsWaysUptoSaid : Prop := doorsWaysUptoRow.holds Try.pinned (OpenSpec.upto doorsWaysSpec)

/-- 'almadrabalaw03.DoorsBlind', WHERE WHAT IT READS IS OF BULK AT MOST 1048576: true; the input reads as it did. -/
def doorsBlindUptoRow : OpenClaim := { program := "ytbcjofkfgpbhmaa", sum := "6289f73002688bcf3163ec2f7615fc98787bea9236a7f96b2daf498db3d6146d", func := "almadraba/almadrabalaw03.DoorsBlind", spec := "doorsBlind", unfollowed := true, recurses := true, plainKeys := false, apart := false, narrowed := true }
def DoorsBlindUptoSaid : Prop := doorsBlindUptoRow.holds Try.pinned (OpenSpec.upto doorsBlindSpec)

/-- 'almadrabalaw03.DoorsNumbers', WHERE WHAT IT READS IS OF BULK AT MOST 1048576: true; the input reads as it did. -/
def doorsNumbersUptoRow : OpenClaim := { program := "ytbcjofkfgpbhmaa", sum := "6289f73002688bcf3163ec2f7615fc98787bea9236a7f96b2daf498db3d6146d", func := "almadraba/almadrabalaw03.DoorsNumbers", spec := "doorsNumbers", unfollowed := true, recurses := true, plainKeys := false, apart := false, narrowed := true }
def DoorsNumbersUptoSaid : Prop := doorsNumbersUptoRow.holds Try.pinned (OpenSpec.upto doorsNumbersSpec)

/-- 'almadrabalaw03.DoorsEnd', WHERE WHAT IT READS IS OF BULK AT MOST 1048576: true; the input reads as it did. -/
def doorsEndUptoRow : OpenClaim := { program := "ytbcjofkfgpbhmaa", sum := "6289f73002688bcf3163ec2f7615fc98787bea9236a7f96b2daf498db3d6146d", func := "almadraba/almadrabalaw03.DoorsEnd", spec := "doorsEnd", unfollowed := true, recurses := true, plainKeys := false, apart := false, narrowed := true }
def DoorsEndUptoSaid : Prop := doorsEndUptoRow.holds Try.pinned (OpenSpec.upto doorsEndSpec)

/-- 'almadrabalaw03.DoorsPlay', WHERE WHAT IT READS IS OF BULK AT MOST 1048576: true; the input reads as it did. -/
def doorsPlayUptoRow : OpenClaim := { program := "ytbcjofkfgpbhmaa", sum := "6289f73002688bcf3163ec2f7615fc98787bea9236a7f96b2daf498db3d6146d", func := "almadraba/almadrabalaw03.DoorsPlay", spec := "doorsPlay", unfollowed := true, recurses := true, plainKeys := false, apart := false, narrowed := true }
def DoorsPlayUptoSaid : Prop := doorsPlayUptoRow.holds Try.pinned (OpenSpec.upto doorsPlaySpec)

end Rows
end Go.Proofs.Ytbcjofkfgpbhmaa
