/-
  DERIVED. GIVEN WITH THE SEED: THE CARDS: each row of YtmgkcipcjabigaaGreatDoorRows.lean that lists a variable, with what it lists TIED to the program's text (the seventh form; the later family's looks); each row that meets fmt, with fmt's text TOLD by the authors' own Lean function (tested against real Go, not proved from fmt's source: count such statements apart). THE CARD IS WHAT COUNTS. Prove the row's statement (the work); the ties are given (YtmgkcipcjabigaaGreatDoorTie.lean); close each card by the builder's one call (the guide's Derived/Test/ToyasCard.lean, 'card_holds'). Laid BY PROGRAM, IN A SANDBOX (cutbox-door.mjs). By AI agents, Wed Nov 11 2026. No macro, syntax, notation, axiom, sorry.
-/
import Derived.Test.YtmgkcipcjabigaaGreatDoorRows
import GoSem.ClaimSeven
namespace Go.Proofs.YtmgkcipcjabigaaGreatDoor
namespace Rows

/-- THE TIED CARD OF 'almadrabatop.TopLed'. -/
def topLedCard : Claim7 := { stood := { row := topLedRow, standIns := [], harness := (true, "97e141ae10c6db5eeba43e2cc7f106ba5d5f5492102d875b5de3328d0fa53526"), looks := false }, kinds := [], alts := [], laidByText := true, laidKinds := [.data], laidTests := true, laidLooks := .later }
def TopLedCardSaid : Prop := Claim7.holds Tryz.pinned (.plain (OpenSpec.ofChange topLedSpec)) topLedCard

/-- THE SECOND FORM's CARD OF 'almadrabatop.TopLed'. -/
def topLedUptoCard : Claim7 := { stood := { row := topLedUptoRow, standIns := [], harness := (true, "97e141ae10c6db5eeba43e2cc7f106ba5d5f5492102d875b5de3328d0fa53526"), looks := false }, kinds := [], alts := [], laidByText := true, laidKinds := [.data], laidTests := true, laidLooks := .later }
def TopLedUptoCardSaid : Prop := Claim7.holds Tryz.pinned (.plain (OpenSpec.upto topLedSpec)) topLedUptoCard
end Rows
end Go.Proofs.YtmgkcipcjabigaaGreatDoor
