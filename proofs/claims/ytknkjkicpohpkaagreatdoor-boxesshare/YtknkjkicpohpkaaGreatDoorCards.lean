/-
  DERIVED. GIVEN WITH THE SEED: THE CARDS: each row of YtknkjkicpohpkaaGreatDoorRows.lean that lists a variable, with what it lists TIED to the program's text (the seventh form; the later family's looks); each row that meets fmt, with fmt's text TOLD by the authors' own Lean function (tested against real Go, not proved from fmt's source: count such statements apart). THE CARD IS WHAT COUNTS. Prove the row's statement (the work); the ties are given (YtknkjkicpohpkaaGreatDoorTie.lean); close each card by the builder's one call (the guide's Derived/Test/ToyasCard.lean, 'card_holds'). Laid BY PROGRAM, IN A SANDBOX (cutbox-door.mjs). By AI agents, Wed Nov 11 2026. No macro, syntax, notation, axiom, sorry.
-/
import Derived.Test.YtknkjkicpohpkaaGreatDoorRows
import GoSem.ClaimSeven
namespace Go.Proofs.YtknkjkicpohpkaaGreatDoor
namespace Rows

/-- THE TIED CARD OF 'lyceumlaw21.BoxesShare'. -/
def boxesShareCard : Claim7 := { stood := { row := boxesShareRow, standIns := [], harness := (true, "4e4ac25611bfdc09cb689b790a255c75fa6b9565ef40182fa94a5aaef21a21fa"), looks := true }, kinds := [], alts := [], laidByText := true, laidKinds := [.data, .data, .data, .data, .listed, .data, .data, .data, .data, .pinned], laidTests := true, laidLooks := .later }
def BoxesShareCardSaid : Prop := Claim7.holds Tryz.pinned (.plain (OpenSpec.ofChange boxesShareSpec)) boxesShareCard

/-- THE SECOND FORM's CARD OF 'lyceumlaw21.BoxesShare'. -/
def boxesShareUptoCard : Claim7 := { stood := { row := boxesShareUptoRow, standIns := [], harness := (true, "4e4ac25611bfdc09cb689b790a255c75fa6b9565ef40182fa94a5aaef21a21fa"), looks := true }, kinds := [], alts := [], laidByText := true, laidKinds := [.data, .data, .data, .data, .listed, .data, .data, .data, .data, .pinned], laidTests := true, laidLooks := .later }
def BoxesShareUptoCardSaid : Prop := Claim7.holds Tryz.pinned (.plain (OpenSpec.upto boxesShareSpec)) boxesShareUptoCard
end Rows
end Go.Proofs.YtknkjkicpohpkaaGreatDoor
