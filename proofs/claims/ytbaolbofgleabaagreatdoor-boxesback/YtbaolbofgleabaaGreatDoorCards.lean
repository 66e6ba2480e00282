/-
  DERIVED. GIVEN WITH THE SEED: THE CARDS: each row of YtbaolbofgleabaaGreatDoorRows.lean that lists a variable, with what it lists TIED to the program's text (the seventh form; the later family's looks); each row that meets fmt, with fmt's text TOLD by the authors' own Lean function (tested against real Go, not proved from fmt's source: count such statements apart). THE CARD IS WHAT COUNTS. Prove the row's statement (the work); the ties are given (YtbaolbofgleabaaGreatDoorTie.lean); close each card by the builder's one call (the guide's Derived/Test/ToyasCard.lean, 'card_holds'). Laid BY PROGRAM, IN A SANDBOX (cutbox-door.mjs). By AI agents, Wed Nov 11 2026. No macro, syntax, notation, axiom, sorry.
-/
import Derived.Test.YtbaolbofgleabaaGreatDoorRows
import GoSem.ClaimSeven
namespace Go.Proofs.YtbaolbofgleabaaGreatDoor
namespace Rows

/-- THE TIED CARD OF 'lyceumlaw21.BoxesBack'. -/
def boxesBackCard : Claim7 := { stood := { row := boxesBackRow, standIns := [], harness := (true, "ae33fd45aaa8e3b507878e39f1b6ad3ba2cce3c5df19d7b43d2ac506275ea8cc"), looks := true }, kinds := [], alts := [], laidByText := true, laidKinds := [.data, .data, .data, .data, .listed, .data, .data, .data, .data, .pinned], laidTests := true, laidLooks := .later }
def BoxesBackCardSaid : Prop := Claim7.holds Tryz.pinned (.plain (OpenSpec.ofChange boxesBackSpec)) boxesBackCard

/-- THE SECOND FORM's CARD OF 'lyceumlaw21.BoxesBack'. -/
def boxesBackUptoCard : Claim7 := { stood := { row := boxesBackUptoRow, standIns := [], harness := (true, "ae33fd45aaa8e3b507878e39f1b6ad3ba2cce3c5df19d7b43d2ac506275ea8cc"), looks := true }, kinds := [], alts := [], laidByText := true, laidKinds := [.data, .data, .data, .data, .listed, .data, .data, .data, .data, .pinned], laidTests := true, laidLooks := .later }
def BoxesBackUptoCardSaid : Prop := Claim7.holds Tryz.pinned (.plain (OpenSpec.upto boxesBackSpec)) boxesBackUptoCard
end Rows
end Go.Proofs.YtbaolbofgleabaaGreatDoor
