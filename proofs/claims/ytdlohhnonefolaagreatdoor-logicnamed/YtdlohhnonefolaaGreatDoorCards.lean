/-
  DERIVED. GIVEN WITH THE SEED: THE CARDS: each row of YtdlohhnonefolaaGreatDoorRows.lean that lists a variable, with what it lists TIED to the program's text (the seventh form; the later family's looks); each row that meets fmt, with fmt's text TOLD by the authors' own Lean function (tested against real Go, not proved from fmt's source: count such statements apart). THE CARD IS WHAT COUNTS. Prove the row's statement (the work); the ties are given (YtdlohhnonefolaaGreatDoorTie.lean); close each card by the builder's one call (the guide's Derived/Test/ToyasCard.lean, 'card_holds'). Laid BY PROGRAM, IN A SANDBOX (cutbox-door.mjs). By AI agents, Wed Nov 11 2026. No macro, syntax, notation, axiom, sorry.
-/
import Derived.Test.YtdlohhnonefolaaGreatDoorRows
import GoSem.ClaimSeven
namespace Go.Proofs.YtdlohhnonefolaaGreatDoor
namespace Rows

/-- THE TIED CARD OF 'lyceumlaw09.LogicNamed'. -/
def logicNamedCard : Claim7 := { stood := { row := logicNamedRow, standIns := [], harness := (true, "77965206ba00baddb6f1ebfec5f427a66806ccbaad820a087edf8a30de8f0247"), looks := true }, kinds := [], alts := [], laidByText := true, laidKinds := [.data, .data, .data, .data, .listed, .data, .data, .data, .data, .pinned], laidTests := true, laidLooks := .later }
def LogicNamedCardSaid : Prop := Claim7.holds Tryz.pinned (.plain (OpenSpec.ofChange logicNamedSpec)) logicNamedCard

/-- THE SECOND FORM's CARD OF 'lyceumlaw09.LogicNamed'. -/
def logicNamedUptoCard : Claim7 := { stood := { row := logicNamedUptoRow, standIns := [], harness := (true, "77965206ba00baddb6f1ebfec5f427a66806ccbaad820a087edf8a30de8f0247"), looks := true }, kinds := [], alts := [], laidByText := true, laidKinds := [.data, .data, .data, .data, .listed, .data, .data, .data, .data, .pinned], laidTests := true, laidLooks := .later }
def LogicNamedUptoCardSaid : Prop := Claim7.holds Tryz.pinned (.plain (OpenSpec.upto logicNamedSpec)) logicNamedUptoCard
end Rows
end Go.Proofs.YtdlohhnonefolaaGreatDoor
