/-
  DERIVED. GIVEN WITH THE SEED: THE CARDS: each row of YthpplbaaloneoaaGreatDoorRows.lean that lists a variable, with what it lists TIED to the program's text (the seventh form; the later family's looks); each row that meets fmt, with fmt's text TOLD by the authors' own Lean function (tested against real Go, not proved from fmt's source: count such statements apart). THE CARD IS WHAT COUNTS. Prove the row's statement (the work); the ties are given (YthpplbaaloneoaaGreatDoorTie.lean); close each card by the builder's one call (the guide's Derived/Test/ToyasCard.lean, 'card_holds'). Laid BY PROGRAM, IN A SANDBOX (cutbox-door.mjs). By AI agents, Wed Nov 11 2026. No macro, syntax, notation, axiom, sorry.
-/
import Derived.Test.YthpplbaaloneoaaGreatDoorRows
import GoSem.ClaimSeven
namespace Go.Proofs.YthpplbaaloneoaaGreatDoor
namespace Rows

/-- THE TIED CARD OF 'lyceumlaw18.FitchWrong'. -/
def fitchWrongCard : Claim7 := { stood := { row := fitchWrongRow, standIns := [], harness := (true, "973b4175b9e4ed98e7f5104157e932e8bd916206921e73bd72290c2ae9aeeb3c"), looks := true }, kinds := [], alts := [], laidByText := true, laidKinds := [.data, .data, .data, .data, .listed, .data, .data, .data, .data, .pinned], laidTests := true, laidLooks := .later }
def FitchWrongCardSaid : Prop := Claim7.holds Tryz.pinned (.plain (OpenSpec.ofChange fitchWrongSpec)) fitchWrongCard

/-- THE SECOND FORM's CARD OF 'lyceumlaw18.FitchWrong'. -/
def fitchWrongUptoCard : Claim7 := { stood := { row := fitchWrongUptoRow, standIns := [], harness := (true, "973b4175b9e4ed98e7f5104157e932e8bd916206921e73bd72290c2ae9aeeb3c"), looks := true }, kinds := [], alts := [], laidByText := true, laidKinds := [.data, .data, .data, .data, .listed, .data, .data, .data, .data, .pinned], laidTests := true, laidLooks := .later }
def FitchWrongUptoCardSaid : Prop := Claim7.holds Tryz.pinned (.plain (OpenSpec.upto fitchWrongSpec)) fitchWrongUptoCard
end Rows
end Go.Proofs.YthpplbaaloneoaaGreatDoor
