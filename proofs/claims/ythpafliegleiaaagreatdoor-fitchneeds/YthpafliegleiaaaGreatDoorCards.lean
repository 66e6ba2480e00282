/-
  DERIVED. GIVEN WITH THE SEED: THE CARDS: each row of YthpafliegleiaaaGreatDoorRows.lean that lists a variable, with what it lists TIED to the program's text (the seventh form; the later family's looks); each row that meets fmt, with fmt's text TOLD by the authors' own Lean function (tested against real Go, not proved from fmt's source: count such statements apart). THE CARD IS WHAT COUNTS. Prove the row's statement (the work); the ties are given (YthpafliegleiaaaGreatDoorTie.lean); close each card by the builder's one call (the guide's Derived/Test/ToyasCard.lean, 'card_holds'). Laid BY PROGRAM, IN A SANDBOX (cutbox-door.mjs). By AI agents, Wed Nov 11 2026. No macro, syntax, notation, axiom, sorry.
-/
import Derived.Test.YthpafliegleiaaaGreatDoorRows
import GoSem.ClaimSeven
namespace Go.Proofs.YthpafliegleiaaaGreatDoor
namespace Rows

/-- THE TIED CARD OF 'lyceumlaw18.FitchNeeds'. -/
def fitchNeedsCard : Claim7 := { stood := { row := fitchNeedsRow, standIns := [], harness := (true, "fb5e9b3fc845e5051e6bb55206f5956969834fcc92661682dd8e854cf78f97a3"), looks := true }, kinds := [], alts := [], laidByText := true, laidKinds := [.data, .data, .data, .data, .pinned, .data, .listed, .data, .data, .data], laidTests := true, laidLooks := .later }
def FitchNeedsCardSaid : Prop := Claim7.holds Tryz.pinned (.plain (OpenSpec.ofChange fitchNeedsSpec)) fitchNeedsCard

/-- THE SECOND FORM's CARD OF 'lyceumlaw18.FitchNeeds'. -/
def fitchNeedsUptoCard : Claim7 := { stood := { row := fitchNeedsUptoRow, standIns := [], harness := (true, "fb5e9b3fc845e5051e6bb55206f5956969834fcc92661682dd8e854cf78f97a3"), looks := true }, kinds := [], alts := [], laidByText := true, laidKinds := [.data, .data, .data, .data, .pinned, .data, .listed, .data, .data, .data], laidTests := true, laidLooks := .later }
def FitchNeedsUptoCardSaid : Prop := Claim7.holds Tryz.pinned (.plain (OpenSpec.upto fitchNeedsSpec)) fitchNeedsUptoCard
end Rows
end Go.Proofs.YthpafliegleiaaaGreatDoor
