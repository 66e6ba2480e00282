/-
  DERIVED. GIVEN WITH THE SEED: THE CARDS: each row of YthdbakjhebkohaaGreatDoorRows.lean that lists a variable, with what it lists TIED to the program's text (the seventh form; the later family's looks); each row that meets fmt, with fmt's text TOLD by the authors' own Lean function (tested against real Go, not proved from fmt's source: count such statements apart). THE CARD IS WHAT COUNTS. Prove the row's statement (the work); the ties are given (YthdbakjhebkohaaGreatDoorTie.lean); close each card by the builder's one call (the guide's Derived/Test/ToyasCard.lean, 'card_holds'). Laid BY PROGRAM, IN A SANDBOX (cutbox-door.mjs). By AI agents, Wed Nov 11 2026. No macro, syntax, notation, axiom, sorry.
-/
import Derived.Test.YthdbakjhebkohaaGreatDoorRows
import GoSem.ClaimSeven
namespace Go.Proofs.YthdbakjhebkohaaGreatDoor
namespace Rows

/-- THE TIED CARD OF 'lyceumlaw18.FitchFirst'. -/
def fitchFirstCard : Claim7 := { stood := { row := fitchFirstRow, standIns := [], harness := (true, "39c1318060c9120d41093b24ecf366586a3d2af3c6b4397e7654c2adaf8ea921"), looks := true }, kinds := [], alts := [], laidByText := true, laidKinds := [.data, .data, .data, .data, .listed, .data, .data, .data, .data, .pinned], laidTests := true, laidLooks := .later }
def FitchFirstCardSaid : Prop := Claim7.holds Tryz.pinned (.plain (OpenSpec.ofChange fitchFirstSpec)) fitchFirstCard

/-- THE TIED CARD OF 'lyceumlaw18.FitchBoxes'. -/
def fitchBoxesCard : Claim7 := { stood := { row := fitchBoxesRow, standIns := [], harness := (true, "39c1318060c9120d41093b24ecf366586a3d2af3c6b4397e7654c2adaf8ea921"), looks := true }, kinds := [], alts := [], laidByText := true, laidKinds := [.data, .data, .data, .data, .listed, .data, .data, .data, .data, .pinned], laidTests := true, laidLooks := .later }
def FitchBoxesCardSaid : Prop := Claim7.holds Tryz.pinned (.plain (OpenSpec.ofChange fitchBoxesSpec)) fitchBoxesCard

/-- THE TIED CARD OF 'lyceumlaw18.FitchCuts'. -/
def fitchCutsCard : Claim7 := { stood := { row := fitchCutsRow, standIns := [], harness := (true, "39c1318060c9120d41093b24ecf366586a3d2af3c6b4397e7654c2adaf8ea921"), looks := true }, kinds := [], alts := [], laidByText := true, laidKinds := [.data, .data, .data, .data, .listed, .data, .data, .data, .data, .pinned], laidTests := true, laidLooks := .later }
def FitchCutsCardSaid : Prop := Claim7.holds Tryz.pinned (.plain (OpenSpec.ofChange fitchCutsSpec)) fitchCutsCard

/-- THE TIED CARD OF 'lyceumlaw18.FitchWrong'. -/
def fitchWrongCard : Claim7 := { stood := { row := fitchWrongRow, standIns := [], harness := (true, "39c1318060c9120d41093b24ecf366586a3d2af3c6b4397e7654c2adaf8ea921"), looks := true }, kinds := [], alts := [], laidByText := true, laidKinds := [.data, .data, .data, .data, .listed, .data, .data, .data, .data, .pinned], laidTests := true, laidLooks := .later }
def FitchWrongCardSaid : Prop := Claim7.holds Tryz.pinned (.plain (OpenSpec.ofChange fitchWrongSpec)) fitchWrongCard

/-- THE TIED CARD OF 'lyceumlaw18.FitchCut'. -/
def fitchCutCard : Claim7 := { stood := { row := fitchCutRow, standIns := [], harness := (true, "39c1318060c9120d41093b24ecf366586a3d2af3c6b4397e7654c2adaf8ea921"), looks := true }, kinds := [], alts := [], laidByText := true, laidKinds := [.data, .data, .data, .data, .listed, .data, .data, .data, .data, .pinned], laidTests := true, laidLooks := .later }
def FitchCutCardSaid : Prop := Claim7.holds Tryz.pinned (.plain (OpenSpec.ofChange fitchCutSpec)) fitchCutCard

/-- THE SECOND FORM's CARD OF 'lyceumlaw18.FitchFirst'. -/
def fitchFirstUptoCard : Claim7 := { stood := { row := fitchFirstUptoRow, standIns := [], harness := (true, "39c1318060c9120d41093b24ecf366586a3d2af3c6b4397e7654c2adaf8ea921"), looks := true }, kinds := [], alts := [], laidByText := true, laidKinds := [.data, .data, .data, .data, .listed, .data, .data, .data, .data, .pinned], laidTests := true, laidLooks := .later }
def FitchFirstUptoCardSaid : Prop := Claim7.holds Tryz.pinned (.plain (OpenSpec.upto fitchFirstSpec)) fitchFirstUptoCard

/-- THE SECOND FORM's CARD OF 'lyceumlaw18.FitchBoxes'. -/
def fitchBoxesUptoCard : Claim7 := { stood := { row := fitchBoxesUptoRow, standIns := [], harness := (true, "39c1318060c9120d41093b24ecf366586a3d2af3c6b4397e7654c2adaf8ea921"), looks := true }, kinds := [], alts := [], laidByText := true, laidKinds := [.data, .data, .data, .data, .listed, .data, .data, .data, .data, .pinned], laidTests := true, laidLooks := .later }
def FitchBoxesUptoCardSaid : Prop := Claim7.holds Tryz.pinned (.plain (OpenSpec.upto fitchBoxesSpec)) fitchBoxesUptoCard

/-- THE SECOND FORM's CARD OF 'lyceumlaw18.FitchCuts'. -/
def fitchCutsUptoCard : Claim7 := { stood := { row := fitchCutsUptoRow, standIns := [], harness := (true, "39c1318060c9120d41093b24ecf366586a3d2af3c6b4397e7654c2adaf8ea921"), looks := true }, kinds := [], alts := [], laidByText := true, laidKinds := [.data, .data, .data, .data, .listed, .data, .data, .data, .data, .pinned], laidTests := true, laidLooks := .later }
def FitchCutsUptoCardSaid : Prop := Claim7.holds Tryz.pinned (.plain (OpenSpec.upto fitchCutsSpec)) fitchCutsUptoCard

/-- THE SECOND FORM's CARD OF 'lyceumlaw18.FitchWrong'. -/
def fitchWrongUptoCard : Claim7 := { stood := { row := fitchWrongUptoRow, standIns := [], harness := (true, "39c1318060c9120d41093b24ecf366586a3d2af3c6b4397e7654c2adaf8ea921"), looks := true }, kinds := [], alts := [], laidByText := true, laidKinds := [.data, .data, .data, .data, .listed, .data, .data, .data, .data, .pinned], laidTests := true, laidLooks := .later }
def FitchWrongUptoCardSaid : Prop := Claim7.holds Tryz.pinned (.plain (OpenSpec.upto fitchWrongSpec)) fitchWrongUptoCard

/-- THE SECOND FORM's CARD OF 'lyceumlaw18.FitchCut'. -/
def fitchCutUptoCard : Claim7 := { stood := { row := fitchCutUptoRow, standIns := [], harness := (true, "39c1318060c9120d41093b24ecf366586a3d2af3c6b4397e7654c2adaf8ea921"), looks := true }, kinds := [], alts := [], laidByText := true, laidKinds := [.data, .data, .data, .data, .listed, .data, .data, .data, .data, .pinned], laidTests := true, laidLooks := .later }
def FitchCutUptoCardSaid : Prop := Claim7.holds Tryz.pinned (.plain (OpenSpec.upto fitchCutSpec)) fitchCutUptoCard
end Rows
end Go.Proofs.YthdbakjhebkohaaGreatDoor
