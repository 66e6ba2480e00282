/-
  DERIVED. GIVEN WITH THE SEED: THE CARDS: each row of YtjjgmmaiienmcaaGreatDoorRows.lean that lists a variable, with what it lists TIED to the program's text (the seventh form; the later family's looks); each row that meets fmt, with fmt's text TOLD by the authors' own Lean function (tested against real Go, not proved from fmt's source: count such statements apart). THE CARD IS WHAT COUNTS. Prove the row's statement (the work); the ties are given (YtjjgmmaiienmcaaGreatDoorTie.lean); close each card by the builder's one call (the guide's Derived/Test/ToyasCard.lean, 'card_holds'). Laid BY PROGRAM, IN A SANDBOX (cutbox-door.mjs). By AI agents, Wed Nov 11 2026. No macro, syntax, notation, axiom, sorry.
-/
import Derived.Test.YtjjgmmaiienmcaaGreatDoorRows
import GoSem.ClaimSeven
namespace Go.Proofs.YtjjgmmaiienmcaaGreatDoor
namespace Rows

/-- THE TIED CARD OF 'lyceumlaw18.FitchCuts'. -/
def fitchCutsCard : Claim7 := { stood := { row := fitchCutsRow, standIns := [], harness := (true, "47b46e75fb5ae82699f306b04f6e8118a8eb8d12d5f7191b3a1426d916ad50d2"), looks := true }, kinds := [], alts := [], laidByText := true, laidKinds := [.data, .data, .data, .data, .listed, .data, .data, .data, .data, .pinned], laidTests := true, laidLooks := .later }
def FitchCutsCardSaid : Prop := Claim7.holds Tryz.pinned (.plain (OpenSpec.ofChange fitchCutsSpec)) fitchCutsCard

/-- THE SECOND FORM's CARD OF 'lyceumlaw18.FitchCuts'. -/
def fitchCutsUptoCard : Claim7 := { stood := { row := fitchCutsUptoRow, standIns := [], harness := (true, "47b46e75fb5ae82699f306b04f6e8118a8eb8d12d5f7191b3a1426d916ad50d2"), looks := true }, kinds := [], alts := [], laidByText := true, laidKinds := [.data, .data, .data, .data, .listed, .data, .data, .data, .data, .pinned], laidTests := true, laidLooks := .later }
def FitchCutsUptoCardSaid : Prop := Claim7.holds Tryz.pinned (.plain (OpenSpec.upto fitchCutsSpec)) fitchCutsUptoCard
end Rows
end Go.Proofs.YtjjgmmaiienmcaaGreatDoor
