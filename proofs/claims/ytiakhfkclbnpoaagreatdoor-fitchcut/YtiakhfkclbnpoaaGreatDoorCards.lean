/-
  DERIVED. GIVEN WITH THE SEED: THE CARDS: each row of YtiakhfkclbnpoaaGreatDoorRows.lean that lists a variable, with what it lists TIED to the program's text (the seventh form; the later family's looks); each row that meets fmt, with fmt's text TOLD by the authors' own Lean function (tested against real Go, not proved from fmt's source: count such statements apart). THE CARD IS WHAT COUNTS. Prove the row's statement (the work); the ties are given (YtiakhfkclbnpoaaGreatDoorTie.lean); close each card by the builder's one call (the guide's Derived/Test/ToyasCard.lean, 'card_holds'). Laid BY PROGRAM, IN A SANDBOX (cutbox-door.mjs). By AI agents, Wed Nov 11 2026. No macro, syntax, notation, axiom, sorry.
-/
import Derived.Test.YtiakhfkclbnpoaaGreatDoorRows
import GoSem.ClaimSeven
namespace Go.Proofs.YtiakhfkclbnpoaaGreatDoor
namespace Rows

/-- THE TIED CARD OF 'lyceumlaw18.FitchCut'. -/
def fitchCutCard : Claim7 := { stood := { row := fitchCutRow, standIns := [], harness := (true, "73bf4d00555bdd7490262fc59c8067239b764073f7fdf3d1d2414e132d918302"), looks := true }, kinds := [], alts := [], laidByText := true, laidKinds := [.data, .data, .data, .data, .listed, .data, .data, .data, .data, .pinned], laidTests := true, laidLooks := .later }
def FitchCutCardSaid : Prop := Claim7.holds Tryz.pinned (.plain (OpenSpec.ofChange fitchCutSpec)) fitchCutCard

/-- THE SECOND FORM's CARD OF 'lyceumlaw18.FitchCut'. -/
def fitchCutUptoCard : Claim7 := { stood := { row := fitchCutUptoRow, standIns := [], harness := (true, "73bf4d00555bdd7490262fc59c8067239b764073f7fdf3d1d2414e132d918302"), looks := true }, kinds := [], alts := [], laidByText := true, laidKinds := [.data, .data, .data, .data, .listed, .data, .data, .data, .data, .pinned], laidTests := true, laidLooks := .later }
def FitchCutUptoCardSaid : Prop := Claim7.holds Tryz.pinned (.plain (OpenSpec.upto fitchCutSpec)) fitchCutUptoCard
end Rows
end Go.Proofs.YtiakhfkclbnpoaaGreatDoor
