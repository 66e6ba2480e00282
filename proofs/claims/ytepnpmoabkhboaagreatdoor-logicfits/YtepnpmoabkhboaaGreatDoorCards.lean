/-
  DERIVED. GIVEN WITH THE SEED: THE CARDS: each row of YtepnpmoabkhboaaGreatDoorRows.lean that lists a variable, with what it lists TIED to the program's text (the seventh form; the later family's looks); each row that meets fmt, with fmt's text TOLD by the authors' own Lean function (tested against real Go, not proved from fmt's source: count such statements apart). THE CARD IS WHAT COUNTS. Prove the row's statement (the work); the ties are given (YtepnpmoabkhboaaGreatDoorTie.lean); close each card by the builder's one call (the guide's Derived/Test/ToyasCard.lean, 'card_holds'). Laid BY PROGRAM, IN A SANDBOX (cutbox-door.mjs). By AI agents, Wed Nov 11 2026. No macro, syntax, notation, axiom, sorry.
-/
import Derived.Test.YtepnpmoabkhboaaGreatDoorRows
import GoSem.ClaimSeven
namespace Go.Proofs.YtepnpmoabkhboaaGreatDoor
namespace Rows

/-- THE TIED CARD OF 'lyceumlaw09.LogicFits'. -/
def logicFitsCard : Claim7 := { stood := { row := logicFitsRow, standIns := [], harness := (true, "5244e7e5c741a19141a5ecb50cd3e37748b40dd1440bf9f83966c61fafa8fe2e"), looks := true }, kinds := [], alts := [], laidByText := true, laidKinds := [.data, .data, .data, .data, .listed, .data, .data, .data, .data, .pinned], laidTests := true, laidLooks := .later }
def LogicFitsCardSaid : Prop := Claim7.holds Tryz.pinned (.plain (OpenSpec.ofChange logicFitsSpec)) logicFitsCard

/-- THE SECOND FORM's CARD OF 'lyceumlaw09.LogicFits'. -/
def logicFitsUptoCard : Claim7 := { stood := { row := logicFitsUptoRow, standIns := [], harness := (true, "5244e7e5c741a19141a5ecb50cd3e37748b40dd1440bf9f83966c61fafa8fe2e"), looks := true }, kinds := [], alts := [], laidByText := true, laidKinds := [.data, .data, .data, .data, .listed, .data, .data, .data, .data, .pinned], laidTests := true, laidLooks := .later }
def LogicFitsUptoCardSaid : Prop := Claim7.holds Tryz.pinned (.plain (OpenSpec.upto logicFitsSpec)) logicFitsUptoCard
end Rows
end Go.Proofs.YtepnpmoabkhboaaGreatDoor
