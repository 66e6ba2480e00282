/-
  DERIVED. GIVEN WITH THE SEED: THE CARDS: each row of YtidpbebfkcnlfaaGreatDoorRows.lean that lists a variable, with what it lists TIED to the program's text (the seventh form; the later family's looks); each row that meets fmt, with fmt's text TOLD by the authors' own Lean function (tested against real Go, not proved from fmt's source: count such statements apart). THE CARD IS WHAT COUNTS. Prove the row's statement (the work); the ties are given (YtidpbebfkcnlfaaGreatDoorTie.lean); close each card by the builder's one call (the guide's Derived/Test/ToyasCard.lean, 'card_holds'). Laid BY PROGRAM, IN A SANDBOX (cutbox-door.mjs). By AI agents, Wed Nov 11 2026. No macro, syntax, notation, axiom, sorry.
-/
import Derived.Test.YtidpbebfkcnlfaaGreatDoorRows
import GoSem.ClaimSeven
namespace Go.Proofs.YtidpbebfkcnlfaaGreatDoor
namespace Rows

/-- THE TIED CARD OF 'lyceumlaw28.FallacyWrong'. -/
def fallacyWrongCard : Claim7 := { stood := { row := fallacyWrongRow, standIns := [], harness := (true, "d8968268dddce8255a2455c1f49f2706784b82ef121275c89f4ae52383f583b3"), looks := true }, kinds := [], alts := [], laidByText := true, laidKinds := [.data, .data, .data, .data, .listed, .data, .data, .data, .data, .pinned], laidTests := true, laidLooks := .later }
def FallacyWrongCardSaid : Prop := Claim7.holds Tryz.pinned (.plain (OpenSpec.ofChange fallacyWrongSpec)) fallacyWrongCard

/-- THE SECOND FORM's CARD OF 'lyceumlaw28.FallacyWrong'. -/
def fallacyWrongUptoCard : Claim7 := { stood := { row := fallacyWrongUptoRow, standIns := [], harness := (true, "d8968268dddce8255a2455c1f49f2706784b82ef121275c89f4ae52383f583b3"), looks := true }, kinds := [], alts := [], laidByText := true, laidKinds := [.data, .data, .data, .data, .listed, .data, .data, .data, .data, .pinned], laidTests := true, laidLooks := .later }
def FallacyWrongUptoCardSaid : Prop := Claim7.holds Tryz.pinned (.plain (OpenSpec.upto fallacyWrongSpec)) fallacyWrongUptoCard
end Rows
end Go.Proofs.YtidpbebfkcnlfaaGreatDoor
