/-
  DERIVED. GIVEN WITH THE SEED: THE CARDS: each row of YtmkiofbhnmaepaaGreatDoorRows.lean that lists a variable, with what it lists TIED to the program's text (the seventh form; the later family's looks); each row that meets fmt, with fmt's text TOLD by the authors' own Lean function (tested against real Go, not proved from fmt's source: count such statements apart). THE CARD IS WHAT COUNTS. Prove the row's statement (the work); the ties are given (YtmkiofbhnmaepaaGreatDoorTie.lean); close each card by the builder's one call (the guide's Derived/Test/ToyasCard.lean, 'card_holds'). Laid BY PROGRAM, IN A SANDBOX (cutbox-door.mjs). By AI agents, Wed Nov 11 2026. No macro, syntax, notation, axiom, sorry.
-/
import Derived.Test.YtmkiofbhnmaepaaGreatDoorRows
import GoSem.ClaimSeven
namespace Go.Proofs.YtmkiofbhnmaepaaGreatDoor
namespace Rows

/-- THE TIED CARD OF 'lyceumlaw28.FallacyLists'. -/
def fallacyListsCard : Claim7 := { stood := { row := fallacyListsRow, standIns := [], harness := (true, "9e78cc82396a96dc3ab6cd2d9cbe79bffc5977bb8d2fc26dc023e09b4818849a"), looks := true }, kinds := [], alts := [], laidByText := true, laidKinds := [.data, .data, .data, .data, .listed, .data, .data, .data, .data, .pinned], laidTests := true, laidLooks := .later }
def FallacyListsCardSaid : Prop := Claim7.holds Tryz.pinned (.plain (OpenSpec.ofChange fallacyListsSpec)) fallacyListsCard

/-- THE SECOND FORM's CARD OF 'lyceumlaw28.FallacyLists'. -/
def fallacyListsUptoCard : Claim7 := { stood := { row := fallacyListsUptoRow, standIns := [], harness := (true, "9e78cc82396a96dc3ab6cd2d9cbe79bffc5977bb8d2fc26dc023e09b4818849a"), looks := true }, kinds := [], alts := [], laidByText := true, laidKinds := [.data, .data, .data, .data, .listed, .data, .data, .data, .data, .pinned], laidTests := true, laidLooks := .later }
def FallacyListsUptoCardSaid : Prop := Claim7.holds Tryz.pinned (.plain (OpenSpec.upto fallacyListsSpec)) fallacyListsUptoCard
end Rows
end Go.Proofs.YtmkiofbhnmaepaaGreatDoor
