/-
  DERIVED. GIVEN WITH THE SEED: THE CARDS: each row of YtbifkbdapfadfaaGreatDoorRows.lean that lists a variable, with what it lists TIED to the program's text (the seventh form; the later family's looks); each row that meets fmt, with fmt's text TOLD by the authors' own Lean function (tested against real Go, not proved from fmt's source: count such statements apart). THE CARD IS WHAT COUNTS. Prove the row's statement (the work); the ties are given (YtbifkbdapfadfaaGreatDoorTie.lean); close each card by the builder's one call (the guide's Derived/Test/ToyasCard.lean, 'card_holds'). Laid BY PROGRAM, IN A SANDBOX (cutbox-door.mjs). By AI agents, Wed Nov 11 2026. No macro, syntax, notation, axiom, sorry.
-/
import Derived.Test.YtbifkbdapfadfaaGreatDoorRows
import GoSem.ClaimSeven
namespace Go.Proofs.YtbifkbdapfadfaaGreatDoor
namespace Rows

/-- THE TIED CARD OF 'lyceumlaw09.LogicAdequate'. -/
def logicAdequateCard : Claim7 := { stood := { row := logicAdequateRow, standIns := [], harness := (true, "75865bd09211176362e2cf64de1e56fa57d23ae7cd5bde7eeef09a6492c7c522"), looks := true }, kinds := [], alts := [], laidByText := true, laidKinds := [.data, .data, .data, .data, .listed, .data, .data, .data, .data, .pinned], laidTests := true, laidLooks := .later }
def LogicAdequateCardSaid : Prop := Claim7.holds Tryz.pinned (.plain (OpenSpec.ofChange logicAdequateSpec)) logicAdequateCard

/-- THE TIED CARD OF 'lyceumlaw09.LogicGrows'. -/
def logicGrowsCard : Claim7 := { stood := { row := logicGrowsRow, standIns := [], harness := (true, "75865bd09211176362e2cf64de1e56fa57d23ae7cd5bde7eeef09a6492c7c522"), looks := true }, kinds := [], alts := [], laidByText := true, laidKinds := [.data, .data, .data, .data, .listed, .data, .data, .data, .data, .pinned], laidTests := true, laidLooks := .later }
def LogicGrowsCardSaid : Prop := Claim7.holds Tryz.pinned (.plain (OpenSpec.ofChange logicGrowsSpec)) logicGrowsCard

/-- THE SECOND FORM's CARD OF 'lyceumlaw09.LogicAdequate'. -/
def logicAdequateUptoCard : Claim7 := { stood := { row := logicAdequateUptoRow, standIns := [], harness := (true, "75865bd09211176362e2cf64de1e56fa57d23ae7cd5bde7eeef09a6492c7c522"), looks := true }, kinds := [], alts := [], laidByText := true, laidKinds := [.data, .data, .data, .data, .listed, .data, .data, .data, .data, .pinned], laidTests := true, laidLooks := .later }
def LogicAdequateUptoCardSaid : Prop := Claim7.holds Tryz.pinned (.plain (OpenSpec.upto logicAdequateSpec)) logicAdequateUptoCard

/-- THE SECOND FORM's CARD OF 'lyceumlaw09.LogicGrows'. -/
def logicGrowsUptoCard : Claim7 := { stood := { row := logicGrowsUptoRow, standIns := [], harness := (true, "75865bd09211176362e2cf64de1e56fa57d23ae7cd5bde7eeef09a6492c7c522"), looks := true }, kinds := [], alts := [], laidByText := true, laidKinds := [.data, .data, .data, .data, .listed, .data, .data, .data, .data, .pinned], laidTests := true, laidLooks := .later }
def LogicGrowsUptoCardSaid : Prop := Claim7.holds Tryz.pinned (.plain (OpenSpec.upto logicGrowsSpec)) logicGrowsUptoCard
end Rows
end Go.Proofs.YtbifkbdapfadfaaGreatDoor
