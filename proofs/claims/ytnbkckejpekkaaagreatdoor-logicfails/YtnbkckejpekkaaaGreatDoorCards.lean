/-
  DERIVED. GIVEN WITH THE SEED: THE CARDS: each row of YtnbkckejpekkaaaGreatDoorRows.lean that lists a variable, with what it lists TIED to the program's text (the seventh form; the later family's looks); each row that meets fmt, with fmt's text TOLD by the authors' own Lean function (tested against real Go, not proved from fmt's source: count such statements apart). THE CARD IS WHAT COUNTS. Prove the row's statement (the work); the ties are given (YtnbkckejpekkaaaGreatDoorTie.lean); close each card by the builder's one call (the guide's Derived/Test/ToyasCard.lean, 'card_holds'). Laid BY PROGRAM, IN A SANDBOX (cutbox-door.mjs). By AI agents, Wed Nov 11 2026. No macro, syntax, notation, axiom, sorry.
-/
import Derived.Test.YtnbkckejpekkaaaGreatDoorRows
import GoSem.ClaimSeven
namespace Go.Proofs.YtnbkckejpekkaaaGreatDoor
namespace Rows

/-- THE TIED CARD OF 'lyceumlaw09.LogicNamed'. -/
def logicNamedCard : Claim7 := { stood := { row := logicNamedRow, standIns := [], harness := (true, "6cca51ca64f778a06f70f1ffbcdc1a705cf3cd8031a7d2c688ddc2b2ddaa30e4"), looks := true }, kinds := [], alts := [], laidByText := true, laidKinds := [.data, .data, .data, .data, .listed, .data, .data, .data, .data, .pinned], laidTests := true, laidLooks := .later }
def LogicNamedCardSaid : Prop := Claim7.holds Tryz.pinned (.plain (OpenSpec.ofChange logicNamedSpec)) logicNamedCard

/-- THE TIED CARD OF 'lyceumlaw09.LogicFails'. -/
def logicFailsCard : Claim7 := { stood := { row := logicFailsRow, standIns := [], harness := (true, "6cca51ca64f778a06f70f1ffbcdc1a705cf3cd8031a7d2c688ddc2b2ddaa30e4"), looks := true }, kinds := [], alts := [], laidByText := true, laidKinds := [.data, .data, .data, .data, .listed, .data, .data, .data, .data, .pinned], laidTests := true, laidLooks := .later }
def LogicFailsCardSaid : Prop := Claim7.holds Tryz.pinned (.plain (OpenSpec.ofChange logicFailsSpec)) logicFailsCard

/-- THE TIED CARD OF 'lyceumlaw09.LogicRules'. -/
def logicRulesCard : Claim7 := { stood := { row := logicRulesRow, standIns := [], harness := (true, "6cca51ca64f778a06f70f1ffbcdc1a705cf3cd8031a7d2c688ddc2b2ddaa30e4"), looks := true }, kinds := [], alts := [], laidByText := true, laidKinds := [.data, .data, .data, .data, .listed, .data, .data, .data, .data, .pinned], laidTests := true, laidLooks := .later }
def LogicRulesCardSaid : Prop := Claim7.holds Tryz.pinned (.plain (OpenSpec.ofChange logicRulesSpec)) logicRulesCard

/-- THE TIED CARD OF 'lyceumlaw09.LogicWrong'. -/
def logicWrongCard : Claim7 := { stood := { row := logicWrongRow, standIns := [], harness := (true, "6cca51ca64f778a06f70f1ffbcdc1a705cf3cd8031a7d2c688ddc2b2ddaa30e4"), looks := true }, kinds := [], alts := [], laidByText := true, laidKinds := [.data, .data, .data, .data, .listed, .data, .data, .data, .data, .pinned], laidTests := true, laidLooks := .later }
def LogicWrongCardSaid : Prop := Claim7.holds Tryz.pinned (.plain (OpenSpec.ofChange logicWrongSpec)) logicWrongCard

/-- THE SECOND FORM's CARD OF 'lyceumlaw09.LogicNamed'. -/
def logicNamedUptoCard : Claim7 := { stood := { row := logicNamedUptoRow, standIns := [], harness := (true, "6cca51ca64f778a06f70f1ffbcdc1a705cf3cd8031a7d2c688ddc2b2ddaa30e4"), looks := true }, kinds := [], alts := [], laidByText := true, laidKinds := [.data, .data, .data, .data, .listed, .data, .data, .data, .data, .pinned], laidTests := true, laidLooks := .later }
def LogicNamedUptoCardSaid : Prop := Claim7.holds Tryz.pinned (.plain (OpenSpec.upto logicNamedSpec)) logicNamedUptoCard

/-- THE SECOND FORM's CARD OF 'lyceumlaw09.LogicFails'. -/
def logicFailsUptoCard : Claim7 := { stood := { row := logicFailsUptoRow, standIns := [], harness := (true, "6cca51ca64f778a06f70f1ffbcdc1a705cf3cd8031a7d2c688ddc2b2ddaa30e4"), looks := true }, kinds := [], alts := [], laidByText := true, laidKinds := [.data, .data, .data, .data, .listed, .data, .data, .data, .data, .pinned], laidTests := true, laidLooks := .later }
def LogicFailsUptoCardSaid : Prop := Claim7.holds Tryz.pinned (.plain (OpenSpec.upto logicFailsSpec)) logicFailsUptoCard

/-- THE SECOND FORM's CARD OF 'lyceumlaw09.LogicRules'. -/
def logicRulesUptoCard : Claim7 := { stood := { row := logicRulesUptoRow, standIns := [], harness := (true, "6cca51ca64f778a06f70f1ffbcdc1a705cf3cd8031a7d2c688ddc2b2ddaa30e4"), looks := true }, kinds := [], alts := [], laidByText := true, laidKinds := [.data, .data, .data, .data, .listed, .data, .data, .data, .data, .pinned], laidTests := true, laidLooks := .later }
def LogicRulesUptoCardSaid : Prop := Claim7.holds Tryz.pinned (.plain (OpenSpec.upto logicRulesSpec)) logicRulesUptoCard

/-- THE SECOND FORM's CARD OF 'lyceumlaw09.LogicWrong'. -/
def logicWrongUptoCard : Claim7 := { stood := { row := logicWrongUptoRow, standIns := [], harness := (true, "6cca51ca64f778a06f70f1ffbcdc1a705cf3cd8031a7d2c688ddc2b2ddaa30e4"), looks := true }, kinds := [], alts := [], laidByText := true, laidKinds := [.data, .data, .data, .data, .listed, .data, .data, .data, .data, .pinned], laidTests := true, laidLooks := .later }
def LogicWrongUptoCardSaid : Prop := Claim7.holds Tryz.pinned (.plain (OpenSpec.upto logicWrongSpec)) logicWrongUptoCard
end Rows
end Go.Proofs.YtnbkckejpekkaaaGreatDoor
