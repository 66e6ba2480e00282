/-
  LogicFails of lyceumlaw09 returns true: the tied card. Conditions: none beyond the card's own (the listed package-level variables read as the program's text lays them).
-/
import Derived.Test.YtnbkckejpekkaaaGreatDoorRows
import Derived.Test.YtnbkckejpekkaaaGreatDoorCards
import Derived.JoinedOf
import Derived.SevenTiedAt
import Derived.KernelRfl
set_option linter.all false
namespace Go.Proofs.YtnbkckejpekkaaaGreatDoor
open Go
set_option maxRecDepth 100000
set_option maxHeartbeats 0
theorem band {a b : Bool} (h : a = true) (h' : b = true) : (a && b) = true := by rw [h, h']; rfl
theorem closed : joinedFacts Tryz.pinned.checked.prog 4 Tryz.f4 Rows.logicFailsSpec Rows.logicFailsRow = true := by
  unfold joinedFacts
  repeat' (with_reducible refine band ?_ ?_)
  all_goals (as_aux_lemma => kernel_rfl)
theorem fact_wf : Rows.logicFailsRow.wfByText (OpenSpec.ofChange Rows.logicFailsSpec) = true := by kernel_rfl
theorem fact_main : Tryz.pinned.checked.prog.mainIs = some (Rows.logicFailsCard.stood.harness.1, Rows.logicFailsCard.stood.harness.2.toList) := by kernel_rfl
theorem fact_looks : true = Tryz.pinned.checked.prog.looks [] := by kernel_rfl
theorem fact_named : Tryz.prog.funcNamed Rows.logicFailsRow.func = some 4 := by kernel_rfl
end Go.Proofs.YtnbkckejpekkaaaGreatDoor
