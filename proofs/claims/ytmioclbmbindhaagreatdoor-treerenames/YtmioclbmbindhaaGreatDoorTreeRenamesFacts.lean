/-
  TreeRenames of lyceumlaw16 returns true whatever the two proofs and the label are: the tied card. Conditions: none beyond the card's own (the listed package-level variables read as the program's text lays them).
-/
import Derived.Test.YtmioclbmbindhaaGreatDoorRows
import Derived.Test.YtmioclbmbindhaaGreatDoorCards
import Derived.JoinedOf
import Derived.SevenTiedAt
import Derived.KernelRfl
import Derived.ProofKit
set_option linter.all false
namespace Go.Proofs.YtmioclbmbindhaaGreatDoor
open Go Go.ChangeShapes Go.WideShapes Go.RowKit
set_option maxRecDepth 100000
set_option maxHeartbeats 0
theorem band {a b : Bool} (h : a = true) (h' : b = true) : (a && b) = true := by rw [h, h']; rfl
theorem closed : joinedFacts Tryz.pinned.checked.prog 3 Tryz.f3 Rows.treeRenamesSpec Rows.treeRenamesRow = true := by
  unfold joinedFacts
  repeat' (with_reducible refine band ?_ ?_)
  all_goals (as_aux_lemma => kernel_rfl)
theorem fact_wf : Rows.treeRenamesRow.wfByText (OpenSpec.ofChange Rows.treeRenamesSpec) = true := by kernel_rfl
theorem fact_main : Tryz.pinned.checked.prog.mainIs = some (Rows.treeRenamesCard.stood.harness.1, Rows.treeRenamesCard.stood.harness.2.toList) := by kernel_rfl
theorem fact_looks : true = Tryz.pinned.checked.prog.looks [] := by kernel_rfl
theorem fact_named : Tryz.prog.funcNamed Rows.treeRenamesRow.func = some 3 := by kernel_rfl
end Go.Proofs.YtmioclbmbindhaaGreatDoor
