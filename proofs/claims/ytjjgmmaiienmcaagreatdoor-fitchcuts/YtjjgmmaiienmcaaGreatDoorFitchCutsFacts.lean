/-
  FitchCuts of lyceumlaw18 returns true whatever the lines and the premise are: the tied card. Conditions: none beyond the card's own (the listed package-level variables read as the program's text lays them).
-/
import Derived.Test.YtjjgmmaiienmcaaGreatDoorRows
import Derived.Test.YtjjgmmaiienmcaaGreatDoorCards
import Derived.JoinedOf
import Derived.SevenTiedAt
import Derived.KernelRfl
import Derived.ProofKit
set_option linter.all false
namespace Go.Proofs.YtjjgmmaiienmcaaGreatDoor
open Go Go.ChangeShapes Go.WideShapes Go.RowKit
set_option maxRecDepth 100000
set_option maxHeartbeats 0
theorem band {a b : Bool} (h : a = true) (h' : b = true) : (a && b) = true := by rw [h, h']; rfl
theorem closed : joinedFacts Tryz.pinned.checked.prog 3 Tryz.f3 Rows.fitchCutsSpec Rows.fitchCutsRow = true := by
  unfold joinedFacts
  repeat' (with_reducible refine band ?_ ?_)
  all_goals (as_aux_lemma => kernel_rfl)
theorem fact_wf : Rows.fitchCutsRow.wfByText (OpenSpec.ofChange Rows.fitchCutsSpec) = true := by kernel_rfl
theorem fact_main : Tryz.pinned.checked.prog.mainIs = some (Rows.fitchCutsCard.stood.harness.1, Rows.fitchCutsCard.stood.harness.2.toList) := by kernel_rfl
theorem fact_looks : true = Tryz.pinned.checked.prog.looks [] := by kernel_rfl
theorem fact_named : Tryz.prog.funcNamed Rows.fitchCutsRow.func = some 3 := by kernel_rfl
end Go.Proofs.YtjjgmmaiienmcaaGreatDoor
