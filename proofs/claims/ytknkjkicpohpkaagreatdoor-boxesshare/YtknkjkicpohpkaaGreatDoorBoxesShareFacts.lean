/-
  BoxesShare of lyceumlaw21 returns true whatever the byte is: the tied card. Conditions: none beyond the card's own (the listed package-level variables read as the program's text lays them).
-/
import Derived.Test.YtknkjkicpohpkaaGreatDoorRows
import Derived.Test.YtknkjkicpohpkaaGreatDoorCards
import Derived.JoinedOf
import Derived.SevenTiedAt
import Derived.KernelRfl
set_option linter.all false
namespace Go.Proofs.YtknkjkicpohpkaaGreatDoor
open Go
set_option maxRecDepth 100000
set_option maxHeartbeats 0
theorem band {a b : Bool} (h : a = true) (h' : b = true) : (a && b) = true := by rw [h, h']; rfl
theorem closed : joinedFacts Tryz.pinned.checked.prog 3 Tryz.f3 Rows.boxesShareSpec Rows.boxesShareRow = true := by
  unfold joinedFacts
  repeat' (with_reducible refine band ?_ ?_)
  all_goals (as_aux_lemma => kernel_rfl)
theorem fact_wf : Rows.boxesShareRow.wfByText (OpenSpec.ofChange Rows.boxesShareSpec) = true := by kernel_rfl
theorem fact_main : Tryz.pinned.checked.prog.mainIs = some (Rows.boxesShareCard.stood.harness.1, Rows.boxesShareCard.stood.harness.2.toList) := by kernel_rfl
theorem fact_looks : true = Tryz.pinned.checked.prog.looks [] := by kernel_rfl
theorem fact_named : Tryz.prog.funcNamed "lyceum/lyceumlaw21.BoxesShare" = some 3 := by kernel_rfl
end Go.Proofs.YtknkjkicpohpkaaGreatDoor
