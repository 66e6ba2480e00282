/-
  LogicFits of lyceumlaw09 returns true whatever the bytes, the byte and the flag are: the tied card. Conditions: none beyond the card's own (the listed package-level variables read as the program's text lays them).
-/
import Derived.Test.YtepnpmoabkhboaaGreatDoorRows
import Derived.Test.YtepnpmoabkhboaaGreatDoorCards
import Derived.JoinedOf
import Derived.SevenTiedAt
import Derived.KernelRfl
import Derived.ProofKit
set_option linter.all false
namespace Go.Proofs.YtepnpmoabkhboaaGreatDoor
open Go Go.ChangeShapes Go.WideShapes Go.RowKit
set_option maxRecDepth 100000
set_option maxHeartbeats 0
theorem band {a b : Bool} (h : a = true) (h' : b = true) : (a && b) = true := by rw [h, h']; rfl
theorem closed : joinedFacts Tryz.pinned.checked.prog 3 Tryz.f3 Rows.logicFitsSpec Rows.logicFitsRow = true := by
  unfold joinedFacts
  repeat' (with_reducible refine band ?_ ?_)
  all_goals (as_aux_lemma => kernel_rfl)
theorem fact_wf : Rows.logicFitsRow.wfByText (OpenSpec.ofChange Rows.logicFitsSpec) = true := by kernel_rfl
theorem fact_main : Tryz.pinned.checked.prog.mainIs = some (Rows.logicFitsCard.stood.harness.1, Rows.logicFitsCard.stood.harness.2.toList) := by kernel_rfl
theorem fact_looks : true = Tryz.pinned.checked.prog.looks [] := by kernel_rfl
theorem fact_named : Tryz.prog.funcNamed Rows.logicFitsRow.func = some 3 := by kernel_rfl
end Go.Proofs.YtepnpmoabkhboaaGreatDoor
