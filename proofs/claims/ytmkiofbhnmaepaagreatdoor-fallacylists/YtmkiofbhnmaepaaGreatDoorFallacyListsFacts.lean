/-
  FallacyLists of lyceumlaw28 returns true whatever the logic and the name are: the tied card. Conditions: none beyond the card's own (the listed package-level variables read as the program's text lays them).
-/
import Derived.Test.YtmkiofbhnmaepaaGreatDoorRows
import Derived.Test.YtmkiofbhnmaepaaGreatDoorCards
import Derived.JoinedOf
import Derived.SevenTiedAt
import Derived.KernelRfl
import Derived.ProofKit
set_option linter.all false
namespace Go.Proofs.YtmkiofbhnmaepaaGreatDoor
open Go Go.ChangeShapes Go.WideShapes Go.RowKit
set_option maxRecDepth 100000
set_option maxHeartbeats 0
theorem band {a b : Bool} (h : a = true) (h' : b = true) : (a && b) = true := by rw [h, h']; rfl
theorem closed : joinedFacts Tryz.pinned.checked.prog 3 Tryz.f3 Rows.fallacyListsSpec Rows.fallacyListsRow = true := by
  unfold joinedFacts
  repeat' (with_reducible refine band ?_ ?_)
  all_goals (as_aux_lemma => kernel_rfl)
theorem fact_wf : Rows.fallacyListsRow.wfByText (OpenSpec.ofChange Rows.fallacyListsSpec) = true := by kernel_rfl
theorem fact_main : Tryz.pinned.checked.prog.mainIs = some (Rows.fallacyListsCard.stood.harness.1, Rows.fallacyListsCard.stood.harness.2.toList) := by kernel_rfl
theorem fact_looks : true = Tryz.pinned.checked.prog.looks [] := by kernel_rfl
theorem fact_named : Tryz.prog.funcNamed Rows.fallacyListsRow.func = some 3 := by kernel_rfl
end Go.Proofs.YtmkiofbhnmaepaaGreatDoor
