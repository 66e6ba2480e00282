/-
  FallacyLists of lyceumlaw28 returns true whatever the logic and the name are: the tied card. Conditions: none beyond the card's own (the listed package-level variables read as the program's text lays them).
-/
import Derived.Test.YtmkiofbhnmaepaaGreatDoorFallacyLists
import Derived.Test.YtmkiofbhnmaepaaGreatDoorFallacyListsGoes
import Derived.Test.YtmkiofbhnmaepaaGreatDoorFallacyListsFacts
set_option linter.all false
namespace Go.Proofs.YtmkiofbhnmaepaaGreatDoor
open Go Go.ChangeShapes Go.WideShapes Go.RowKit
set_option maxRecDepth 100000
set_option maxHeartbeats 0
theorem fallacyLists_row : Rows.FallacyListsSaid :=
  OpenClaim.holds_of_wide 3 Tryz.f3 rfl rfl rfl rfl rfl rfl rfl ⟨rfl, rfl, rfl, rfl, rfl⟩ rfl rfl rfl rfl rfl fact_named Tryz.func3 closed
    (of_decide_eq_true (by kernel_rfl)) (by unfold Func.isWrapper; first | (rw [if_pos (by decide +kernel)]; kernel_rfl) | (rw [if_neg (by decide +kernel)]; exact ⟨rfl, rfl⟩))
    (fun os started H enc _ => lifted os started H enc)
end Go.Proofs.YtmkiofbhnmaepaaGreatDoor
