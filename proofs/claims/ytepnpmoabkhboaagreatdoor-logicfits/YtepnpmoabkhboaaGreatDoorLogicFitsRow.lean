/-
  LogicFits of lyceumlaw09 returns true whatever the bytes, the byte and the flag are: the tied card. Conditions: none beyond the card's own (the listed package-level variables read as the program's text lays them).
-/
import Derived.Test.YtepnpmoabkhboaaGreatDoorLogicFits
import Derived.Test.YtepnpmoabkhboaaGreatDoorLogicFitsGoes
import Derived.Test.YtepnpmoabkhboaaGreatDoorLogicFitsFacts
set_option linter.all false
namespace Go.Proofs.YtepnpmoabkhboaaGreatDoor
open Go Go.ChangeShapes Go.WideShapes Go.RowKit
set_option maxRecDepth 100000
set_option maxHeartbeats 0
theorem logicFits_row : Rows.LogicFitsSaid :=
  OpenClaim.holds_of_wide 3 Tryz.f3 rfl rfl rfl rfl rfl rfl rfl ⟨rfl, rfl, rfl, rfl, rfl⟩ rfl rfl rfl rfl rfl fact_named Tryz.func3 closed
    (of_decide_eq_true (by kernel_rfl)) (by unfold Func.isWrapper; first | (rw [if_pos (by decide +kernel)]; kernel_rfl) | (rw [if_neg (by decide +kernel)]; exact ⟨rfl, rfl⟩))
    (λos started H enc _ => lifted os started H enc)
end Go.Proofs.YtepnpmoabkhboaaGreatDoor
