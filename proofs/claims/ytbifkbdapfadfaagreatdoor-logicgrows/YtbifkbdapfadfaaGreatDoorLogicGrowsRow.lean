/-
  LogicGrows of lyceumlaw09 returns true whatever the bytes and the flag are: the tied card. Conditions: none beyond the card's own (the listed package-level variables read as the program's text lays them).
-/
import Derived.Test.YtbifkbdapfadfaaGreatDoorLogicGrows
import Derived.Test.YtbifkbdapfadfaaGreatDoorLogicGrowsGoes
import Derived.Test.YtbifkbdapfadfaaGreatDoorLogicGrowsFacts
set_option linter.all false
namespace Go.Proofs.YtbifkbdapfadfaaGreatDoor
open Go Go.ChangeShapes Go.WideShapes Go.RowKit
set_option maxRecDepth 100000
set_option maxHeartbeats 0
theorem logicGrows_row : Rows.LogicGrowsSaid :=
  OpenClaim.holds_of_wide 4 Tryz.f4 rfl rfl rfl rfl rfl rfl rfl ⟨rfl, rfl, rfl, rfl, rfl⟩ rfl rfl rfl rfl rfl fact_named Tryz.func4 closed
    (of_decide_eq_true (by kernel_rfl)) (by unfold Func.isWrapper; first | (rw [if_pos (by decide +kernel)]; kernel_rfl) | (rw [if_neg (by decide +kernel)]; exact ⟨rfl, rfl⟩))
    (fun os started H enc _ => lifted os started H enc)
end Go.Proofs.YtbifkbdapfadfaaGreatDoor
