/-
  LogicRules of lyceumlaw09 returns true whatever the byte and the text are: the tied card. Conditions: none beyond the card's own (the listed package-level variables read as the program's text lays them).
-/
import Derived.Test.YtnbkckejpekkaaaGreatDoorLogicRulesRow
set_option linter.all false
namespace Go.Proofs.YtnbkckejpekkaaaGreatDoor
open Go Go.ChangeShapes Go.WideShapes Go.ChangeAt Go.RowKit
set_option maxRecDepth 100000
set_option maxHeartbeats 0
theorem logicRules_holds : Rows.LogicRulesCardSaid :=
  Claim7.holds_tied_plain_at .later [] _ true _ true
    logicRules_row (fun _ h => by cases h) (by kernel_rfl) (fun _ h => by cases h) logicRules_row_tie rfl ⟨rfl, rfl⟩ (by kernel_rfl) rfl
    (fun f fn hf hfn => by
      obtain rfl : f = 5 := Option.some.inj ((show Tryz.prog.funcNamed Rows.logicRulesRow.func = some 5 by kernel_rfl).symm.trans hf) |>.symm
      obtain rfl : fn = Tryz.f5 := (Option.some.inj (Tryz.func5.symm.trans hfn)).symm
      exact ⟨by kernel_rfl, fun j t ht => by
        rw [Tryz.params5] at ht
        have hm : t ∈ ([5, 9] : List Nat) := by simpa using Array.mem_of_getElem? ht
        have hall : (([5, 9] : List Nat).all fun u => !Tryz.prog.wantsStandIn u) = true := by kernel_rfl
        exact (show Tryz.prog.wantsStandIn t = false by simpa using List.all_eq_true.1 hall t hm)⟩)
    (by kernel_rfl)
#print axioms logicRules_holds
end Go.Proofs.YtnbkckejpekkaaaGreatDoor
