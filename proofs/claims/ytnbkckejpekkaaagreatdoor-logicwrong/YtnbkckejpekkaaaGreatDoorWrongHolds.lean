/-
  LogicWrong of lyceumlaw09 returns true whatever the two bytes are: the tied card. Conditions: none beyond the card's own (the listed package-level variables read as the program's text lays them).
-/
import Derived.Test.YtnbkckejpekkaaaGreatDoorWrongRow
set_option linter.all false
namespace Go.Proofs.YtnbkckejpekkaaaGreatDoor
open Go Go.ChangeShapes Go.WideShapes Go.ChangeAt Go.RowKit
set_option maxRecDepth 100000
set_option maxHeartbeats 0
theorem logicWrong_holds : Rows.LogicWrongCardSaid :=
  Claim7.holds_tied_plain_at .later [] _ true _ true
    logicWrong_row (fun _ h => by cases h) (by kernel_rfl) (fun _ h => by cases h) logicWrong_row_tie rfl ⟨rfl, rfl⟩ (by kernel_rfl) rfl
    (fun f fn hf hfn => by
      obtain rfl : f = 6 := Option.some.inj ((show Tryz.prog.funcNamed Rows.logicWrongRow.func = some 6 by kernel_rfl).symm.trans hf) |>.symm
      obtain rfl : fn = Tryz.f6 := (Option.some.inj (Tryz.func6.symm.trans hfn)).symm
      exact ⟨by kernel_rfl, fun j t ht => by
        rw [Tryz.params6] at ht
        have hm : t ∈ [5, 5] := by simpa using Array.mem_of_getElem? ht
        have hall : ([5, 5].all fun u => !Tryz.prog.wantsStandIn u) = true := by kernel_rfl
        exact (show Tryz.prog.wantsStandIn t = false by simpa using List.all_eq_true.1 hall t hm)⟩)
    (by kernel_rfl)
#print axioms logicWrong_holds
end Go.Proofs.YtnbkckejpekkaaaGreatDoor
