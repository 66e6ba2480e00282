/-
  LogicFails of lyceumlaw09 returns true: the tied card. Conditions: none beyond the card's own (the listed package-level variables read as the program's text lays them).
-/
import Derived.Test.YtnbkckejpekkaaaGreatDoorLogicFailsRow
set_option linter.all false
namespace Go.Proofs.YtnbkckejpekkaaaGreatDoor
open Go Go.ChangeShapes Go.WideShapes Go.RowKit
set_option maxRecDepth 100000
set_option maxHeartbeats 0
theorem logicFails_holds : Rows.LogicFailsCardSaid :=
  Claim7.holds_tied_plain_at .later [] _ true _ true
    logicFails_row (fun _ h => by cases h) fact_wf (fun _ h => by cases h) logicFails_row_tie rfl ⟨rfl, rfl⟩ fact_main rfl
    (fun f fn hf hfn => by
      obtain rfl : f = 4 := Option.some.inj (fact_named.symm.trans hf) |>.symm
      obtain rfl : fn = Tryz.f4 := (Option.some.inj (Tryz.func4.symm.trans hfn)).symm
      exact ⟨fact_looks, fun j t ht => by
        rw [Tryz.params4] at ht
        simp at ht⟩)
    fact_goes
#print axioms logicFails_holds
end Go.Proofs.YtnbkckejpekkaaaGreatDoor
