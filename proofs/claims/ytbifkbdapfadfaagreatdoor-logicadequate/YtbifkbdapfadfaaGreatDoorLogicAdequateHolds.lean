/-
  LogicAdequate of lyceumlaw09 returns true: the tied card. Conditions: none beyond the card's own (the listed package-level variables read as the program's text lays them).
-/
import Derived.Test.YtbifkbdapfadfaaGreatDoorLogicAdequateRow
set_option linter.all false
namespace Go.Proofs.YtbifkbdapfadfaaGreatDoor
open Go Go.ChangeShapes Go.WideShapes Go.RowKit
set_option maxRecDepth 100000
set_option maxHeartbeats 0
theorem logicAdequate_holds : Rows.LogicAdequateCardSaid :=
  Claim7.holds_tied_plain_at .later [] _ true _ true
    logicAdequate_row (fun _ h => by cases h) fact_wf (fun _ h => by cases h) logicAdequate_row_tie rfl ⟨rfl, rfl⟩ fact_main rfl
    (fun f fn hf hfn => by
      obtain rfl : f = 3 := Option.some.inj (fact_named.symm.trans hf) |>.symm
      obtain rfl : fn = Tryz.f3 := (Option.some.inj (Tryz.func3.symm.trans hfn)).symm
      exact ⟨fact_looks, fun j t ht => by
        rw [Tryz.params3] at ht
        simp at ht⟩)
    fact_goes
#print axioms logicAdequate_holds
end Go.Proofs.YtbifkbdapfadfaaGreatDoor
