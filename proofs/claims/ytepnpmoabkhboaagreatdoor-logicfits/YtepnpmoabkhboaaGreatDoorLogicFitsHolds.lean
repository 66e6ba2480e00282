/-
  LogicFits of lyceumlaw09 returns true whatever the bytes, the byte and the flag are: the tied card. Conditions: none beyond the card's own (the listed package-level variables read as the program's text lays them).
-/
import Derived.Test.YtepnpmoabkhboaaGreatDoorLogicFitsRow
set_option linter.all false
namespace Go.Proofs.YtepnpmoabkhboaaGreatDoor
open Go Go.ChangeShapes Go.WideShapes Go.RowKit
set_option maxRecDepth 100000
set_option maxHeartbeats 0
theorem logicFits_holds : Rows.LogicFitsCardSaid :=
  Claim7.holds_tied_plain_at .later [] _ true _ true
    logicFits_row (λ_ h => by cases h) fact_wf (λ_ h => by cases h) logicFits_row_tie rfl ⟨rfl, rfl⟩ fact_main rfl
    (λf fn hf hfn => by
      obtain rfl : f = 3 := Option.some.inj (fact_named.symm.trans hf) |>.symm;obtain rfl : fn = Tryz.f3 := (Option.some.inj (Tryz.func3.symm.trans hfn)).symm;exact ⟨fact_looks, λj t ht => by
        rw [Tryz.params3] at ht;have hm : t ∈ ([22, 5, 4] : List Nat) := by simpa using Array.mem_of_getElem? ht
        have hall : (([22, 5, 4] : List Nat).all λu => !Tryz.prog.wantsStandIn u) = true := by kernel_rfl
        exact (show Tryz.prog.wantsStandIn t = false by simpa using List.all_eq_true.1 hall t hm)⟩)
    fact_goes
#print axioms logicFits_holds
end Go.Proofs.YtepnpmoabkhboaaGreatDoor
