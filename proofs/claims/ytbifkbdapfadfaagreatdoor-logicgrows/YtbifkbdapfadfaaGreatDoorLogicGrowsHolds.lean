/-
  LogicGrows of lyceumlaw09 returns true whatever the bytes and the flag are: the tied card. Conditions: none beyond the card's own (the listed package-level variables read as the program's text lays them).
-/
import Derived.Test.YtbifkbdapfadfaaGreatDoorLogicGrowsRow
set_option linter.all false
namespace Go.Proofs.YtbifkbdapfadfaaGreatDoor
open Go Go.ChangeShapes Go.WideShapes Go.RowKit
set_option maxRecDepth 100000
set_option maxHeartbeats 0
theorem logicGrows_holds : Rows.LogicGrowsCardSaid :=
  Claim7.holds_tied_plain_at .later [] _ true _ true
    logicGrows_row (fun _ h => by cases h) fact_wf (fun _ h => by cases h) logicGrows_row_tie rfl ⟨rfl, rfl⟩ fact_main rfl
    (fun f fn hf hfn => by
      obtain rfl : f = 4 := Option.some.inj (fact_named.symm.trans hf) |>.symm
      obtain rfl : fn = Tryz.f4 := (Option.some.inj (Tryz.func4.symm.trans hfn)).symm
      exact ⟨fact_looks, fun j t ht => by
        rw [Tryz.params4] at ht
        have hm : t ∈ ([42, 4] : List Nat) := by simpa using Array.mem_of_getElem? ht
        have hall : (([42, 4] : List Nat).all fun u => !Tryz.prog.wantsStandIn u) = true := by kernel_rfl
        exact (show Tryz.prog.wantsStandIn t = false by simpa using List.all_eq_true.1 hall t hm)⟩)
    fact_goes
#print axioms logicGrows_holds
end Go.Proofs.YtbifkbdapfadfaaGreatDoor
