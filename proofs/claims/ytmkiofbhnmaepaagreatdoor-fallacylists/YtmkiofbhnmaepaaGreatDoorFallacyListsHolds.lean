/-
  FallacyLists of lyceumlaw28 returns true whatever the logic and the name are: the tied card. Conditions: none beyond the card's own (the listed package-level variables read as the program's text lays them).
-/
import Derived.Test.YtmkiofbhnmaepaaGreatDoorFallacyListsRow
set_option linter.all false
namespace Go.Proofs.YtmkiofbhnmaepaaGreatDoor
open Go Go.ChangeShapes Go.WideShapes Go.RowKit
set_option maxRecDepth 100000
set_option maxHeartbeats 0
theorem fallacyLists_holds : Rows.FallacyListsCardSaid :=
  Claim7.holds_tied_plain_at .later [] _ true _ true
    fallacyLists_row (fun _ h => by cases h) fact_wf (fun _ h => by cases h) fallacyLists_row_tie rfl ⟨rfl, rfl⟩ fact_main rfl
    (fun f fn hf hfn => by
      obtain rfl : f = 3 := Option.some.inj (fact_named.symm.trans hf) |>.symm;obtain rfl : fn = Tryz.f3 := (Option.some.inj (Tryz.func3.symm.trans hfn)).symm;exact ⟨fact_looks, fun j t ht => by
        rw [Tryz.params3] at ht;have hm : t ∈ ([25, 9] : List Nat) := by simpa using Array.mem_of_getElem? ht
        have hall : (([25, 9] : List Nat).all fun u => !Tryz.prog.wantsStandIn u) = true := by kernel_rfl
        exact (show Tryz.prog.wantsStandIn t = false by simpa using List.all_eq_true.1 hall t hm)⟩)
    fact_goes
#print axioms fallacyLists_holds
end Go.Proofs.YtmkiofbhnmaepaaGreatDoor
