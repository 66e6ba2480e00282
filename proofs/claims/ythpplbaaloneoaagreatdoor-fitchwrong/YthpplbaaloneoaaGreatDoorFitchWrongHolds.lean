/-
  FitchWrong of lyceumlaw18 returns true whatever the bytes and the numbers are: the tied card. Conditions: none beyond the card's own (the listed package-level variables read as the program's text lays them).
-/
import Derived.Test.YthpplbaaloneoaaGreatDoorFitchWrongRow
set_option linter.all false
namespace Go.Proofs.YthpplbaaloneoaaGreatDoor
open Go Go.ChangeShapes Go.WideShapes Go.RowKit
set_option maxRecDepth 100000
set_option maxHeartbeats 0
theorem fitchWrong_holds : Rows.FitchWrongCardSaid :=
  Claim7.holds_tied_plain_at .later [] _ true _ true
    fitchWrong_row (λ_ h => by cases h) fact_wf (λ_ h => by cases h) fitchWrong_row_tie rfl ⟨rfl, rfl⟩ fact_main rfl
    (λf fn hf hfn => by
      obtain rfl : f = 3 := Option.some.inj (fact_named.symm.trans hf) |>.symm;obtain rfl : fn = Tryz.f3 := (Option.some.inj (Tryz.func3.symm.trans hfn)).symm;exact ⟨fact_looks, λj t ht => by
        rw [Tryz.params3] at ht;have hm : t ∈ ([22, 5, 5] : List Nat) := by simpa using Array.mem_of_getElem? ht
        have hall : (([22, 5, 5] : List Nat).all λu => !Tryz.prog.wantsStandIn u) = true := by kernel_rfl
        exact (show Tryz.prog.wantsStandIn t = false by simpa using List.all_eq_true.1 hall t hm)⟩)
    fact_goes
#print axioms fitchWrong_holds
end Go.Proofs.YthpplbaaloneoaaGreatDoor
