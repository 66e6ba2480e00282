/-
  FallacyLists of lyceumlaw28 returns true whatever the logic and the name are: the tied card. Conditions: none beyond the card's own (the listed package-level variables read as the program's text lays them).
-/
import Derived.Test.YtmkiofbhnmaepaaGreatDoorFallacyListsFacts
set_option linter.all false
namespace Go.Proofs.YtmkiofbhnmaepaaGreatDoor
open Go Go.ChangeShapes Go.WideShapes Go.RowKit
set_option maxRecDepth 100000
set_option maxHeartbeats 0
theorem quiet_all : Tryz.pinned.checked.prog.funcs.toList.any Func.goes = false := by kernel_rfl
theorem goes_of_quiet {P : Program} {f : FuncId} (h : P.funcs.toList.any Func.goes = false) : P.goes f = false := by
  have h1 : ∀ fn ∈ P.funcs, Func.goes fn = false := fun fn hf => by
    have := List.any_eq_false.1 h fn (by simpa using hf);simpa using this
  have h2 : P.funcs.any Func.goes = false := by
    rw [Array.any_eq_false];intro i hi;simpa using h1 _ (Array.getElem_mem hi)
  have h3 : ((P.closure f).any fun g => (P.funcs[g]?).any Func.goes) = false := by
    apply Bool.eq_false_iff.2;intro ha;simp only [List.any_eq_true, Array.any_eq_true'] at ha;obtain ⟨g, _, hg⟩ := ha;cases hf : P.funcs[g]? with
    | none => rw [hf] at hg; cases hg
    | some fn =>
      rw [hf] at hg;have := h1 fn (Array.mem_of_getElem? hf);simp only [Option.any_some] at hg;rw [this] at hg; cases hg
  unfold Program.goes;rw [h3, h2];simp
theorem fact_goes : false = Rows.fallacyListsRow.goesBy Tryz.pinned.checked.prog := by
  have h : (Tryz.pinned.checked.prog.goesFrom Rows.fallacyListsRow.func) = false := by
    unfold Program.goesFrom;have hn : Tryz.pinned.checked.prog.funcNamed Rows.fallacyListsRow.func = some 3 := fact_named;rw [hn, Option.any_some];exact goes_of_quiet quiet_all
  show false = (_ || false);rw [h]; rfl
end Go.Proofs.YtmkiofbhnmaepaaGreatDoor
