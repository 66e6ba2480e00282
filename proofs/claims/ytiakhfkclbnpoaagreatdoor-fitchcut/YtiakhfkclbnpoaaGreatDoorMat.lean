/-
  Matches and Copy, run with tokens. No conditions: closed facts.
-/
import Derived.Test.YtiakhfkclbnpoaaGreatDoorW3
set_option linter.all false
noncomputable section
namespace Go.Lyc.T
open Go.Lyc Go.RowKit Go.Proofs
set_option maxRecDepth 1000000
set_option maxHeartbeats 0
theorem rMat : ∀ r < 9, a4d base r = true := by
 intro r aq;have : r = 0 ∨ r = 1 ∨ r = 2 ∨ r = 3 ∨ r = 4 ∨ r = 5 ∨ r = 6 ∨ r = 7 ∨ r = 8 := by omega
 rcases this with rfl | rfl | rfl | rfl | rfl | rfl | rfl | rfl | rfl <;> decide +kernel
theorem rCp : a4f base = true := by decide +kernel
end Go.Lyc.T
