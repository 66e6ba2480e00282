/-
  Matches and Copy, run with tokens. No conditions: closed facts.
-/
import Derived.Test.YtbaolbofgleabaaGreatDoorW4
set_option linter.all false
noncomputable section
namespace Go.Lyc.T
open Go.Lyc Go.RowKit Go.Proofs
set_option maxRecDepth 1000000
set_option maxHeartbeats 0
theorem rMat : ∀ r < 11, a5Z base r = true := by
 intro r ak;have : r = 0 ∨ r = 1 ∨ r = 2 ∨ r = 3 ∨ r = 4 ∨ r = 5 ∨ r = 6 ∨ r = 7 ∨ r = 8 ∨ r = 9 ∨ r = 10 := by omega
 rcases this with rfl | rfl | rfl | rfl | rfl | rfl | rfl | rfl | rfl | rfl | rfl <;> decide +kernel
theorem rCp : a6b base = true := by decide +kernel
end Go.Lyc.T
