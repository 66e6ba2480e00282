/-
  The law, run. Each run stands by itself.
-/
import Derived.Test.YtidpbebfkcnlfaaGreatDoorRuns
set_option linter.all false
noncomputable section
namespace Go.Lyc.T
open Go.Lyc Go.RowKit Go.Proofs
variable [Tok] [TokOk]
set_option maxRecDepth 1000000
set_option maxHeartbeats 0
def u00 : List (Nat × List AV × AV) := [e23, e159, e469, e470, e471, e472, e474, e475, e477]
theorem r00 (h470 : EOk e470) (h472 : EOk e472) : AllOk u00 := ⟨t23, t159, t469, h470, t471, h472, t474, t475, t477, trivial⟩
theorem w00 : lawAll u00 0 0 = true := by decide +kernel
def u01 : List (Nat × List AV × AV) := [e23, e159, e469, e470, e471, e472, e663]
theorem r01 (h470 : EOk e470) (h472 : EOk e472) : AllOk u01 := ⟨t23, t159, t469, h470, t471, h472, t663, trivial⟩
theorem w01 : lawAll u01 0 1 = true := by decide +kernel
def u02 : List (Nat × List AV × AV) := [e23, e159, e469, e470, e471, e472, e666]
theorem r02 (h470 : EOk e470) (h472 : EOk e472) : AllOk u02 := ⟨t23, t159, t469, h470, t471, h472, t666 h472, trivial⟩
theorem w02 : lawAll u02 0 2 = true := by decide +kernel
def u03 : List (Nat × List AV × AV) := [e23, e159, e469, e470, e471, e472, e668]
theorem r03 (h470 : EOk e470) (h472 : EOk e472) (h667 : EOk e667) : AllOk u03 := ⟨t23, t159, t469, h470, t471, h472, t668 h472 h667, trivial⟩
theorem w03 : lawAll u03 0 3 = true := by decide +kernel
def u04 : List (Nat × List AV × AV) := [e23, e159, e469, e470, e471, e472, e669]
theorem r04 (h470 : EOk e470) (h472 : EOk e472) : AllOk u04 := ⟨t23, t159, t469, h470, t471, h472, t669, trivial⟩
theorem w04 : lawAll u04 0 4 = true := by decide +kernel
def u05 : List (Nat × List AV × AV) := [e23, e159, e469, e470, e471, e472, e672, e673, e675]
theorem r05 (h470 : EOk e470) (h472 : EOk e472) : AllOk u05 := ⟨t23, t159, t469, h470, t471, h472, t672, t673, t675, trivial⟩
theorem w05 : lawAll u05 0 5 = true := by decide +kernel
end Go.Lyc.T
