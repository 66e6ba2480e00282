/-
  The law, run. Each run stands by itself.
-/
import Derived.Test.YtidpbebfkcnlfaaGreatDoorRuns
set_option linter.all false
noncomputable section
namespace Go.Lyc.T
open Go.Lyc Go.RowKit Go.Proofs
variable [Tok] [TokOk]
set_option maxRecDepth 1000000
set_option maxHeartbeats 0
def u40 : List (Nat × List AV × AV) := [e159, e469, e470, e471, e730, e731, e733, e734, e736]
theorem r40 (h470 : EOk e470) (h731 : EOk e731) : AllOk u40 := ⟨t159, t469, h470, t471, t730, h731, t733, t734, t736, trivial⟩
theorem w40 : lawAll u40 4 0 = true := by decide +kernel
def u41 : List (Nat × List AV × AV) := [e159, e469, e470, e471, e730, e731, e739]
theorem r41 (h470 : EOk e470) (h731 : EOk e731) : AllOk u41 := ⟨t159, t469, h470, t471, t730, h731, t739, trivial⟩
theorem w41 : lawAll u41 4 1 = true := by decide +kernel
def u42 : List (Nat × List AV × AV) := [e159, e469, e470, e471, e730, e731, e741]
theorem r42 (h470 : EOk e470) (h731 : EOk e731) : AllOk u42 := ⟨t159, t469, h470, t471, t730, h731, t741 h731, trivial⟩
theorem w42 : lawAll u42 4 2 = true := by decide +kernel
def u43 : List (Nat × List AV × AV) := [e159, e469, e470, e471, e730, e731, e743]
theorem r43 (h470 : EOk e470) (h731 : EOk e731) (h742 : EOk e742) : AllOk u43 := ⟨t159, t469, h470, t471, t730, h731, t743 h731 h742, trivial⟩
theorem w43 : lawAll u43 4 3 = true := by decide +kernel
def u44 : List (Nat × List AV × AV) := [e159, e469, e470, e471, e730, e731, e744]
theorem r44 (h470 : EOk e470) (h731 : EOk e731) : AllOk u44 := ⟨t159, t469, h470, t471, t730, h731, t744, trivial⟩
theorem w44 : lawAll u44 4 4 = true := by decide +kernel
def u45 : List (Nat × List AV × AV) := [e159, e469, e470, e471, e730, e731, e746, e747, e749]
theorem r45 (h470 : EOk e470) (h731 : EOk e731) : AllOk u45 := ⟨t159, t469, h470, t471, t730, h731, t746, t747, t749, trivial⟩
theorem w45 : lawAll u45 4 5 = true := by decide +kernel
end Go.Lyc.T
