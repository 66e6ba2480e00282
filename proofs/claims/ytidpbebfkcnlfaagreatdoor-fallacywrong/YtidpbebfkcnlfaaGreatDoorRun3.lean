/-
  The law, run. Each run stands by itself.
-/
import Derived.Test.YtidpbebfkcnlfaaGreatDoorRuns
set_option linter.all false
noncomputable section
namespace Go.Lyc.T
open Go.Lyc Go.RowKit Go.Proofs
variable [Tok] [TokOk]
set_option maxRecDepth 1000000
set_option maxHeartbeats 0
def u30 : List (Nat × List AV × AV) := [e159, e373, e469, e470, e471, e712, e714, e715, e717]
theorem r30 (h470 : EOk e470) (h712 : EOk e712) : AllOk u30 := ⟨t159, t373, t469, h470, t471, h712, t714, t715, t717, trivial⟩
theorem w30 : lawAll u30 3 0 = true := by decide +kernel
def u31 : List (Nat × List AV × AV) := [e159, e373, e469, e470, e471, e712, e719]
theorem r31 (h470 : EOk e470) (h712 : EOk e712) : AllOk u31 := ⟨t159, t373, t469, h470, t471, h712, t719, trivial⟩
theorem w31 : lawAll u31 3 1 = true := by decide +kernel
def u32 : List (Nat × List AV × AV) := [e159, e373, e469, e470, e471, e712, e721]
theorem r32 (h470 : EOk e470) (h712 : EOk e712) : AllOk u32 := ⟨t159, t373, t469, h470, t471, h712, t721 h712, trivial⟩
theorem w32 : lawAll u32 3 2 = true := by decide +kernel
def u33 : List (Nat × List AV × AV) := [e159, e373, e469, e470, e471, e712, e723]
theorem r33 (h470 : EOk e470) (h712 : EOk e712) (h722 : EOk e722) : AllOk u33 := ⟨t159, t373, t469, h470, t471, h712, t723 h712 h722, trivial⟩
theorem w33 : lawAll u33 3 3 = true := by decide +kernel
def u34 : List (Nat × List AV × AV) := [e159, e373, e469, e470, e471, e712, e724]
theorem r34 (h470 : EOk e470) (h712 : EOk e712) : AllOk u34 := ⟨t159, t373, t469, h470, t471, h712, t724, trivial⟩
theorem w34 : lawAll u34 3 4 = true := by decide +kernel
def u35 : List (Nat × List AV × AV) := [e159, e373, e469, e470, e471, e712, e726, e727, e729]
theorem r35 (h470 : EOk e470) (h712 : EOk e712) : AllOk u35 := ⟨t159, t373, t469, h470, t471, h712, t726, t727, t729, trivial⟩
theorem w35 : lawAll u35 3 5 = true := by decide +kernel
end Go.Lyc.T
