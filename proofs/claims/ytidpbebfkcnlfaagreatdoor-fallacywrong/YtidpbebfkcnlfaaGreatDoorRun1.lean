/-
  The law, run. Each run stands by itself.
-/
import Derived.Test.YtidpbebfkcnlfaaGreatDoorRuns
set_option linter.all false
noncomputable section
namespace Go.Lyc.T
open Go.Lyc Go.RowKit Go.Proofs
variable [Tok] [TokOk]
set_option maxRecDepth 1000000
set_option maxHeartbeats 0
def u10 : List (Nat × List AV × AV) := [e159, e250, e469, e470, e471, e676, e678, e679, e681]
theorem r10 (h470 : EOk e470) (h676 : EOk e676) : AllOk u10 := ⟨t159, t250, t469, h470, t471, h676, t678, t679, t681, trivial⟩
theorem w10 : lawAll u10 1 0 = true := by decide +kernel
def u11 : List (Nat × List AV × AV) := [e159, e250, e469, e470, e471, e676, e683]
theorem r11 (h470 : EOk e470) (h676 : EOk e676) : AllOk u11 := ⟨t159, t250, t469, h470, t471, h676, t683, trivial⟩
theorem w11 : lawAll u11 1 1 = true := by decide +kernel
def u12 : List (Nat × List AV × AV) := [e159, e250, e469, e470, e471, e676, e685]
theorem r12 (h470 : EOk e470) (h676 : EOk e676) : AllOk u12 := ⟨t159, t250, t469, h470, t471, h676, t685 h676, trivial⟩
theorem w12 : lawAll u12 1 2 = true := by decide +kernel
def u13 : List (Nat × List AV × AV) := [e159, e250, e469, e470, e471, e676, e687]
theorem r13 (h470 : EOk e470) (h676 : EOk e676) (h686 : EOk e686) : AllOk u13 := ⟨t159, t250, t469, h470, t471, h676, t687 h676 h686, trivial⟩
theorem w13 : lawAll u13 1 3 = true := by decide +kernel
def u14 : List (Nat × List AV × AV) := [e159, e250, e469, e470, e471, e676, e688]
theorem r14 (h470 : EOk e470) (h676 : EOk e676) : AllOk u14 := ⟨t159, t250, t469, h470, t471, h676, t688, trivial⟩
theorem w14 : lawAll u14 1 4 = true := by decide +kernel
def u15 : List (Nat × List AV × AV) := [e159, e250, e469, e470, e471, e676, e690, e691, e693]
theorem r15 (h470 : EOk e470) (h676 : EOk e676) : AllOk u15 := ⟨t159, t250, t469, h470, t471, h676, t690, t691, t693, trivial⟩
theorem w15 : lawAll u15 1 5 = true := by decide +kernel
end Go.Lyc.T
