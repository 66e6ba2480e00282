/-
  The law, run. Each run stands by itself.
-/
import Derived.Test.YtidpbebfkcnlfaaGreatDoorRuns
set_option linter.all false
noncomputable section
namespace Go.Lyc.T
open Go.Lyc Go.RowKit Go.Proofs
variable [Tok] [TokOk]
set_option maxRecDepth 1000000
set_option maxHeartbeats 0
def u70 : List (Nat × List AV × AV) := [e159, e469, e470, e471, e811, e812, e814, e815, e817]
theorem r70 (h470 : EOk e470) (h812 : EOk e812) : AllOk u70 := ⟨t159, t469, h470, t471, t811, h812, t814, t815, t817, trivial⟩
theorem w70 : lawAll u70 7 0 = true := by decide +kernel
def u71 : List (Nat × List AV × AV) := [e159, e469, e470, e471, e811, e812, e859]
theorem r71 (h470 : EOk e470) (h812 : EOk e812) : AllOk u71 := ⟨t159, t469, h470, t471, t811, h812, t859, trivial⟩
theorem w71 : lawAll u71 7 1 = true := by decide +kernel
def u72 : List (Nat × List AV × AV) := [e159, e469, e470, e471, e811, e812, e861]
theorem r72 (h470 : EOk e470) (h812 : EOk e812) : AllOk u72 := ⟨t159, t469, h470, t471, t811, h812, t861 h812, trivial⟩
theorem w72 : lawAll u72 7 2 = true := by decide +kernel
def u73 : List (Nat × List AV × AV) := [e159, e469, e470, e471, e811, e812, e863]
theorem r73 (h470 : EOk e470) (h812 : EOk e812) (h862 : EOk e862) : AllOk u73 := ⟨t159, t469, h470, t471, t811, h812, t863 h812 h862, trivial⟩
theorem w73 : lawAll u73 7 3 = true := by decide +kernel
def u74 : List (Nat × List AV × AV) := [e159, e469, e470, e471, e811, e812, e864]
theorem r74 (h470 : EOk e470) (h812 : EOk e812) : AllOk u74 := ⟨t159, t469, h470, t471, t811, h812, t864, trivial⟩
theorem w74 : lawAll u74 7 4 = true := by decide +kernel
def u75 : List (Nat × List AV × AV) := [e159, e469, e470, e471, e811, e812, e866, e867, e869]
theorem r75 (h470 : EOk e470) (h812 : EOk e812) : AllOk u75 := ⟨t159, t469, h470, t471, t811, h812, t866, t867, t869, trivial⟩
theorem w75 : lawAll u75 7 5 = true := by decide +kernel
end Go.Lyc.T
