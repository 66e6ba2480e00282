/-
  The law, run. Each run stands by itself.
-/
import Derived.Test.YtidpbebfkcnlfaaGreatDoorRuns
set_option linter.all false
noncomputable section
namespace Go.Lyc.T
open Go.Lyc Go.RowKit Go.Proofs
variable [Tok] [TokOk]
set_option maxRecDepth 1000000
set_option maxHeartbeats 0
def u50 : List (Nat × List AV × AV) := [e159, e469, e470, e471, e750, e751, e753, e754, e756]
theorem r50 (h470 : EOk e470) (h751 : EOk e751) : AllOk u50 := ⟨t159, t469, h470, t471, t750, h751, t753, t754, t756, trivial⟩
theorem w50 : lawAll u50 5 0 = true := by decide +kernel
def u51 : List (Nat × List AV × AV) := [e159, e469, e470, e471, e750, e751, e759]
theorem r51 (h470 : EOk e470) (h751 : EOk e751) : AllOk u51 := ⟨t159, t469, h470, t471, t750, h751, t759, trivial⟩
theorem w51 : lawAll u51 5 1 = true := by decide +kernel
def u52 : List (Nat × List AV × AV) := [e159, e469, e470, e471, e750, e751, e761]
theorem r52 (h470 : EOk e470) (h751 : EOk e751) : AllOk u52 := ⟨t159, t469, h470, t471, t750, h751, t761 h751, trivial⟩
theorem w52 : lawAll u52 5 2 = true := by decide +kernel
def u53 : List (Nat × List AV × AV) := [e159, e469, e470, e471, e750, e751, e763]
theorem r53 (h470 : EOk e470) (h751 : EOk e751) (h762 : EOk e762) : AllOk u53 := ⟨t159, t469, h470, t471, t750, h751, t763 h751 h762, trivial⟩
theorem w53 : lawAll u53 5 3 = true := by decide +kernel
def u54 : List (Nat × List AV × AV) := [e159, e469, e470, e471, e750, e751, e764]
theorem r54 (h470 : EOk e470) (h751 : EOk e751) : AllOk u54 := ⟨t159, t469, h470, t471, t750, h751, t764, trivial⟩
theorem w54 : lawAll u54 5 4 = true := by decide +kernel
def u55 : List (Nat × List AV × AV) := [e159, e469, e470, e471, e750, e751, e766, e767, e769]
theorem r55 (h470 : EOk e470) (h751 : EOk e751) : AllOk u55 := ⟨t159, t469, h470, t471, t750, h751, t766, t767, t769, trivial⟩
theorem w55 : lawAll u55 5 5 = true := by decide +kernel
end Go.Lyc.T
