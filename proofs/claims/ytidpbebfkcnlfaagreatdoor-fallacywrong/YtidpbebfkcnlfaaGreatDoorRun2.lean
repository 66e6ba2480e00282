/-
  The law, run. Each run stands by itself.
-/
import Derived.Test.YtidpbebfkcnlfaaGreatDoorRuns
set_option linter.all false
noncomputable section
namespace Go.Lyc.T
open Go.Lyc Go.RowKit Go.Proofs
variable [Tok] [TokOk]
set_option maxRecDepth 1000000
set_option maxHeartbeats 0
def u20 : List (Nat × List AV × AV) := [e159, e292, e469, e470, e471, e694, e696, e697, e699]
theorem r20 (h470 : EOk e470) (h694 : EOk e694) : AllOk u20 := ⟨t159, t292, t469, h470, t471, h694, t696, t697, t699, trivial⟩
theorem w20 : lawAll u20 2 0 = true := by decide +kernel
def u21 : List (Nat × List AV × AV) := [e159, e292, e469, e470, e471, e694, e701]
theorem r21 (h470 : EOk e470) (h694 : EOk e694) : AllOk u21 := ⟨t159, t292, t469, h470, t471, h694, t701, trivial⟩
theorem w21 : lawAll u21 2 1 = true := by decide +kernel
def u22 : List (Nat × List AV × AV) := [e159, e292, e469, e470, e471, e694, e703]
theorem r22 (h470 : EOk e470) (h694 : EOk e694) : AllOk u22 := ⟨t159, t292, t469, h470, t471, h694, t703 h694, trivial⟩
theorem w22 : lawAll u22 2 2 = true := by decide +kernel
def u23 : List (Nat × List AV × AV) := [e159, e292, e469, e470, e471, e694, e705]
theorem r23 (h470 : EOk e470) (h694 : EOk e694) (h704 : EOk e704) : AllOk u23 := ⟨t159, t292, t469, h470, t471, h694, t705 h694 h704, trivial⟩
theorem w23 : lawAll u23 2 3 = true := by decide +kernel
def u24 : List (Nat × List AV × AV) := [e159, e292, e469, e470, e471, e694, e706]
theorem r24 (h470 : EOk e470) (h694 : EOk e694) : AllOk u24 := ⟨t159, t292, t469, h470, t471, h694, t706, trivial⟩
theorem w24 : lawAll u24 2 4 = true := by decide +kernel
def u25 : List (Nat × List AV × AV) := [e159, e292, e469, e470, e471, e694, e708, e709, e711]
theorem r25 (h470 : EOk e470) (h694 : EOk e694) : AllOk u25 := ⟨t159, t292, t469, h470, t471, h694, t708, t709, t711, trivial⟩
theorem w25 : lawAll u25 2 5 = true := by decide +kernel
end Go.Lyc.T
