/-
  The law, run. Each run stands by itself.
-/
import Derived.Test.YtidpbebfkcnlfaaGreatDoorRuns
set_option linter.all false
noncomputable section
namespace Go.Lyc.T
open Go.Lyc Go.RowKit Go.Proofs
variable [Tok] [TokOk]
set_option maxRecDepth 1000000
set_option maxHeartbeats 0
def u60 : List (Nat × List AV × AV) := [e159, e435, e469, e470, e471, e770, e772, e773, e775]
theorem r60 (h470 : EOk e470) (h770 : EOk e770) : AllOk u60 := ⟨t159, t435, t469, h470, t471, h770, t772, t773, t775, trivial⟩
theorem w60 : lawAll u60 6 0 = true := by decide +kernel
def u61 : List (Nat × List AV × AV) := [e159, e435, e469, e470, e471, e770, e777]
theorem r61 (h470 : EOk e470) (h770 : EOk e770) : AllOk u61 := ⟨t159, t435, t469, h470, t471, h770, t777, trivial⟩
theorem w61 : lawAll u61 6 1 = true := by decide +kernel
def u62 : List (Nat × List AV × AV) := [e159, e435, e469, e470, e471, e770, e779]
theorem r62 (h470 : EOk e470) (h770 : EOk e770) : AllOk u62 := ⟨t159, t435, t469, h470, t471, h770, t779 h770, trivial⟩
theorem w62 : lawAll u62 6 2 = true := by decide +kernel
def u63 : List (Nat × List AV × AV) := [e159, e435, e469, e470, e471, e770, e781]
theorem r63 (h470 : EOk e470) (h770 : EOk e770) (h780 : EOk e780) : AllOk u63 := ⟨t159, t435, t469, h470, t471, h770, t781 h770 h780, trivial⟩
theorem w63 : lawAll u63 6 3 = true := by decide +kernel
def u64 : List (Nat × List AV × AV) := [e159, e435, e469, e470, e471, e770, e782]
theorem r64 (h470 : EOk e470) (h770 : EOk e770) : AllOk u64 := ⟨t159, t435, t469, h470, t471, h770, t782, trivial⟩
theorem w64 : lawAll u64 6 4 = true := by decide +kernel
def u65 : List (Nat × List AV × AV) := [e159, e435, e469, e470, e471, e770, e784, e785, e787]
theorem r65 (h470 : EOk e470) (h770 : EOk e770) : AllOk u65 := ⟨t159, t435, t469, h470, t471, h770, t784, t785, t787, trivial⟩
theorem w65 : lawAll u65 6 5 = true := by decide +kernel
end Go.Lyc.T
