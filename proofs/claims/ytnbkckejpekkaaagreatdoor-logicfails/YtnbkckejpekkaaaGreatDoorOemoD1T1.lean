/-
  A long run, in parts. No conditions: each part stands by itself.
-/
import Derived.Test.YtnbkckejpekkaaaGreatDoorOemoD1S
import Derived.KernelRfl
set_option linter.all false
noncomputable section
namespace Go.Lyc.T
open Go.Lyc
set_option maxRecDepth 1000000
set_option maxHeartbeats 0
theorem q1_g7 : loopB (base.env []) (ACode.lL (ACode.bK (ACode.sB (ACode.sA (ACode.sB (ACode.sB (ACode.sB q1_b))))))) 16 99946 q1_f7 q1_s7 q1_f8 q1_s8 = true := by decide +kernel
theorem q1_g8 : loopB (base.env []) (ACode.lL (ACode.bK (ACode.sB (ACode.sA (ACode.sB (ACode.sB (ACode.sB q1_b))))))) 16 99930 q1_f8 q1_s8 q1_f9 q1_s9 = true := by decide +kernel
theorem q1_g9 : loopB (base.env []) (ACode.lL (ACode.bK (ACode.sB (ACode.sA (ACode.sB (ACode.sB (ACode.sB q1_b))))))) 16 99914 q1_f9 q1_s9 q1_f10 q1_s10 = true := by decide +kernel
end Go.Lyc.T
