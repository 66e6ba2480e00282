/-
  A long run, in parts. No conditions: each part stands by itself.
-/
import Derived.Test.YtnbkckejpekkaaaGreatDoorOemoD1S
import Derived.KernelRfl
set_option linter.all false
noncomputable section
namespace Go.Lyc.T
open Go.Lyc
set_option maxRecDepth 1000000
set_option maxHeartbeats 0
theorem q1_g25 : loopB (base.env []) (ACode.lL (ACode.bK (ACode.sB (ACode.sA (ACode.sB (ACode.sB (ACode.sB q1_b))))))) 16 99658 q1_f25 q1_s25 q1_f26 q1_s26 = true := by decide +kernel
theorem q1_g26 : loopB (base.env []) (ACode.lL (ACode.bK (ACode.sB (ACode.sA (ACode.sB (ACode.sB (ACode.sB q1_b))))))) 16 99642 q1_f26 q1_s26 q1_f27 q1_s27 = true := by decide +kernel
theorem q1_g27 : loopB (base.env []) (ACode.lL (ACode.bK (ACode.sB (ACode.sA (ACode.sB (ACode.sB (ACode.sB q1_b))))))) 16 99626 q1_f27 q1_s27 q1_f28 q1_s28 = true := by decide +kernel
end Go.Lyc.T
