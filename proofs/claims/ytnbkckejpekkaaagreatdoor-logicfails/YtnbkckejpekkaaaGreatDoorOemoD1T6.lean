/-
  A long run, in parts. No conditions: each part stands by itself.
-/
import Derived.Test.YtnbkckejpekkaaaGreatDoorOemoD1S
import Derived.KernelRfl
set_option linter.all false
noncomputable section
namespace Go.Lyc.T
open Go.Lyc
set_option maxRecDepth 1000000
set_option maxHeartbeats 0
theorem q1_g22 : loopB (base.env []) (ACode.lL (ACode.bK (ACode.sB (ACode.sA (ACode.sB (ACode.sB (ACode.sB q1_b))))))) 16 99706 q1_f22 q1_s22 q1_f23 q1_s23 = true := by decide +kernel
theorem q1_g23 : loopB (base.env []) (ACode.lL (ACode.bK (ACode.sB (ACode.sA (ACode.sB (ACode.sB (ACode.sB q1_b))))))) 16 99690 q1_f23 q1_s23 q1_f24 q1_s24 = true := by decide +kernel
theorem q1_g24 : loopB (base.env []) (ACode.lL (ACode.bK (ACode.sB (ACode.sA (ACode.sB (ACode.sB (ACode.sB q1_b))))))) 16 99674 q1_f24 q1_s24 q1_f25 q1_s25 = true := by decide +kernel
end Go.Lyc.T
