/-
  A long run, in parts. No conditions: each part stands by itself.
-/
import Derived.Test.YtnbkckejpekkaaaGreatDoorOemoD1S
import Derived.KernelRfl
set_option linter.all false
noncomputable section
namespace Go.Lyc.T
open Go.Lyc
set_option maxRecDepth 1000000
set_option maxHeartbeats 0
theorem q1_g19 : loopB (base.env []) (ACode.lL (ACode.bK (ACode.sB (ACode.sA (ACode.sB (ACode.sB (ACode.sB q1_b))))))) 16 99754 q1_f19 q1_s19 q1_f20 q1_s20 = true := by decide +kernel
theorem q1_g20 : loopB (base.env []) (ACode.lL (ACode.bK (ACode.sB (ACode.sA (ACode.sB (ACode.sB (ACode.sB q1_b))))))) 16 99738 q1_f20 q1_s20 q1_f21 q1_s21 = true := by decide +kernel
theorem q1_g21 : loopB (base.env []) (ACode.lL (ACode.bK (ACode.sB (ACode.sA (ACode.sB (ACode.sB (ACode.sB q1_b))))))) 16 99722 q1_f21 q1_s21 q1_f22 q1_s22 = true := by decide +kernel
end Go.Lyc.T
