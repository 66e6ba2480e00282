/-
  A long run, in parts. No conditions: each part stands by itself.
-/
import Derived.Test.YtnbkckejpekkaaaGreatDoorOemoD0S
import Derived.KernelRfl
set_option linter.all false
noncomputable section
namespace Go.Lyc.T
open Go.Lyc
set_option maxRecDepth 1000000
set_option maxHeartbeats 0
theorem q0_g31 : loopB (base.env []) (ACode.lL (ACode.bK (ACode.sB (ACode.sA (ACode.sB (ACode.sB (ACode.sB q0_b))))))) 14 99596 q0_f31 q0_s31 q0_f32 q0_s32 = true := by decide +kernel
theorem q0_g32 : loopB (base.env []) (ACode.lL (ACode.bK (ACode.sB (ACode.sA (ACode.sB (ACode.sB (ACode.sB q0_b))))))) 15 99582 q0_f32 q0_s32 q0_f33 q0_s33 = true := by decide +kernel
theorem q0_g33 : loopB (base.env []) (ACode.lL (ACode.bK (ACode.sB (ACode.sA (ACode.sB (ACode.sB (ACode.sB q0_b))))))) 14 99567 q0_f33 q0_s33 q0_f34 q0_s34 = true := by decide +kernel
end Go.Lyc.T
