/-
  A long run, in parts. No conditions: each part stands by itself.
-/
import Derived.Test.YtnbkckejpekkaaaGreatDoorOemoD0S
import Derived.KernelRfl
set_option linter.all false
noncomputable section
namespace Go.Lyc.T
open Go.Lyc
set_option maxRecDepth 1000000
set_option maxHeartbeats 0
theorem q0_g28 : loopB (base.env []) (ACode.lL (ACode.bK (ACode.sB (ACode.sA (ACode.sB (ACode.sB (ACode.sB q0_b))))))) 15 99640 q0_f28 q0_s28 q0_f29 q0_s29 = true := by decide +kernel
theorem q0_g29 : loopB (base.env []) (ACode.lL (ACode.bK (ACode.sB (ACode.sA (ACode.sB (ACode.sB (ACode.sB q0_b))))))) 14 99625 q0_f29 q0_s29 q0_f30 q0_s30 = true := by decide +kernel
theorem q0_g30 : loopB (base.env []) (ACode.lL (ACode.bK (ACode.sB (ACode.sA (ACode.sB (ACode.sB (ACode.sB q0_b))))))) 15 99611 q0_f30 q0_s30 q0_f31 q0_s31 = true := by decide +kernel
end Go.Lyc.T
