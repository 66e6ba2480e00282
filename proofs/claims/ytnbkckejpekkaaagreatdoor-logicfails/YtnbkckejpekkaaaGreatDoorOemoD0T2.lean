/-
  A long run, in parts. No conditions: each part stands by itself.
-/
import Derived.Test.YtnbkckejpekkaaaGreatDoorOemoD0S
import Derived.KernelRfl
set_option linter.all false
noncomputable section
namespace Go.Lyc.T
open Go.Lyc
set_option maxRecDepth 1000000
set_option maxHeartbeats 0
theorem q0_g10 : loopB (base.env []) (ACode.lL (ACode.bK (ACode.sB (ACode.sA (ACode.sB (ACode.sB (ACode.sB q0_b))))))) 15 99905 q0_f10 q0_s10 q0_f11 q0_s11 = true := by decide +kernel
theorem q0_g11 : loopB (base.env []) (ACode.lL (ACode.bK (ACode.sB (ACode.sA (ACode.sB (ACode.sB (ACode.sB q0_b))))))) 15 99890 q0_f11 q0_s11 q0_f12 q0_s12 = true := by decide +kernel
theorem q0_g12 : loopB (base.env []) (ACode.lL (ACode.bK (ACode.sB (ACode.sA (ACode.sB (ACode.sB (ACode.sB q0_b))))))) 14 99875 q0_f12 q0_s12 q0_f13 q0_s13 = true := by decide +kernel
end Go.Lyc.T
