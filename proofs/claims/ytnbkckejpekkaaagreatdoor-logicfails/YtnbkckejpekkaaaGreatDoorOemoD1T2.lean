/-
  A long run, in parts. No conditions: each part stands by itself.
-/
import Derived.Test.YtnbkckejpekkaaaGreatDoorOemoD1S
import Derived.KernelRfl
set_option linter.all false
noncomputable section
namespace Go.Lyc.T
open Go.Lyc
set_option maxRecDepth 1000000
set_option maxHeartbeats 0
theorem q1_g10 : loopB (base.env []) (ACode.lL (ACode.bK (ACode.sB (ACode.sA (ACode.sB (ACode.sB (ACode.sB q1_b))))))) 16 99898 q1_f10 q1_s10 q1_f11 q1_s11 = true := by decide +kernel
theorem q1_g11 : loopB (base.env []) (ACode.lL (ACode.bK (ACode.sB (ACode.sA (ACode.sB (ACode.sB (ACode.sB q1_b))))))) 16 99882 q1_f11 q1_s11 q1_f12 q1_s12 = true := by decide +kernel
theorem q1_g12 : loopB (base.env []) (ACode.lL (ACode.bK (ACode.sB (ACode.sA (ACode.sB (ACode.sB (ACode.sB q1_b))))))) 16 99866 q1_f12 q1_s12 q1_f13 q1_s13 = true := by decide +kernel
end Go.Lyc.T
