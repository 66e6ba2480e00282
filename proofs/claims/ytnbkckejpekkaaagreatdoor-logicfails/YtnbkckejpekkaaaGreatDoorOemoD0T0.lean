/-
  A long run, in parts. No conditions: each part stands by itself.
-/
import Derived.Test.YtnbkckejpekkaaaGreatDoorOemoD0S
import Derived.KernelRfl
set_option linter.all false
noncomputable section
namespace Go.Lyc.T
open Go.Lyc
set_option maxRecDepth 1000000
set_option maxHeartbeats 0
theorem q0_n0 : Runs (base.env []) 99999 (ACode.sA q0_b) q0_f0 q0_s0 .normal q0_f1 q0_s1 := .leaf (by decide +kernel)
theorem q0_n1 : Runs (base.env []) 99998 (ACode.sA (ACode.sB q0_b)) q0_f1 q0_s1 .normal q0_f2 q0_s2 := .leaf (by decide +kernel)
theorem q0_n2 : Runs (base.env []) 99997 (ACode.sA (ACode.sB (ACode.sB q0_b))) q0_f2 q0_s2 .normal q0_f3 q0_s3 := .leaf (by decide +kernel)
theorem q0_n3 : Runs (base.env []) 99995 (ACode.sA (ACode.sA (ACode.sB (ACode.sB (ACode.sB q0_b))))) q0_f3 q0_s3 .normal q0_f4 q0_s4 := .leaf (by decide +kernel)
theorem q0_g4 : loopB (base.env []) (ACode.lL (ACode.bK (ACode.sB (ACode.sA (ACode.sB (ACode.sB (ACode.sB q0_b))))))) 15 99994 q0_f4 q0_s4 q0_f5 q0_s5 = true := by decide +kernel
theorem q0_g5 : loopB (base.env []) (ACode.lL (ACode.bK (ACode.sB (ACode.sA (ACode.sB (ACode.sB (ACode.sB q0_b))))))) 14 99979 q0_f5 q0_s5 q0_f6 q0_s6 = true := by decide +kernel
theorem q0_g6 : loopB (base.env []) (ACode.lL (ACode.bK (ACode.sB (ACode.sA (ACode.sB (ACode.sB (ACode.sB q0_b))))))) 15 99965 q0_f6 q0_s6 q0_f7 q0_s7 = true := by decide +kernel
end Go.Lyc.T
