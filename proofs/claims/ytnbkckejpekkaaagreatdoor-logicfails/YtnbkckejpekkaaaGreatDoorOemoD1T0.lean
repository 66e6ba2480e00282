/-
  A long run, in parts. No conditions: each part stands by itself.
-/
import Derived.Test.YtnbkckejpekkaaaGreatDoorOemoD1S
import Derived.KernelRfl
set_option linter.all false
noncomputable section
namespace Go.Lyc.T
open Go.Lyc
set_option maxRecDepth 1000000
set_option maxHeartbeats 0
theorem q1_n0 : Runs (base.env []) 99999 (ACode.sA q1_b) q1_f0 q1_s0 .normal q1_f1 q1_s1 := .leaf (by decide +kernel)
theorem q1_n1 : Runs (base.env []) 99998 (ACode.sA (ACode.sB q1_b)) q1_f1 q1_s1 .normal q1_f2 q1_s2 := .leaf (by decide +kernel)
theorem q1_n2 : Runs (base.env []) 99997 (ACode.sA (ACode.sB (ACode.sB q1_b))) q1_f2 q1_s2 .normal q1_f3 q1_s3 := .leaf (by decide +kernel)
theorem q1_n3 : Runs (base.env []) 99995 (ACode.sA (ACode.sA (ACode.sB (ACode.sB (ACode.sB q1_b))))) q1_f3 q1_s3 .normal q1_f4 q1_s4 := .leaf (by decide +kernel)
theorem q1_g4 : loopB (base.env []) (ACode.lL (ACode.bK (ACode.sB (ACode.sA (ACode.sB (ACode.sB (ACode.sB q1_b))))))) 16 99994 q1_f4 q1_s4 q1_f5 q1_s5 = true := by decide +kernel
theorem q1_g5 : loopB (base.env []) (ACode.lL (ACode.bK (ACode.sB (ACode.sA (ACode.sB (ACode.sB (ACode.sB q1_b))))))) 16 99978 q1_f5 q1_s5 q1_f6 q1_s6 = true := by decide +kernel
theorem q1_g6 : loopB (base.env []) (ACode.lL (ACode.bK (ACode.sB (ACode.sA (ACode.sB (ACode.sB (ACode.sB q1_b))))))) 16 99962 q1_f6 q1_s6 q1_f7 q1_s7 = true := by decide +kernel
end Go.Lyc.T
