/-
  Calls, run in the kernel. No conditions: each stands by itself.
-/
import Derived.Test.YtmkiofbhnmaepaaGreatDoorMemo6
import Derived.Test.YtmkiofbhnmaepaaGreatDoorMemo7
set_option linter.all false
noncomputable section
namespace Go.Lyc.T
open Go.Lyc
variable [Tok] [TokOk]
set_option maxRecDepth 1000000
set_option maxHeartbeats 4000000
theorem t26:EOk Aq:=aF [aE,cZ,rA,uj,eD,Ai,Aj,Ak,Al,Am,An,Ao,Ap] ⟨t1,t3,t5,t7,t9,t11,t13,t15,t17,t19,t21,t23,t25,trivial⟩
theorem t160:EOk a8p:=aF [aE,cZ,rA,uj,eD,Ai,Aj,Ak,Al,Am,An,Ao,Ap] ⟨t1,t3,t5,t7,t9,t11,t13,t15,t17,t19,t21,t23,t25,trivial⟩
theorem b3W:EOk Ry:=dy [] trivial [fC] ⟨t106,trivial⟩
theorem b3X:EOk RK:=dy [] trivial [fC] ⟨t106,trivial⟩
theorem b3Y:EOk RW:=dy [] trivial [fC] ⟨t106,trivial⟩
theorem b3Z:EOk R6:=dy [] trivial [fC] ⟨t106,trivial⟩
theorem b4a:EOk R_:=dy [] trivial [fC] ⟨t106,trivial⟩
theorem b4b:EOk Sz:=dy [] trivial [fC] ⟨t106,trivial⟩
theorem b4c:EOk SJ:=dy [] trivial [fC] ⟨t106,trivial⟩
theorem b4d:EOk SR:=dy [] trivial [fC] ⟨t106,trivial⟩
theorem b4e:EOk SW:=aF [gG] ⟨t387,trivial⟩
end Go.Lyc.T
