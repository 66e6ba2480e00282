/-
  Calls, run in the kernel. No conditions: each stands by itself.
-/
import Derived.Test.YtmkiofbhnmaepaaGreatDoorMemo6
import Derived.Test.YtmkiofbhnmaepaaGreatDoorMemo7
set_option linter.all false
noncomputable section
namespace Go.Lyc.T
open Go.Lyc
variable [Tok] [TokOk]
set_option maxRecDepth 1000000
set_option maxHeartbeats 4000000
theorem t48:EOk Qk:=aF [oF] ⟨t46,trivial⟩
theorem t203:EOk a8P:=aF [aE,cZ,rA,uj,eD,Ai,Aj,Ak,Al,Am,An,Ao,Ap,a8K,a8M,a8N,a8O] ⟨t1,t3,t5,t7,t9,t11,t13,t15,t17,t19,t21,t23,t25,t198,t200,t201,t202,trivial⟩
theorem t212:EOk a8U:=aF [I_] ⟨t211,trivial⟩
theorem t264:EOk a9L:=aF [aE,cZ,rA,uj,eD,Ai,Aj,Ak,Al,Am,An,Ao,Ap,Q6,Q7,Q8,Q9,Q_,Ra,Rb,Rc] ⟨t1,t3,t5,t7,t9,t11,t13,t15,t17,t19,t21,t23,t25,t251,t253,t254,t256,t258,t260,t261,t263,trivial⟩
theorem t315:EOk b0B:=aF [aE,cZ,rA,uj,eD,Ai,Aj,Ak,Al,Am,An,Ao,Ap,Q6,Q7,Q8,Q9,Q_,Ra,Rb,Rc,b0z,b0A] ⟨t1,t3,t5,t7,t9,t11,t13,t15,t17,t19,t21,t23,t25,t251,t253,t254,t256,t258,t260,t261,t263,t313,t314,trivial⟩
theorem b3T:EOk Sp:=dy [] trivial [fC] ⟨t106,trivial⟩
theorem b3U:EOk Su:=dy [] trivial [fC] ⟨t106,trivial⟩
theorem b3V:EOk SD:=dy [] trivial [fC] ⟨t106,trivial⟩
end Go.Lyc.T
