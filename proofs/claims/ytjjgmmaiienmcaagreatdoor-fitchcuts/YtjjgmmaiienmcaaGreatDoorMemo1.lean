/-
  Calls, run in the kernel. No conditions: each stands by itself.
-/
import Derived.Test.YtjjgmmaiienmcaaGreatDoorMemo0
set_option linter.all false
noncomputable section
namespace Go.Lyc.T
open Go.Lyc
variable [Tok] [TokOk]
set_option maxRecDepth 1000000
set_option maxHeartbeats 4000000
theorem t53:EOk e53:=ek [e38,e39,e40,e41,e42,e43,e44,e45,e52] ⟨t38,t39,t40,t41,t42,t43,t44,t45,t52,trivial⟩
theorem t54:EOk e54:=ek [e22,e48,e49,e50,e51,e53] ⟨t22,t48,t49,t50,t51,t53,trivial⟩
end Go.Lyc.T
