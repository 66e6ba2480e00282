/-
  Calls, run in the kernel. No conditions: each stands by itself.
-/
import Derived.Test.YtmkiofbhnmaepaaGreatDoorVals0
set_option linter.all false
noncomputable section
namespace Go.Lyc.T
open Go.Lyc
variable [Tok] [TokOk]
set_option maxRecDepth 1000000
set_option maxHeartbeats 4000000
theorem t0:ey eG:=eH [] trivial [] trivial [86]
theorem t6:ey wH:=eH [] trivial [] trivial [92]
theorem t12:ey Qe:=eH [] trivial [] trivial [108]
theorem t34:EOk qS:=bb
theorem t35:EOk qT:=bb
theorem t50:EOk a6L:=bb
theorem t52:EOk a6M:=bb
theorem t54:EOk a6N:=bb
theorem t62:EOk a6R:=bb
theorem t64:EOk a6S:=bb
theorem t105:ey a7v:=eH [] trivial [] trivial [100]
theorem t108:EOk QG:=bb
theorem t109:EOk QH:=bb
theorem t122:EOk a7F:=bb
theorem t124:EOk a7H:=bb
theorem t151:EOk a8g:=bb
theorem t152:EOk a8h:=bb
theorem t153:EOk a8i:=bb
theorem t154:EOk a8j:=bb
theorem t155:EOk a8k:=bb
theorem t156:EOk a8l:=bb
theorem t157:EOk a8m:=bb
theorem t185:EOk Q0:=bb
theorem t188:EOk a8A:=bb
theorem t189:EOk a8B:=bb
theorem t207:EOk Q2:=bb
theorem t209:EOk Q4:=bb
theorem t236:EOk a9r:=bb
theorem t240:EOk a9v:=bb
theorem t246:EOk a9B:=bb
theorem t262:ey a9K:=eH [] trivial [] trivial [94,93,92]
theorem t268:EOk Rf:=bb
theorem t349:EOk b1f:=bb
theorem t354:EOk b1k:=bb
theorem t356:EOk b1m:=bb
theorem t357:EOk b1n:=bb
theorem t360:EOk b1q:=bb
theorem t386:EOk b1Q:=bb
end Go.Lyc.T
