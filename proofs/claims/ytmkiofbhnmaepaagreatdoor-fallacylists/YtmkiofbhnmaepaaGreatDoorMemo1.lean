/-
  Calls, run in the kernel. No conditions: each stands by itself.
-/
import Derived.Test.YtmkiofbhnmaepaaGreatDoorVals0
set_option linter.all false
noncomputable section
namespace Go.Lyc.T
open Go.Lyc
variable [Tok] [TokOk]
set_option maxRecDepth 1000000
set_option maxHeartbeats 4000000
theorem t31:EOk r7:=bb
theorem t37:EOk qU:=bb
theorem t38:EOk tz:=bb
theorem t43:EOk vu:=bb
theorem t44:EOk vv:=bb
theorem t77:ey a7a:=eH [] trivial [] trivial [138,93,128]
theorem t79:ey a7c:=eH [] trivial [] trivial [116,93,114]
theorem t80:ey a7d:=eH [] trivial [] trivial [138,93,128]
theorem t81:ey a7e:=eH [] trivial [] trivial [122,93,118]
theorem t83:ey a7g:=eH [] trivial [] trivial [107,103]
theorem t88:ey a7i:=eH [] trivial [] trivial [95,94]
theorem t89:ey a7j:=eH [] trivial [] trivial [95,94]
theorem t100:ey a7q:=eH [] trivial [] trivial [122,93,118]
theorem t102:ey a7s:=eH [] trivial [] trivial [151,139]
theorem t107:EOk QF:=bb
theorem t113:EOk QK:=bb
theorem t126:EOk a7J:=bb
theorem t129:EOk gh:=bb
theorem t192:EOk a8E:=bb
theorem t205:EOk a8R:=bb
theorem t208:EOk Q3:=bb
theorem t210:EOk a8T:=bb
theorem t248:EOk a9D:=bb
theorem t311:EOk b0x:=bb
theorem t355:EOk b1l:=bb
theorem t359:EOk b1p:=bb
theorem t361:EOk b1r:=bb
theorem t362:EOk b1s:=bb
theorem t364:EOk b1u:=bb
theorem t368:EOk b1y:=bb
theorem t369:EOk b1z:=bb
theorem t370:EOk b1A:=bb
theorem t381:EOk b1L:=bb
theorem t383:EOk b1N:=bb
theorem t388:EOk qX:=bb
end Go.Lyc.T
