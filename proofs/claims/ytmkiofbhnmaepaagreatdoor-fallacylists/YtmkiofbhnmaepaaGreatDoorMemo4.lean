/-
  Calls, run in the kernel. No conditions: each stands by itself.
-/
import Derived.Test.YtmkiofbhnmaepaaGreatDoorVals0
set_option linter.all false
noncomputable section
namespace Go.Lyc.T
open Go.Lyc
variable [Tok] [TokOk]
set_option maxRecDepth 1000000
set_option maxHeartbeats 4000000
theorem t39:EOk qV:=bb
theorem t40:EOk vs:=bb
theorem t45:EOk r8:=bb
theorem t60:EOk a6Q:=bb
theorem t74:ey a6X:=eH [] trivial [] trivial [64]
theorem t86:ey Qz:=eH [] trivial [] trivial [72]
theorem t97:ey QD:=eH [] trivial [] trivial [79,78]
theorem t98:ey QE:=eH [] trivial [] trivial [79,78]
theorem t103:ey a7t:=eH [] trivial [] trivial [62]
theorem t104:ey a7u:=eH [] trivial [] trivial [62]
theorem t136:EOk a7S:=bb
theorem t138:EOk a7U:=bb
theorem t146:EOk a8c:=bb
theorem t166:EOk a8t:=bb
theorem t168:EOk a8u:=bb
theorem t170:EOk a8v:=bb
theorem t172:EOk a8w:=bb
theorem t174:EOk a8x:=bb
theorem t182:EOk QX:=bb
theorem t183:EOk QY:=bb
theorem t184:EOk QZ:=bb
theorem t190:EOk a8C:=bb
theorem t214:EOk a8W:=bb
theorem t216:EOk a8Y:=bb
theorem t218:EOk a9a:=bb
theorem t220:EOk a9c:=bb
theorem t222:EOk a9e:=bb
theorem t237:EOk a9s:=bb
theorem t238:EOk a9t:=bb
theorem t239:EOk a9u:=bb
theorem t242:EOk a9x:=bb
theorem t280:EOk a9T:=bb
theorem t282:EOk a9V:=bb
theorem t284:EOk a9X:=bb
theorem t291:EOk b0d:=bb
theorem t293:EOk b0f:=bb
theorem t295:EOk b0h:=bb
theorem t297:EOk b0j:=bb
theorem t301:EOk b0n:=bb
theorem t303:EOk b0p:=bb
theorem t304:EOk b0q:=bb
theorem t318:EOk b0D:=bb
theorem t319:EOk b0E:=bb
theorem t327:EOk b0L:=bb
theorem t329:EOk b0N:=bb
theorem t331:EOk b0P:=bb
theorem t340:EOk b0X:=bb
theorem t342:EOk b0Z:=bb
theorem t344:EOk b1b:=bb
theorem t367:EOk b1x:=bb
theorem t384:EOk b1O:=bb
theorem t385:EOk b1P:=bb
end Go.Lyc.T
