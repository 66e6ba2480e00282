/-
  Calls, run in the kernel. No conditions: each stands by itself.
-/
import Derived.Test.YtmkiofbhnmaepaaGreatDoorVals0
set_option linter.all false
noncomputable section
namespace Go.Lyc.T
open Go.Lyc
variable [Tok] [TokOk]
set_option maxRecDepth 1000000
set_option maxHeartbeats 4000000
theorem t22:ey Qg:=eH [] trivial [] trivial [110]
theorem t27:EOk Qi:=bb
theorem t32:EOk qQ:=bb
theorem t33:EOk qR:=bb
theorem t56:EOk a6O:=bb
theorem t58:EOk a6P:=bb
theorem t66:EOk a6T:=bb
theorem t68:EOk a6U:=bb
theorem t70:EOk a6V:=bb
theorem t72:EOk a6W:=bb
theorem t76:ey a6Z:=eH [] trivial [] trivial [108]
theorem t82:ey a7f:=eH [] trivial [] trivial [79,78]
theorem t85:ey Qy:=eH [] trivial [] trivial [72]
theorem t90:ey a7k:=eH [] trivial [] trivial [72]
theorem t110:EOk QI:=bb
theorem t111:EOk QJ:=bb
theorem t116:EOk a7z:=bb
theorem t119:EOk a7C:=bb
theorem t131:EOk a7N:=bb
theorem t132:EOk a7O:=bb
theorem t140:EOk a7W:=bb
theorem t142:EOk a7Y:=bb
theorem t144:EOk a8a:=bb
theorem t161:EOk a8q:=bb
theorem t180:EOk QV:=bb
theorem t181:EOk QW:=bb
theorem t186:EOk Q1:=bb
theorem t187:EOk a8z:=bb
theorem t204:EOk a8Q:=bb
theorem t231:EOk a9m:=bb
theorem t233:EOk a9o:=bb
theorem t235:EOk a9q:=bb
theorem t241:EOk a9w:=bb
theorem t244:EOk a9z:=bb
theorem t271:EOk DU:=bb
theorem t272:EOk DV:=bb
theorem t298:EOk b0k:=bb
theorem t302:EOk b0o:=bb
theorem t309:EOk b0v:=bb
theorem t363:EOk b1t:=bb
theorem t366:EOk b1w:=bb
theorem t371:EOk b1B:=bb
theorem t378:EOk b1I:=bb
theorem t379:EOk b1J:=bb
end Go.Lyc.T
