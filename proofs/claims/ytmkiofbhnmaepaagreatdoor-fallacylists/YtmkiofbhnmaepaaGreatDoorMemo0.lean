/-
  Calls, run in the kernel. No conditions: each stands by itself.
-/
import Derived.Test.YtmkiofbhnmaepaaGreatDoorVals0
set_option linter.all false
noncomputable section
namespace Go.Lyc.T
open Go.Lyc
variable [Tok] [TokOk]
set_option maxRecDepth 1000000
set_option maxHeartbeats 4000000
theorem t36:EOk Ar:=bb
theorem t42:EOk vt:=bb
theorem t78:ey a7b:=eH [] trivial [] trivial [151,139]
theorem t84:ey a7h:=eH [] trivial [] trivial [210,166]
theorem t87:ey QA:=eH [] trivial [] trivial [107]
theorem t91:ey a7l:=eH [] trivial [] trivial [159,147]
theorem t92:ey a7m:=eH [] trivial [] trivial [163,153]
theorem t93:ey a7n:=eH [] trivial [] trivial [138,107,134]
theorem t94:ey a7o:=eH [] trivial [] trivial [174,169]
theorem t99:ey a7p:=eH [] trivial [] trivial [155,145]
theorem t199:ey a8L:=eH [] trivial [] trivial [107]
theorem t229:EOk a9k:=bb
theorem t243:EOk a9y:=bb
theorem t245:EOk a9A:=bb
theorem t269:EOk Rg:=bb
theorem t270:EOk Rh:=bb
theorem t358:EOk b1o:=bb
theorem t365:EOk b1v:=bb
theorem t372:EOk b1C:=bb
theorem t373:EOk b1D:=bb
theorem t374:EOk b1E:=bb
theorem t375:EOk b1F:=bb
theorem t380:EOk b1K:=bb
end Go.Lyc.T
