/-
  Calls, run in the kernel. No conditions: each stands by itself.
-/
import Derived.Test.YtmkiofbhnmaepaaGreatDoorValsz0
set_option linter.all false
noncomputable section
namespace Go.Lyc.T
open Go.Lyc
variable [Tok] [TokOk]
set_option maxRecDepth 1000000
set_option maxHeartbeats 4000000
theorem d4h:EOk b6h:=fB
theorem d4i:EOk b6i:=fB
theorem d4j:EOk b6k:=fB
theorem d4k:EOk b6o:=fB
theorem d4l:EOk b6p:=fB
theorem d4m:EOk b6J:=fB
theorem d4n:EOk b6K:=fB
theorem d4o:EOk b6P:=fB
end Go.Lyc.T
