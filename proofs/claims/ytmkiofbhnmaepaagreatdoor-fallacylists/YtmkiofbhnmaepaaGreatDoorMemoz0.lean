/-
  Calls, run in the kernel. No conditions: each stands by itself.
-/
import Derived.Test.YtmkiofbhnmaepaaGreatDoorValsz0
set_option linter.all false
noncomputable section
namespace Go.Lyc.T
open Go.Lyc
variable [Tok] [TokOk]
set_option maxRecDepth 1000000
set_option maxHeartbeats 4000000
theorem d3B:EOk b6g:=fB
theorem d3C:EOk b6j:=fB
theorem d3D:EOk b6l:=fB
theorem d3E:EOk b6m:=fB
theorem d3F:EOk b6n:=fB
theorem d3G:EOk b6q:=fB
theorem d3H:EOk b6r:=fB
theorem d3I:EOk b6s:=fB
theorem d3J:EOk b6t:=fB
theorem d3K:EOk b6u:=fB
theorem d3L:EOk b6v:=fB
theorem d3M:EOk b6w:=fB
theorem d3N:EOk b6x:=fB
theorem d3O:EOk b6y:=fB
theorem d3P:EOk b6z:=fB
theorem d3Q:EOk b6A:=fB
theorem d3R:EOk b6B:=fB
theorem d3S:EOk b6C:=fB
theorem d3T:EOk b6D:=fB
theorem d3U:EOk b6E:=fB
theorem d3V:EOk b6F:=fB
theorem d3W:EOk b6G:=fB
theorem d3X:EOk b6H:=fB
theorem d3Y:EOk b6I:=fB
theorem d3Z:EOk b6L:=fB
theorem d4a:EOk b6M:=fB
theorem d4b:EOk b6N:=fB
theorem d4c:EOk b6O:=fB
theorem d4d:EOk b6Q:=fB
theorem d4e:EOk b6R:=fB
theorem d4f:EOk b6S:=fB
theorem d4g:EOk b6T:=fB
end Go.Lyc.T
