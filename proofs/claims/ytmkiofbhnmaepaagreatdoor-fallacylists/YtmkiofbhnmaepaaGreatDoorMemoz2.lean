/-
  Calls, run in the kernel. No conditions: each stands by itself.
-/
import Derived.Test.YtmkiofbhnmaepaaGreatDoorMemoz0
import Derived.Test.YtmkiofbhnmaepaaGreatDoorMemoz1
set_option linter.all false
noncomputable section
namespace Go.Lyc.T
open Go.Lyc
variable [Tok] [TokOk]
set_option maxRecDepth 1000000
set_option maxHeartbeats 4000000
theorem d4p:EOk d3A:=a2d [b6g,b6h,b6i,b6j,b6k,b6l,b6m,b6n,b6o,b6p,b6q,b6r,b6s,b6t,b6u,b6v,b6w,b6x,b6y,b6z,b6A,b6B,b6C,b6D,b6E,b6F,b6G,b6H,b6I,b6J,b6K,b6L,b6M,b6N,b6O,b6P,b6Q,b6R,b6S,b6T] ⟨d3B,d4h,d4i,d3C,d4j,d3D,d3E,d3F,d4k,d4l,d3G,d3H,d3I,d3J,d3K,d3L,d3M,d3N,d3O,d3P,d3Q,d3R,d3S,d3T,d3U,d3V,d3W,d3X,d3Y,d4m,d4n,d3Z,d4a,d4b,d4c,d4o,d4d,d4e,d4f,d4g,trivial⟩
end Go.Lyc.T
