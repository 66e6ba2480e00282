/-
  Calls, run in the kernel. No conditions: each stands by itself.
-/
import Derived.Test.YtmkiofbhnmaepaaGreatDoorMemo8
import Derived.Test.YtmkiofbhnmaepaaGreatDoorMemo9
import Derived.Test.YtmkiofbhnmaepaaGreatDoorMemo10
import Derived.Test.YtmkiofbhnmaepaaGreatDoorMemo11
set_option linter.all false
noncomputable section
namespace Go.Lyc.T
open Go.Lyc
variable [Tok] [TokOk]
set_option maxRecDepth 1000000
set_option maxHeartbeats 4000000
theorem t128:EOk a7L:=aF [oF,DS,a7E,a7G,a7I,a7K] ⟨t46,t47,t121,t123,t125,t127,trivial⟩
theorem t158:EOk a8n:=dy [oF,a7Q,a7R,a7T,a7V,a7X,a7Z,a8b,a8d,a8e,a8f,a8g,a8h,a8i,a8j,a8k,a8l,a8m] ⟨t46,t134,t135,t137,t139,t141,t143,t145,t147,t149,t150,t151,t152,t153,t154,t155,t156,t157,trivial⟩ [fC] ⟨t106,trivial⟩
theorem t196:EOk a8I:=dy [oF,DS,a8G,QN,QO,QP,QQ,QR,QS,QU,a8H,QV,QW,QX,QY,QZ,Q0,Q1] ⟨t46,t47,t194,t167,t169,t171,t173,t175,t177,t179,t195,t180,t181,t182,t183,t184,t185,t186,trivial⟩ [fC] ⟨t106,trivial⟩
theorem t346:EOk b1d:=aF [Jb,b0F,b0G,b0I,b0K,b0M,b0O,b0Q,b0S,b0T,b0U,b0W,b0Y,b1a,b1c] ⟨t320,t321,t322,t324,t326,t328,t330,t332,t334,t336,t337,t339,t341,t343,t345,trivial⟩
theorem t463:EOk b2T:=aF [Au] ⟨t391,trivial⟩
theorem t470:EOk Ru:=aF [Ay] ⟨t469,trivial⟩
theorem D5:EOk AA:=aF [jC] ⟨t472,trivial⟩
theorem b5f:EOk RC:=aF [jC] ⟨t472,trivial⟩
theorem d2G:EOk b2Y:=aF [AB] ⟨D4,trivial⟩
theorem Jm:EOk DX:=aF [Ay] ⟨t469,trivial⟩
theorem d2H:EOk b3b:=aF [Ay] ⟨t469,trivial⟩
theorem S9:EOk Jj:=aF [AB] ⟨D4,trivial⟩
theorem d2I:EOk b3e:=aF [jC] ⟨t472,trivial⟩
theorem b5g:EOk RT:=aF [RS] ⟨b4A,trivial⟩
theorem b5h:EOk RV:=aF [RS] ⟨b4A,trivial⟩
theorem d2J:EOk b3f:=aF [Jk] ⟨S8,trivial⟩
theorem d2K:EOk b3i:=aF [Jk] ⟨S8,trivial⟩
theorem b5i:EOk R8:=aF [jC] ⟨t472,trivial⟩
theorem d2L:EOk b3o:=aF [Ay] ⟨t469,trivial⟩
theorem d2M:EOk b3t:=aF [jC] ⟨t472,trivial⟩
theorem d2N:EOk b3u:=aF [Jk] ⟨S8,trivial⟩
theorem d2O:EOk b3x:=aF [Ss] ⟨b4P,trivial⟩
theorem d2P:EOk b3B:=aF [Sw] ⟨b4R,trivial⟩
theorem d2Q:EOk b3E:=aF [Sw] ⟨b4R,trivial⟩
theorem d2R:EOk b3H:=aF [AB] ⟨D4,trivial⟩
theorem d2S:EOk b3J:=aF [Ss] ⟨b4P,trivial⟩
theorem d2T:EOk b3L:=aF [Ay] ⟨t469,trivial⟩
theorem d2U:EOk b3Q:=aF [b3P] ⟨d2F,trivial⟩
end Go.Lyc.T
