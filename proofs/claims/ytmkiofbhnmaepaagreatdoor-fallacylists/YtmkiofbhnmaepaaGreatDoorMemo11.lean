/-
  Calls, run in the kernel. No conditions: each stands by itself.
-/
import Derived.Test.YtmkiofbhnmaepaaGreatDoorMemo6
import Derived.Test.YtmkiofbhnmaepaaGreatDoorMemo7
set_option linter.all false
noncomputable section
namespace Go.Lyc.T
open Go.Lyc
variable [Tok] [TokOk]
set_option maxRecDepth 1000000
set_option maxHeartbeats 4000000
theorem t47:EOk DS:=aF [oF] ⟨t46,trivial⟩
theorem t49:EOk Ql:=aF [oF] ⟨t46,trivial⟩
theorem t164:EOk a8r:=aF [I9] ⟨t163,trivial⟩
theorem t165:EOk a8s:=aF [I9] ⟨t163,trivial⟩
theorem t194:EOk a8G:=aF [oF] ⟨t46,trivial⟩
theorem t213:EOk a8V:=aF [I_] ⟨t211,trivial⟩
theorem t274:EOk a9N:=aF [Ja] ⟨t273,trivial⟩
theorem t275:EOk a9O:=aF [Ja] ⟨t273,trivial⟩
theorem t321:EOk b0F:=aF [Jb] ⟨t320,trivial⟩
theorem t322:EOk b0G:=aF [Jb] ⟨t320,trivial⟩
theorem t394:EOk r9:=aF [vw] ⟨t389,trivial⟩
theorem t397:EOk Ax:=aF [As] ⟨t390,trivial⟩
theorem t400:EOk b1T:=aF [As,vw] ⟨t390,t389,trivial⟩
theorem t429:EOk b2p:=aF [b2o] ⟨t428,trivial⟩
theorem t465:EOk Rs:=dy [] trivial [fC] ⟨t106,trivial⟩
theorem t466:EOk Rt:=aF [gG] ⟨t387,trivial⟩
theorem t469:EOk Ay:=aF [xC,DW] ⟨t467,t468,trivial⟩
theorem t472:EOk jC:=aF [xC] ⟨t467,trivial⟩
theorem t473:EOk Rv:=dy [] trivial [fC] ⟨t106,trivial⟩
theorem t474:EOk Rw:=aF [gG] ⟨t387,trivial⟩
theorem b4s:EOk Rz:=aF [gG] ⟨t387,trivial⟩
theorem D4:EOk AB:=aF [DW] ⟨t468,trivial⟩
theorem b4t:EOk RF:=aF [gG] ⟨t387,trivial⟩
theorem b4u:EOk RH:=dy [] trivial [fC] ⟨t106,trivial⟩
theorem b4v:EOk RI:=aF [gG] ⟨t387,trivial⟩
theorem b4w:EOk RL:=aF [gG] ⟨t387,trivial⟩
theorem b4x:EOk RN:=dy [] trivial [fC] ⟨t106,trivial⟩
theorem b4y:EOk RO:=aF [gG] ⟨t387,trivial⟩
theorem b4z:EOk RQ:=aF [gG] ⟨t387,trivial⟩
theorem b4A:EOk RS:=aF [RR] ⟨b3R,trivial⟩
theorem b4B:EOk RX:=aF [gG] ⟨t387,trivial⟩
theorem S8:EOk Jk:=aF [RR,RY] ⟨b3R,b3S,trivial⟩
theorem b4C:EOk R1:=aF [gG] ⟨t387,trivial⟩
theorem b4D:EOk R2:=aF [b3l] ⟨d2D,trivial⟩
theorem b4E:EOk R4:=aF [gG] ⟨t387,trivial⟩
theorem b4F:EOk R7:=aF [gG] ⟨t387,trivial⟩
theorem b4G:EOk Sa:=aF [gG] ⟨t387,trivial⟩
theorem b4H:EOk Sc:=dy [] trivial [fC] ⟨t106,trivial⟩
theorem b4I:EOk Sd:=aF [gG] ⟨t387,trivial⟩
theorem b4J:EOk Sf:=aF [gG] ⟨t387,trivial⟩
theorem b4K:EOk Sh:=aF [gG] ⟨t387,trivial⟩
theorem b4L:EOk Sj:=dy [] trivial [fC] ⟨t106,trivial⟩
theorem b4M:EOk Sk:=aF [gG] ⟨t387,trivial⟩
theorem b4N:EOk Sm:=aF [gG] ⟨t387,trivial⟩
theorem b4O:EOk Sq:=aF [gG] ⟨t387,trivial⟩
theorem b4P:EOk Ss:=aF [RY] ⟨b3S,trivial⟩
theorem b4Q:EOk Sv:=aF [gG] ⟨t387,trivial⟩
theorem b4R:EOk Sw:=aF [b3A] ⟨d2E,trivial⟩
theorem b4S:EOk SA:=aF [gG] ⟨t387,trivial⟩
theorem b4T:EOk SE:=aF [gG] ⟨t387,trivial⟩
theorem b4U:EOk SH:=aF [gG] ⟨t387,trivial⟩
theorem b4V:EOk SK:=aF [gG] ⟨t387,trivial⟩
theorem b4W:EOk SM:=dy [] trivial [fC] ⟨t106,trivial⟩
theorem b4X:EOk SN:=aF [gG] ⟨t387,trivial⟩
theorem b4Y:EOk SP:=aF [gG] ⟨t387,trivial⟩
theorem b4Z:EOk SS:=aF [gG] ⟨t387,trivial⟩
theorem b5a:EOk SY:=aF [gG] ⟨t387,trivial⟩
theorem b5b:EOk S1:=aF [gG] ⟨t387,trivial⟩
theorem b5c:EOk S4:=aF [gG] ⟨t387,trivial⟩
theorem d2F:EOk b3P:=aF [DW,xC] ⟨t468,t467,trivial⟩
theorem b5d:EOk S6:=dy [] trivial [fC] ⟨t106,trivial⟩
theorem b5e:EOk S7:=aF [gG] ⟨t387,trivial⟩
end Go.Lyc.T
