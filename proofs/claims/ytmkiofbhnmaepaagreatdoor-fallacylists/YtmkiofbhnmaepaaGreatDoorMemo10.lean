/-
  Calls, run in the kernel. No conditions: each stands by itself.
-/
import Derived.Test.YtmkiofbhnmaepaaGreatDoorMemo6
import Derived.Test.YtmkiofbhnmaepaaGreatDoorMemo7
set_option linter.all false
noncomputable section
namespace Go.Lyc.T
open Go.Lyc
variable [Tok] [TokOk]
set_option maxRecDepth 1000000
set_option maxHeartbeats 4000000
theorem t121:EOk a7E:=aF [oF] ⟨t46,trivial⟩
theorem t134:EOk a7Q:=aF [oF] ⟨t46,trivial⟩
theorem t135:EOk a7R:=aF [oF] ⟨t46,trivial⟩
theorem t391:EOk Au:=aF [vw,As] ⟨t389,t390,trivial⟩
theorem b4f:EOk RE:=dy [] trivial [fC] ⟨t106,trivial⟩
theorem b4g:EOk RP:=dy [] trivial [fC] ⟨t106,trivial⟩
theorem b4h:EOk R0:=d2B [] trivial [fC] ⟨t106,trivial⟩
theorem b4i:EOk R3:=dy [] trivial [fC] ⟨t106,trivial⟩
theorem b4j:EOk Se:=dy [] trivial [fC] ⟨t106,trivial⟩
theorem b4k:EOk Sg:=dy [] trivial [fC] ⟨t106,trivial⟩
theorem b4l:EOk Sl:=dy [] trivial [fC] ⟨t106,trivial⟩
theorem b4m:EOk SG:=dy [] trivial [fC] ⟨t106,trivial⟩
theorem b4n:EOk SO:=dy [] trivial [fC] ⟨t106,trivial⟩
theorem b4o:EOk SV:=dy [] trivial [fC] ⟨t106,trivial⟩
theorem b4p:EOk SX:=dy [] trivial [fC] ⟨t106,trivial⟩
theorem b4q:EOk S0:=dy [] trivial [fC] ⟨t106,trivial⟩
theorem b4r:EOk S3:=dy [] trivial [fC] ⟨t106,trivial⟩
end Go.Lyc.T
