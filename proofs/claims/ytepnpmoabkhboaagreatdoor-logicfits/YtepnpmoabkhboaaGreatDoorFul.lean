/-
  What filling schemas leans on. No conditions: closed facts.
-/
import Derived.Test.YtepnpmoabkhboaaGreatDoorMemo5
set_option linter.all false
noncomputable section
namespace Go.Lyc.T
open Go.Lyc.C Go.Lyc Go.RowKit Go.Proofs
variable [Tok] [TokOk]
set_option maxRecDepth 1000000
set_option maxHeartbeats 0
def m5:List aM:=[jP,aV,jA,tr,Ju,gv,jK,ys,Hz,C3,yu,uP,UC]
theorem c3b:tF m5:=⟨t0,t2,t4,t6,t8,t29,t32,t49,t106,t109,t138,t220,t328,trivial⟩
end Go.Lyc.T
