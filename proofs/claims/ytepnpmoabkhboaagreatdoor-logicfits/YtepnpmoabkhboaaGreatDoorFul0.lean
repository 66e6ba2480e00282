/-
  Schemas filled, run with tokens. No conditions: closed facts.
-/
import Derived.Test.YtepnpmoabkhboaaGreatDoorFul
set_option linter.all false
noncomputable section
namespace Go.Lyc.T
open Go.Lyc.C Go.Lyc Go.RowKit Go.Proofs
variable [Tok] [TokOk]
set_option maxRecDepth 1000000
set_option maxHeartbeats 0
theorem c3c:iM base m5 ((x8 0).take 4)=true:=by decide +kernel
theorem c3d:iM base m5 ((x8 0).drop 4)=true:=by decide +kernel
theorem c3e:iM base m5 ((x8 5).take 4)=true:=by decide +kernel
theorem c3f:iM base m5 ((x8 5).drop 4)=true:=by decide +kernel
end Go.Lyc.T
