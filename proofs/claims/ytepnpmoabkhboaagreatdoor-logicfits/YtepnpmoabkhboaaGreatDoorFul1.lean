/-
  Schemas filled, run with tokens. No conditions: closed facts.
-/
import Derived.Test.YtepnpmoabkhboaaGreatDoorFul
set_option linter.all false
noncomputable section
namespace Go.Lyc.T
open Go.Lyc.C Go.Lyc Go.RowKit Go.Proofs
variable [Tok] [TokOk]
set_option maxRecDepth 1000000
set_option maxHeartbeats 0
theorem c3g:iM base m5 ((CM 0).take 4)=true:=by decide +kernel
theorem c3h:iM base m5 ((CM 0).drop 4)=true:=by decide +kernel
theorem c3i:iM base m5 ((CM 1).take 4)=true:=by decide +kernel
theorem c3j:iM base m5 ((CM 1).drop 4)=true:=by decide +kernel
theorem c3k:iM base m5 ((CN false).take 8)=true:=by decide +kernel
theorem c3l:iM base m5 ((CN false).drop 8)=true:=by decide +kernel
end Go.Lyc.T
