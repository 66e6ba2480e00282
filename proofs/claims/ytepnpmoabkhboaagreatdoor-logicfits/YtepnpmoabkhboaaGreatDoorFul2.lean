/-
  Schemas filled, run with tokens. No conditions: closed facts.
-/
import Derived.Test.YtepnpmoabkhboaaGreatDoorFul
set_option linter.all false
noncomputable section
namespace Go.Lyc.T
open Go.Lyc.C Go.Lyc Go.RowKit Go.Proofs
variable [Tok] [TokOk]
set_option maxRecDepth 1000000
set_option maxHeartbeats 0
theorem c3m:iM base m5 ((CN true).take 8)=true:=by decide +kernel
theorem c3n:iM base m5 ((CN true).drop 8)=true:=by decide +kernel
theorem c3o:iM base m5 ((Sy).take 64)=true:=by decide +kernel
theorem c3p:iM base m5 ((Sy).drop 64)=true:=by decide +kernel
end Go.Lyc.T
