/-
  What some of the listed variables hold. No conditions: closed facts.
-/
import Derived.Test.YthpafliegleiaaaGreatDoorTieA
set_option linter.all false
namespace Go.Proofs.YthpafliegleiaaaGreatDoor
open Go
set_option maxRecDepth 100000
set_option maxHeartbeats 0
theorem tv7 (os : Os) (tape : Tape) : (DataW.laidRun Tryz.prog (wv os tape) 8 [(tv 7).1]).map (okP Tryz.prog (wv os tape) (fun b => Nat.beq b 9)) = some ([tv 7], true) := by kernel_rfl
theorem tv8 (os : Os) (tape : Tape) : (DataW.laidRun Tryz.prog (wv os tape) 8 [(tv 8).1]).map (okP Tryz.prog (wv os tape) (fun b => Nat.beq b 10)) = some ([tv 8], true) := by kernel_rfl
end Go.Proofs.YthpafliegleiaaaGreatDoor
