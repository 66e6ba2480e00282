/-
  What some of the listed variables hold. No conditions: closed facts.
-/
import Derived.Test.YthpafliegleiaaaGreatDoorTieA
set_option linter.all false
namespace Go.Proofs.YthpafliegleiaaaGreatDoor
open Go
set_option maxRecDepth 100000
set_option maxHeartbeats 0
theorem tv3 (os : Os) (tape : Tape) : (DataW.laidRun Tryz.prog (wv os tape) 8 [(tv 3).1]).map (okP Tryz.prog (wv os tape) (fun b => Nat.beq b 0)) = some ([tv 3], true) := by kernel_rfl
theorem tv4 (os : Os) (tape : Tape) : (DataW.laidRun Tryz.prog (wv os tape) 8 [(tv 4).1]).map (okP Tryz.prog (wv os tape) (fun b => Nat.beq b 6)) = some ([tv 4], true) := by kernel_rfl
theorem tv6 (os : Os) (tape : Tape) : (DataW.laidRun Tryz.prog (wv os tape) 8 [(tv 6).1]).map (okP Tryz.prog (wv os tape) (fun b => Nat.beq b 8)) = some ([tv 6], true) := by kernel_rfl
end Go.Proofs.YthpafliegleiaaaGreatDoor
