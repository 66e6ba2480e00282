/-
  What some of the listed variables hold. No conditions: closed facts.
-/
import Derived.Test.YthpafliegleiaaaGreatDoorTieA
set_option linter.all false
namespace Go.Proofs.YthpafliegleiaaaGreatDoor
open Go
set_option maxRecDepth 100000
set_option maxHeartbeats 0
theorem tv0 (os : Os) (tape : Tape) : (DataW.laidRun Tryz.prog (wv os tape) 8 [(tv 0).1]).map (okP Tryz.prog (wv os tape) (fun b => Nat.beq b 7)) = some ([tv 0], true) := by kernel_rfl
theorem tv1 (os : Os) (tape : Tape) : (DataW.laidRun Tryz.prog (wv os tape) 8 [(tv 1).1]).map (okP Tryz.prog (wv os tape) (fun b => Nat.beq b 3)) = some ([tv 1], true) := by kernel_rfl
theorem tv2 (os : Os) (tape : Tape) : (DataW.laidRun Tryz.prog (wv os tape) 8 [(tv 2).1]).map (okP Tryz.prog (wv os tape) (fun b => Nat.beq b 2)) = some ([tv 2], true) := by kernel_rfl
end Go.Proofs.YthpafliegleiaaaGreatDoor
