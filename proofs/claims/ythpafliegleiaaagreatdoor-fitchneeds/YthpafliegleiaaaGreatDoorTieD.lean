/-
  What some of the listed variables hold. No conditions: closed facts.
-/
import Derived.Test.YthpafliegleiaaaGreatDoorTieA
set_option linter.all false
namespace Go.Proofs.YthpafliegleiaaaGreatDoor
open Go
set_option maxRecDepth 100000
set_option maxHeartbeats 0
theorem tv5 (os : Os) (tape : Tape) : (DataW.laidRun Tryz.prog (wv os tape) 8 [(tv 5).1]).map (okP Tryz.prog (wv os tape) (fun b => !([7, 3, 2, 0, 6, 8, 9, 10].contains b))) = some ([tv 5], true) := by kernel_rfl
end Go.Proofs.YthpafliegleiaaaGreatDoor
