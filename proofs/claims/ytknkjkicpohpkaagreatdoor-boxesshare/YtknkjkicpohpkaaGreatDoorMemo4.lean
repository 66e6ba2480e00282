/-
  Calls, run in the kernel. No conditions: each stands by itself.
-/
import Derived.Test.YtknkjkicpohpkaaGreatDoorMemo3
set_option linter.all false
noncomputable section
namespace Go.Lyc.T
open Go.Lyc
set_option maxRecDepth 1000000
set_option maxHeartbeats 4000000
theorem t348 : EOk e348 := eok [e344] ⟨t344, trivial⟩ (by decide +kernel)
theorem t349 : EOk e349 := eok [e107, e347, e348, e296] ⟨t107, t347, t348, t296, trivial⟩ (by decide +kernel)
theorem t350 : EOk e350 := eok [e141, e145, e302, e111, e298, e142, e303, e115, e309] ⟨t141, t145, t302, t111, t298, t142, t303, t115, t309, trivial⟩ (by decide +kernel)
theorem t351 : EOk e351 := eok [e350, e147, e305] ⟨t350, t147, t305, trivial⟩ (by decide +kernel)
theorem t352 : EOk e352 := eok [e348] ⟨t348, trivial⟩ (by decide +kernel)
theorem t353 : EOk e353 := eok [e107, e351, e352, e296] ⟨t107, t351, t352, t296, trivial⟩ (by decide +kernel)
theorem t354 : EOk e354 := eok [e141, e145, e302, e111, e298, e142, e303, e115, e309] ⟨t141, t145, t302, t111, t298, t142, t303, t115, t309, trivial⟩ (by decide +kernel)
theorem t355 : EOk e355 := eok [e354] ⟨t354, trivial⟩ (by decide +kernel)
theorem t356 : EOk e356 := eok [e107, e355, e296] ⟨t107, t355, t296, trivial⟩ (by decide +kernel)
theorem t357 : EOk e357 := eok [e141, e145, e302, e111, e298, e142, e303, e115, e309] ⟨t141, t145, t302, t111, t298, t142, t303, t115, t309, trivial⟩ (by decide +kernel)
end Go.Lyc.T
