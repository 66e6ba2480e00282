/-
  Calls, run in the kernel. No conditions: each stands by itself.
-/
import Derived.Test.YtknkjkicpohpkaaGreatDoorMemo4
set_option linter.all false
noncomputable section
namespace Go.Lyc.T
open Go.Lyc
set_option maxRecDepth 1000000
set_option maxHeartbeats 4000000
theorem t358 : EOk e358 := eok [e357] ⟨t357, trivial⟩ (by decide +kernel)
theorem t359 : EOk e359 := eok [e107, e358, e296] ⟨t107, t358, t296, trivial⟩ (by decide +kernel)
theorem t360 : EOk e360 := eok [e141, e145, e302, e111, e298, e142, e303, e115, e309] ⟨t141, t145, t302, t111, t298, t142, t303, t115, t309, trivial⟩ (by decide +kernel)
theorem t361 : EOk e361 := eok [e360] ⟨t360, trivial⟩ (by decide +kernel)
theorem t362 : EOk e362 := eok [e107, e361, e296] ⟨t107, t361, t296, trivial⟩ (by decide +kernel)
theorem t363 : EOk e363 := eok [e141, e145, e302, e111, e298, e142, e303, e115, e309] ⟨t141, t145, t302, t111, t298, t142, t303, t115, t309, trivial⟩ (by decide +kernel)
theorem t364 : EOk e364 := eok [e363] ⟨t363, trivial⟩ (by decide +kernel)
theorem t365 : EOk e365 := eok [e107, e364, e296] ⟨t107, t364, t296, trivial⟩ (by decide +kernel)
theorem t366 : EOk e366 := eok [e141, e145, e302, e111, e298, e142, e303, e115, e309] ⟨t141, t145, t302, t111, t298, t142, t303, t115, t309, trivial⟩ (by decide +kernel)
theorem t367 : EOk e367 := eok [e366] ⟨t366, trivial⟩ (by decide +kernel)
theorem t368 : EOk e368 := eok [e107, e367, e296] ⟨t107, t367, t296, trivial⟩ (by decide +kernel)
theorem t369 : EOk e369 := eok [e141, e145, e302, e111, e298, e142, e303, e115, e309] ⟨t141, t145, t302, t111, t298, t142, t303, t115, t309, trivial⟩ (by decide +kernel)
end Go.Lyc.T
