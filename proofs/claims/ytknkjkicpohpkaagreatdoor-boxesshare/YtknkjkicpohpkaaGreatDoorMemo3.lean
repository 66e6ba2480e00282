/-
  Calls, run in the kernel. No conditions: each stands by itself.
-/
import Derived.Test.YtknkjkicpohpkaaGreatDoorMemo2
set_option linter.all false
noncomputable section
namespace Go.Lyc.T
open Go.Lyc
set_option maxRecDepth 1000000
set_option maxHeartbeats 4000000
theorem t336 : EOk e336 := eok [e332] ⟨t332, trivial⟩ (by decide +kernel)
theorem t337 : EOk e337 := eok [e107, e335, e336, e296] ⟨t107, t335, t336, t296, trivial⟩ (by decide +kernel)
theorem t338 : EOk e338 := eok [e141, e145, e302, e111, e298, e142, e303, e115, e309] ⟨t141, t145, t302, t111, t298, t142, t303, t115, t309, trivial⟩ (by decide +kernel)
theorem t339 : EOk e339 := eok [e338, e305, e147] ⟨t338, t305, t147, trivial⟩ (by decide +kernel)
theorem t340 : EOk e340 := eok [e336] ⟨t336, trivial⟩ (by decide +kernel)
theorem t341 : EOk e341 := eok [e107, e339, e340, e296] ⟨t107, t339, t340, t296, trivial⟩ (by decide +kernel)
theorem t342 : EOk e342 := eok [e141, e145, e302, e111, e298, e142, e303, e115, e309] ⟨t141, t145, t302, t111, t298, t142, t303, t115, t309, trivial⟩ (by decide +kernel)
theorem t343 : EOk e343 := eok [e342, e147, e305] ⟨t342, t147, t305, trivial⟩ (by decide +kernel)
theorem t344 : EOk e344 := eok [e340] ⟨t340, trivial⟩ (by decide +kernel)
theorem t345 : EOk e345 := eok [e107, e343, e344, e296] ⟨t107, t343, t344, t296, trivial⟩ (by decide +kernel)
theorem t346 : EOk e346 := eok [e141, e145, e302, e111, e298, e142, e303, e115, e309] ⟨t141, t145, t302, t111, t298, t142, t303, t115, t309, trivial⟩ (by decide +kernel)
theorem t347 : EOk e347 := eok [e346, e305, e147] ⟨t346, t305, t147, trivial⟩ (by decide +kernel)
end Go.Lyc.T
