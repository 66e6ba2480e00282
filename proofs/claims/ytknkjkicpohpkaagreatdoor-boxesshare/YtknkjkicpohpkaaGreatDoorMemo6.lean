/-
  Calls, run in the kernel. No conditions: each stands by itself.
-/
import Derived.Test.YtknkjkicpohpkaaGreatDoorMemo5
set_option linter.all false
noncomputable section
namespace Go.Lyc.T
open Go.Lyc
set_option maxRecDepth 1000000
set_option maxHeartbeats 4000000
theorem t370 : EOk e370 := eok [e369] ⟨t369, trivial⟩ (by decide +kernel)
theorem t371 : EOk e371 := eok [e107, e370, e296] ⟨t107, t370, t296, trivial⟩ (by decide +kernel)
theorem t372 : EOk e372 := eok [e141, e145, e302, e111, e298, e142, e303, e115, e309] ⟨t141, t145, t302, t111, t298, t142, t303, t115, t309, trivial⟩ (by decide +kernel)
theorem t373 : EOk e373 := eok [e372] ⟨t372, trivial⟩ (by decide +kernel)
theorem t374 : EOk e374 := eok [e107, e373, e296] ⟨t107, t373, t296, trivial⟩ (by decide +kernel)
theorem t375 : EOk e375 := eok [e141, e145, e302, e111, e298, e142, e303, e115, e309] ⟨t141, t145, t302, t111, t298, t142, t303, t115, t309, trivial⟩ (by decide +kernel)
theorem t376 : EOk e376 := eok [e375] ⟨t375, trivial⟩ (by decide +kernel)
theorem t377 : EOk e377 := eok [e107, e376, e296] ⟨t107, t376, t296, trivial⟩ (by decide +kernel)
end Go.Lyc.T
