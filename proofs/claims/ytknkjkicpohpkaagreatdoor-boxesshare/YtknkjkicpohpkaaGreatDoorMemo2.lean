/-
  Calls, run in the kernel. No conditions: each stands by itself.
-/
import Derived.Test.YtknkjkicpohpkaaGreatDoorMemo1
set_option linter.all false
noncomputable section
namespace Go.Lyc.T
open Go.Lyc
set_option maxRecDepth 1000000
set_option maxHeartbeats 4000000
theorem t309 : EOk e309 := eok [e5, e298, e11, e142, e147] ⟨t5, t298, t11, t142, t147, trivial⟩ (by decide +kernel)
theorem t310 : EOk e310 := eok [e141, e145, e302, e111, e298, e142, e303, e115, e309] ⟨t141, t145, t302, t111, t298, t142, t303, t115, t309, trivial⟩ (by decide +kernel)
theorem t311 : EOk e311 := eok [e310, e147, e305] ⟨t310, t147, t305, trivial⟩ (by decide +kernel)
theorem t312 : EOk e312 := eok [e307] ⟨t307, trivial⟩ (by decide +kernel)
theorem t313 : EOk e313 := eok [e107, e311, e312, e296] ⟨t107, t311, t312, t296, trivial⟩ (by decide +kernel)
theorem t314 : EOk e314 := eok [e141, e145, e302, e111, e298, e142, e303, e115, e309] ⟨t141, t145, t302, t111, t298, t142, t303, t115, t309, trivial⟩ (by decide +kernel)
theorem t315 : EOk e315 := eok [e314, e305, e147] ⟨t314, t305, t147, trivial⟩ (by decide +kernel)
theorem t316 : EOk e316 := eok [e312] ⟨t312, trivial⟩ (by decide +kernel)
theorem t317 : EOk e317 := eok [e107, e315, e316, e296] ⟨t107, t315, t316, t296, trivial⟩ (by decide +kernel)
theorem t318 : EOk e318 := eok [e141, e145, e302, e111, e298, e142, e303, e115, e309] ⟨t141, t145, t302, t111, t298, t142, t303, t115, t309, trivial⟩ (by decide +kernel)
theorem t319 : EOk e319 := eok [e318, e147, e305] ⟨t318, t147, t305, trivial⟩ (by decide +kernel)
theorem t320 : EOk e320 := eok [e316] ⟨t316, trivial⟩ (by decide +kernel)
theorem t321 : EOk e321 := eok [e107, e319, e320, e296] ⟨t107, t319, t320, t296, trivial⟩ (by decide +kernel)
theorem t322 : EOk e322 := eok [e141, e145, e302, e111, e298, e142, e303, e115, e309] ⟨t141, t145, t302, t111, t298, t142, t303, t115, t309, trivial⟩ (by decide +kernel)
theorem t323 : EOk e323 := eok [e322, e305, e147] ⟨t322, t305, t147, trivial⟩ (by decide +kernel)
theorem t324 : EOk e324 := eok [e320] ⟨t320, trivial⟩ (by decide +kernel)
theorem t325 : EOk e325 := eok [e107, e323, e324, e296] ⟨t107, t323, t324, t296, trivial⟩ (by decide +kernel)
theorem t326 : EOk e326 := eok [e141, e145, e302, e111, e298, e142, e303, e115, e309] ⟨t141, t145, t302, t111, t298, t142, t303, t115, t309, trivial⟩ (by decide +kernel)
theorem t327 : EOk e327 := eok [e326, e147, e305] ⟨t326, t147, t305, trivial⟩ (by decide +kernel)
theorem t328 : EOk e328 := eok [e324] ⟨t324, trivial⟩ (by decide +kernel)
theorem t329 : EOk e329 := eok [e107, e327, e328, e296] ⟨t107, t327, t328, t296, trivial⟩ (by decide +kernel)
theorem t330 : EOk e330 := eok [e141, e145, e302, e111, e298, e142, e303, e115, e309] ⟨t141, t145, t302, t111, t298, t142, t303, t115, t309, trivial⟩ (by decide +kernel)
theorem t331 : EOk e331 := eok [e330, e305, e147] ⟨t330, t305, t147, trivial⟩ (by decide +kernel)
theorem t332 : EOk e332 := eok [e328] ⟨t328, trivial⟩ (by decide +kernel)
theorem t333 : EOk e333 := eok [e107, e331, e332, e296] ⟨t107, t331, t332, t296, trivial⟩ (by decide +kernel)
theorem t334 : EOk e334 := eok [e141, e145, e302, e111, e298, e142, e303, e115, e309] ⟨t141, t145, t302, t111, t298, t142, t303, t115, t309, trivial⟩ (by decide +kernel)
theorem t335 : EOk e335 := eok [e334, e147, e305] ⟨t334, t147, t305, trivial⟩ (by decide +kernel)
end Go.Lyc.T
