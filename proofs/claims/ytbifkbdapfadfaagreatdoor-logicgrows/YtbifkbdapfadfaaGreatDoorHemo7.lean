/-
  Calls, run in the kernel. No conditions: each stands by itself.
-/
import Derived.Test.YtbifkbdapfadfaaGreatDoorHemo6
set_option linter.all false
noncomputable section
namespace Go.Lyc.T
open Go.Lyc
set_option maxRecDepth 1000000
set_option maxHeartbeats 4000000
theorem t217 : EOk e217 := eok [e189] ⟨t189, trivial⟩ (by decide +kernel)
theorem t218 : EOk e218 := eok [] trivial (by decide +kernel)
theorem t219 : EOk e219 := eok [e217, e218] ⟨t217, t218, trivial⟩ (by decide +kernel)
theorem t220 : EOk e220 := eok [e116, e219] ⟨t116, t219, trivial⟩ (by decide +kernel)
theorem t221 : EOk e221 := eok [e217] ⟨t217, trivial⟩ (by decide +kernel)
theorem t222 : EOk e222 := eok [e48, e221] ⟨t48, t221, trivial⟩ (by decide +kernel)
theorem t223 : EOk e223 := eok [e189, e65] ⟨t189, t65, trivial⟩ (by decide +kernel)
theorem t224 : EOk e224 := eok [] trivial (by decide +kernel)
theorem t225 : EOk e225 := eok [e223, e224] ⟨t223, t224, trivial⟩ (by decide +kernel)
theorem t226 : EOk e226 := eok [e88, e225] ⟨t88, t225, trivial⟩ (by decide +kernel)
theorem t227 : EOk e227 := eok [] trivial (by decide +kernel)
theorem t228 : EOk e228 := eok [e223, e227] ⟨t223, t227, trivial⟩ (by decide +kernel)
theorem t229 : EOk e229 := eok [e116, e228] ⟨t116, t228, trivial⟩ (by decide +kernel)
theorem t230 : EOk e230 := eok [e188, e31, e29, e82, e109, e117, e129, e136, e170, e216, e220, e222, e226, e229] ⟨t188, t31, t29, t82, t109, t117, t129, t136, t170, t216, t220, t222, t226, t229, trivial⟩ (by decide +kernel)
end Go.Lyc.T
