/-
  Calls, run in the kernel. No conditions: each stands by itself.
-/
import Derived.Test.YtbifkbdapfadfaaGreatDoorHemo3
set_option linter.all false
noncomputable section
namespace Go.Lyc.T
open Go.Lyc
set_option maxRecDepth 1000000
set_option maxHeartbeats 4000000
theorem t124 : EOk e124 := eok [] trivial (by decide +kernel)
theorem t125 : EOk e125 := eok [] trivial (by decide +kernel)
theorem t126 : EOk e126 := eok [e49, e50, e51, e52, e53, e54, e55, e56, e57, e58, e59, e60, e61, e62, e89, e120, e121, e122, e123, e124, e125] ⟨t49, t50, t51, t52, t53, t54, t55, t56, t57, t58, t59, t60, t61, t62, t89, t120, t121, t122, t123, t124, t125, trivial⟩ (by decide +kernel)
theorem t127 : EOk e127 := eok [e1] ⟨t1, trivial⟩ (by decide +kernel)
theorem t128 : EOk e128 := eok [e2, e1, e127] ⟨t2, t1, t127, trivial⟩ (by decide +kernel)
theorem t129 : EOk e129 := eok [e91, e6, e8, e10, e12, e16, e17, e19, e20, e22, e24, e25, e27, e28, e95, e97, e99, e100, e102, e104, e106, e108, e128] ⟨t91, t6, t8, t10, t12, t16, t17, t19, t20, t22, t24, t25, t27, t28, t95, t97, t99, t100, t102, t104, t106, t108, t128, trivial⟩ (by decide +kernel)
theorem t130 : EOk e130 := eok [e127, e98, e2, e1] ⟨t127, t98, t2, t1, trivial⟩ (by decide +kernel)
theorem t131 : EOk e131 := eok [e91, e32, e33, e34, e35, e36, e37, e38, e39, e40, e41, e42, e43, e44, e45, e47, e110, e111, e112, e113, e114, e115, e118, e130] ⟨t91, t32, t33, t34, t35, t36, t37, t38, t39, t40, t41, t42, t43, t44, t45, t47, t110, t111, t112, t113, t114, t115, t118, t130, trivial⟩ (by decide +kernel)
theorem t132 : EOk e132 := eok [] trivial (by decide +kernel)
theorem t133 : EOk e133 := eok [e49, e50, e51, e52, e53, e54, e55, e56, e57, e58, e59, e60, e61, e62, e89, e120, e121, e122, e123, e124, e125, e132] ⟨t49, t50, t51, t52, t53, t54, t55, t56, t57, t58, t59, t60, t61, t62, t89, t120, t121, t122, t123, t124, t125, t132, trivial⟩ (by decide +kernel)
theorem t134 : EOk e134 := eok [e1] ⟨t1, trivial⟩ (by decide +kernel)
theorem t135 : EOk e135 := eok [e2, e1, e134] ⟨t2, t1, t134, trivial⟩ (by decide +kernel)
theorem t136 : EOk e136 := eok [e91, e6, e8, e10, e12, e16, e17, e19, e20, e22, e24, e25, e27, e28, e95, e97, e99, e100, e102, e104, e106, e108, e128, e135] ⟨t91, t6, t8, t10, t12, t16, t17, t19, t20, t22, t24, t25, t27, t28, t95, t97, t99, t100, t102, t104, t106, t108, t128, t135, trivial⟩ (by decide +kernel)
end Go.Lyc.T
