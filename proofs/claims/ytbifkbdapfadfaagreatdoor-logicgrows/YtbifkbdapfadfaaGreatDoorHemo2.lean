/-
  Calls, run in the kernel. No conditions: each stands by itself.
-/
import Derived.Test.YtbifkbdapfadfaaGreatDoorHemo1
set_option linter.all false
noncomputable section
namespace Go.Lyc.T
open Go.Lyc
set_option maxRecDepth 1000000
set_option maxHeartbeats 4000000
theorem t82 : EOk e82 := eok [e64, e6, e8, e10, e12, e16, e17, e19, e20, e22, e24, e25, e27, e28, e67, e73, e79, e81] ⟨t64, t6, t8, t10, t12, t16, t17, t19, t20, t22, t24, t25, t27, t28, t67, t73, t79, t81, trivial⟩ (by decide +kernel)
theorem t83 : EOk e83 := eok [] trivial (by decide +kernel)
theorem t84 : EOk e84 := eok [e66, e72, e2, e1, e83, e70, e68] ⟨t66, t72, t2, t1, t83, t70, t68, trivial⟩ (by decide +kernel)
theorem t85 : EOk e85 := eok [e78, e66, e2, e83, e76, e1, e74] ⟨t78, t66, t2, t83, t76, t1, t74, trivial⟩ (by decide +kernel)
theorem t86 : EOk e86 := eok [e80, e78, e2, e1, e83, e76, e74] ⟨t80, t78, t2, t1, t83, t76, t74, trivial⟩ (by decide +kernel)
theorem t87 : EOk e87 := eok [e15, e80, e72, e14, e13, e2, e1, e83, e70, e68] ⟨t15, t80, t72, t14, t13, t2, t1, t83, t70, t68, trivial⟩ (by decide +kernel)
theorem t88 : EOk e88 := eok [e64, e32, e33, e34, e35, e36, e37, e38, e39, e40, e41, e42, e43, e44, e45, e47, e84, e85, e86, e87] ⟨t64, t32, t33, t34, t35, t36, t37, t38, t39, t40, t41, t42, t43, t44, t45, t47, t84, t85, t86, t87, trivial⟩ (by decide +kernel)
theorem t89 : EOk e89 := eok [] trivial (by decide +kernel)
theorem t90 : EOk e90 := eok [e49, e50, e51, e52, e53, e54, e55, e56, e57, e58, e59, e60, e61, e62, e89] ⟨t49, t50, t51, t52, t53, t54, t55, t56, t57, t58, t59, t60, t61, t62, t89, trivial⟩ (by decide +kernel)
theorem t91 : EOk e91 := eok [] trivial (by decide +kernel)
theorem t92 : EOk e92 := eok [] trivial (by decide +kernel)
theorem t93 : EOk e93 := eok [e92] ⟨t92, trivial⟩ (by decide +kernel)
theorem t94 : EOk e94 := eok [e92] ⟨t92, trivial⟩ (by decide +kernel)
theorem t95 : EOk e95 := eok [e93, e92, e94] ⟨t93, t92, t94, trivial⟩ (by decide +kernel)
theorem t96 : EOk e96 := eok [e92] ⟨t92, trivial⟩ (by decide +kernel)
theorem t97 : EOk e97 := eok [e93, e92, e96] ⟨t93, t92, t96, trivial⟩ (by decide +kernel)
theorem t98 : EOk e98 := eok [e1] ⟨t1, trivial⟩ (by decide +kernel)
theorem t99 : EOk e99 := eok [e2, e1, e98] ⟨t2, t1, t98, trivial⟩ (by decide +kernel)
theorem t100 : EOk e100 := eok [e93, e92, e96] ⟨t93, t92, t96, trivial⟩ (by decide +kernel)
theorem t101 : EOk e101 := eok [e3] ⟨t3, trivial⟩ (by decide +kernel)
theorem t102 : EOk e102 := eok [e4, e3, e101] ⟨t4, t3, t101, trivial⟩ (by decide +kernel)
theorem t103 : EOk e103 := eok [e13] ⟨t13, trivial⟩ (by decide +kernel)
theorem t104 : EOk e104 := eok [e14, e13, e103] ⟨t14, t13, t103, trivial⟩ (by decide +kernel)
theorem t105 : EOk e105 := eok [e1] ⟨t1, trivial⟩ (by decide +kernel)
theorem t106 : EOk e106 := eok [e2, e1, e105] ⟨t2, t1, t105, trivial⟩ (by decide +kernel)
theorem t107 : EOk e107 := eok [e1] ⟨t1, trivial⟩ (by decide +kernel)
theorem t108 : EOk e108 := eok [e2, e1, e107] ⟨t2, t1, t107, trivial⟩ (by decide +kernel)
theorem t109 : EOk e109 := eok [e91, e6, e8, e10, e12, e16, e17, e19, e20, e22, e24, e25, e27, e28, e95, e97, e99, e100, e102, e104, e106, e108] ⟨t91, t6, t8, t10, t12, t16, t17, t19, t20, t22, t24, t25, t27, t28, t95, t97, t99, t100, t102, t104, t106, t108, trivial⟩ (by decide +kernel)
end Go.Lyc.T
