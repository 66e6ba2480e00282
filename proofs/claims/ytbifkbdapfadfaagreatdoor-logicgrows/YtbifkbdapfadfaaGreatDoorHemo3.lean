/-
  Calls, run in the kernel. No conditions: each stands by itself.
-/
import Derived.Test.YtbifkbdapfadfaaGreatDoorHemo2
set_option linter.all false
noncomputable section
namespace Go.Lyc.T
open Go.Lyc
set_option maxRecDepth 1000000
set_option maxHeartbeats 4000000
theorem t110 : EOk e110 := eok [e94, e96, e93, e92] ⟨t94, t96, t93, t92, trivial⟩ (by decide +kernel)
theorem t111 : EOk e111 := eok [e94, e98, e96, e7, e93, e92, e2, e1] ⟨t94, t98, t96, t7, t93, t92, t2, t1, trivial⟩ (by decide +kernel)
theorem t112 : EOk e112 := eok [e94, e98, e101, e96, e7, e9, e93, e92, e2, e1, e4, e3] ⟨t94, t98, t101, t96, t7, t9, t93, t92, t2, t1, t4, t3, trivial⟩ (by decide +kernel)
theorem t113 : EOk e113 := eok [e94, e98, e101, e103, e96, e7, e9, e15, e93, e92, e2, e1, e4, e3, e14, e13] ⟨t94, t98, t101, t103, t96, t7, t9, t15, t93, t92, t2, t1, t4, t3, t14, t13, trivial⟩ (by decide +kernel)
theorem t114 : EOk e114 := eok [e105, e107, e2, e1] ⟨t105, t107, t2, t1, trivial⟩ (by decide +kernel)
theorem t115 : EOk e115 := eok [e107, e105, e2, e1] ⟨t107, t105, t2, t1, trivial⟩ (by decide +kernel)
theorem t116 : EOk e116 := eok [e91, e32, e33, e34, e35, e36, e37, e38, e39, e40, e41, e42, e43, e44, e45, e47, e110, e111, e112, e113, e114, e115] ⟨t91, t32, t33, t34, t35, t36, t37, t38, t39, t40, t41, t42, t43, t44, t45, t47, t110, t111, t112, t113, t114, t115, trivial⟩ (by decide +kernel)
theorem t117 : EOk e117 := eok [e91, e6, e8, e10, e12, e16, e17, e19, e20, e22, e24, e25, e27, e28, e95, e97, e99, e100, e102, e104, e106, e108] ⟨t91, t6, t8, t10, t12, t16, t17, t19, t20, t22, t24, t25, t27, t28, t95, t97, t99, t100, t102, t104, t106, t108, trivial⟩ (by decide +kernel)
theorem t118 : EOk e118 := eok [e7, e98, e2, e1] ⟨t7, t98, t2, t1, trivial⟩ (by decide +kernel)
theorem t119 : EOk e119 := eok [e91, e32, e33, e34, e35, e36, e37, e38, e39, e40, e41, e42, e43, e44, e45, e47, e110, e111, e112, e113, e114, e115, e118] ⟨t91, t32, t33, t34, t35, t36, t37, t38, t39, t40, t41, t42, t43, t44, t45, t47, t110, t111, t112, t113, t114, t115, t118, trivial⟩ (by decide +kernel)
theorem t120 : EOk e120 := eok [] trivial (by decide +kernel)
theorem t121 : EOk e121 := eok [] trivial (by decide +kernel)
theorem t122 : EOk e122 := eok [] trivial (by decide +kernel)
theorem t123 : EOk e123 := eok [] trivial (by decide +kernel)
end Go.Lyc.T
