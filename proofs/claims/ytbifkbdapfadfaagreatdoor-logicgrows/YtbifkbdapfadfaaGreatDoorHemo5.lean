/-
  Calls, run in the kernel. No conditions: each stands by itself.
-/
import Derived.Test.YtbifkbdapfadfaaGreatDoorHemo4
set_option linter.all false
noncomputable section
namespace Go.Lyc.T
open Go.Lyc
set_option maxRecDepth 1000000
set_option maxHeartbeats 4000000
theorem t137 : EOk e137 := eok [e134, e105, e2, e1] ⟨t134, t105, t2, t1, trivial⟩ (by decide +kernel)
theorem t138 : EOk e138 := eok [e91, e32, e33, e34, e35, e36, e37, e38, e39, e40, e41, e42, e43, e44, e45, e47, e110, e111, e112, e113, e114, e115, e118, e130, e137] ⟨t91, t32, t33, t34, t35, t36, t37, t38, t39, t40, t41, t42, t43, t44, t45, t47, t110, t111, t112, t113, t114, t115, t118, t130, t137, trivial⟩ (by decide +kernel)
theorem t139 : EOk e139 := eok [] trivial (by decide +kernel)
theorem t140 : EOk e140 := eok [e49, e50, e51, e52, e53, e54, e55, e56, e57, e58, e59, e60, e61, e62, e89, e120, e121, e122, e123, e124, e125, e132, e139] ⟨t49, t50, t51, t52, t53, t54, t55, t56, t57, t58, t59, t60, t61, t62, t89, t120, t121, t122, t123, t124, t125, t132, t139, trivial⟩ (by decide +kernel)
theorem t141 : EOk e141 := eok [] trivial (by decide +kernel)
theorem t142 : EOk e142 := eok [e92] ⟨t92, trivial⟩ (by decide +kernel)
theorem t143 : EOk e143 := eok [e93, e92, e142] ⟨t93, t92, t142, trivial⟩ (by decide +kernel)
theorem t144 : EOk e144 := eok [e1] ⟨t1, trivial⟩ (by decide +kernel)
theorem t145 : EOk e145 := eok [e2, e1, e144] ⟨t2, t1, t144, trivial⟩ (by decide +kernel)
theorem t146 : EOk e146 := eok [e3] ⟨t3, trivial⟩ (by decide +kernel)
theorem t147 : EOk e147 := eok [e4, e3, e146] ⟨t4, t3, t146, trivial⟩ (by decide +kernel)
theorem t148 : EOk e148 := eok [e13] ⟨t13, trivial⟩ (by decide +kernel)
theorem t149 : EOk e149 := eok [e14, e13, e148] ⟨t14, t13, t148, trivial⟩ (by decide +kernel)
theorem t150 : EOk e150 := eok [e1] ⟨t1, trivial⟩ (by decide +kernel)
theorem t151 : EOk e151 := eok [e2, e1, e150] ⟨t2, t1, t150, trivial⟩ (by decide +kernel)
theorem t152 : EOk e152 := eok [e1] ⟨t1, trivial⟩ (by decide +kernel)
theorem t153 : EOk e153 := eok [e2, e1, e152] ⟨t2, t1, t152, trivial⟩ (by decide +kernel)
theorem t154 : EOk e154 := eok [e92] ⟨t92, trivial⟩ (by decide +kernel)
theorem t155 : EOk e155 := eok [e93, e92, e154] ⟨t93, t92, t154, trivial⟩ (by decide +kernel)
theorem t156 : EOk e156 := eok [e1] ⟨t1, trivial⟩ (by decide +kernel)
theorem t157 : EOk e157 := eok [e2, e1, e156] ⟨t2, t1, t156, trivial⟩ (by decide +kernel)
theorem t158 : EOk e158 := eok [e3] ⟨t3, trivial⟩ (by decide +kernel)
theorem t159 : EOk e159 := eok [e4, e3, e158] ⟨t4, t3, t158, trivial⟩ (by decide +kernel)
theorem t160 : EOk e160 := eok [e13] ⟨t13, trivial⟩ (by decide +kernel)
theorem t161 : EOk e161 := eok [e14, e13, e160] ⟨t14, t13, t160, trivial⟩ (by decide +kernel)
theorem t162 : EOk e162 := eok [e1] ⟨t1, trivial⟩ (by decide +kernel)
theorem t163 : EOk e163 := eok [e2, e1, e162] ⟨t2, t1, t162, trivial⟩ (by decide +kernel)
theorem t164 : EOk e164 := eok [e2, e1, e144] ⟨t2, t1, t144, trivial⟩ (by decide +kernel)
theorem t165 : EOk e165 := eok [e1, e3] ⟨t1, t3, trivial⟩ (by decide +kernel)
theorem t166 : EOk e166 := eok [e2, e4, e1, e3, e165] ⟨t2, t4, t1, t3, t165, trivial⟩ (by decide +kernel)
theorem t167 : EOk e167 := eok [e1, e3] ⟨t1, t3, trivial⟩ (by decide +kernel)
theorem t168 : EOk e168 := eok [e2, e4, e1, e3, e167] ⟨t2, t4, t1, t3, t167, trivial⟩ (by decide +kernel)
theorem t169 : EOk e169 := eok [e14, e13, e148] ⟨t14, t13, t148, trivial⟩ (by decide +kernel)
theorem t170 : EOk e170 := eok [e141, e6, e8, e10, e12, e16, e17, e19, e20, e22, e24, e25, e27, e28, e143, e97, e145, e100, e147, e149, e151, e153, e155, e157, e159, e161, e163, e164, e166, e168, e169] ⟨t141, t6, t8, t10, t12, t16, t17, t19, t20, t22, t24, t25, t27, t28, t143, t97, t145, t100, t147, t149, t151, t153, t155, t157, t159, t161, t163, t164, t166, t168, t169, trivial⟩ (by decide +kernel)
end Go.Lyc.T
