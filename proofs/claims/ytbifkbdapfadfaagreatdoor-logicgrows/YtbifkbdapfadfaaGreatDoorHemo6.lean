/-
  Calls, run in the kernel. No conditions: each stands by itself.
-/
import Derived.Test.YtbifkbdapfadfaaGreatDoorHemo5
set_option linter.all false
noncomputable section
namespace Go.Lyc.T
open Go.Lyc
set_option maxRecDepth 1000000
set_option maxHeartbeats 4000000
theorem t171 : EOk e171 := eok [e142, e96, e93, e92] ⟨t142, t96, t93, t92, trivial⟩ (by decide +kernel)
theorem t172 : EOk e172 := eok [e142, e144, e96, e7, e93, e92, e2, e1] ⟨t142, t144, t96, t7, t93, t92, t2, t1, trivial⟩ (by decide +kernel)
theorem t173 : EOk e173 := eok [e142, e144, e146, e96, e7, e9, e93, e92, e2, e1, e4, e3] ⟨t142, t144, t146, t96, t7, t9, t93, t92, t2, t1, t4, t3, trivial⟩ (by decide +kernel)
theorem t174 : EOk e174 := eok [e142, e144, e146, e148, e96, e7, e9, e15, e93, e92, e2, e1, e4, e3, e14, e13] ⟨t142, t144, t146, t148, t96, t7, t9, t15, t93, t92, t2, t1, t4, t3, t14, t13, trivial⟩ (by decide +kernel)
theorem t175 : EOk e175 := eok [e150, e152, e2, e1] ⟨t150, t152, t2, t1, trivial⟩ (by decide +kernel)
theorem t176 : EOk e176 := eok [e152, e150, e2, e1] ⟨t152, t150, t2, t1, trivial⟩ (by decide +kernel)
theorem t177 : EOk e177 := eok [e154, e96, e93, e92] ⟨t154, t96, t93, t92, trivial⟩ (by decide +kernel)
theorem t178 : EOk e178 := eok [e154, e156, e96, e7, e93, e92, e2, e1] ⟨t154, t156, t96, t7, t93, t92, t2, t1, trivial⟩ (by decide +kernel)
theorem t179 : EOk e179 := eok [e154, e156, e158, e96, e7, e9, e93, e92, e2, e1, e4, e3] ⟨t154, t156, t158, t96, t7, t9, t93, t92, t2, t1, t4, t3, trivial⟩ (by decide +kernel)
theorem t180 : EOk e180 := eok [e154, e156, e158, e160, e96, e7, e9, e15, e93, e92, e2, e1, e4, e3, e14, e13] ⟨t154, t156, t158, t160, t96, t7, t9, t15, t93, t92, t2, t1, t4, t3, t14, t13, trivial⟩ (by decide +kernel)
theorem t181 : EOk e181 := eok [e7, e156, e2, e1] ⟨t7, t156, t2, t1, trivial⟩ (by decide +kernel)
theorem t182 : EOk e182 := eok [e162, e156, e2, e1] ⟨t162, t156, t2, t1, trivial⟩ (by decide +kernel)
theorem t183 : EOk e183 := eok [e156, e7, e144, e2, e1] ⟨t156, t7, t144, t2, t1, trivial⟩ (by decide +kernel)
theorem t184 : EOk e184 := eok [e165, e9, e2, e4, e1, e3] ⟨t165, t9, t2, t4, t1, t3, trivial⟩ (by decide +kernel)
theorem t185 : EOk e185 := eok [e165, e7, e167, e2, e4, e1, e3] ⟨t165, t7, t167, t2, t4, t1, t3, trivial⟩ (by decide +kernel)
theorem t186 : EOk e186 := eok [e15, e165, e9, e7, e148, e14, e13, e2, e4, e1, e3] ⟨t15, t165, t9, t7, t148, t14, t13, t2, t4, t1, t3, trivial⟩ (by decide +kernel)
theorem t187 : EOk e187 := eok [e141, e32, e33, e34, e35, e36, e37, e38, e39, e40, e41, e42, e43, e44, e45, e47, e171, e172, e173, e174, e175, e176, e177, e178, e179, e180, e181, e182, e183, e184, e185, e186] ⟨t141, t32, t33, t34, t35, t36, t37, t38, t39, t40, t41, t42, t43, t44, t45, t47, t171, t172, t173, t174, t175, t176, t177, t178, t179, t180, t181, t182, t183, t184, t185, t186, trivial⟩ (by decide +kernel)
theorem t188 : EOk e188 := eok [] trivial (by decide +kernel)
theorem t189 : EOk e189 := eok [] trivial (by decide +kernel)
theorem t190 : EOk e190 := eok [] trivial (by decide +kernel)
theorem t191 : EOk e191 := eok [e189, e190] ⟨t189, t190, trivial⟩ (by decide +kernel)
theorem t192 : EOk e192 := eok [] trivial (by decide +kernel)
theorem t193 : EOk e193 := eok [e191, e192] ⟨t191, t192, trivial⟩ (by decide +kernel)
theorem t194 : EOk e194 := eok [e48, e193] ⟨t48, t193, trivial⟩ (by decide +kernel)
theorem t195 : EOk e195 := eok [] trivial (by decide +kernel)
theorem t196 : EOk e196 := eok [] trivial (by decide +kernel)
theorem t197 : EOk e197 := eok [e5, e191, e195, e196] ⟨t5, t191, t195, t196, trivial⟩ (by decide +kernel)
theorem t198 : EOk e198 := eok [e197] ⟨t197, trivial⟩ (by decide +kernel)
theorem t199 : EOk e199 := eok [e195, e196] ⟨t195, t196, trivial⟩ (by decide +kernel)
theorem t200 : EOk e200 := eok [e7, e191, e199] ⟨t7, t191, t199, trivial⟩ (by decide +kernel)
theorem t201 : EOk e201 := eok [e200] ⟨t200, trivial⟩ (by decide +kernel)
theorem t202 : EOk e202 := eok [e9, e191, e199] ⟨t9, t191, t199, trivial⟩ (by decide +kernel)
theorem t203 : EOk e203 := eok [e202] ⟨t202, trivial⟩ (by decide +kernel)
theorem t204 : EOk e204 := eok [e11, e191] ⟨t11, t191, trivial⟩ (by decide +kernel)
theorem t205 : EOk e205 := eok [e204] ⟨t204, trivial⟩ (by decide +kernel)
theorem t206 : EOk e206 := eok [e15, e191, e199] ⟨t15, t191, t199, trivial⟩ (by decide +kernel)
theorem t207 : EOk e207 := eok [e206] ⟨t206, trivial⟩ (by decide +kernel)
theorem t208 : EOk e208 := eok [e18, e191] ⟨t18, t191, trivial⟩ (by decide +kernel)
theorem t209 : EOk e209 := eok [e208] ⟨t208, trivial⟩ (by decide +kernel)
theorem t210 : EOk e210 := eok [e21, e191] ⟨t21, t191, trivial⟩ (by decide +kernel)
theorem t211 : EOk e211 := eok [e210] ⟨t210, trivial⟩ (by decide +kernel)
theorem t212 : EOk e212 := eok [e23, e191] ⟨t23, t191, trivial⟩ (by decide +kernel)
theorem t213 : EOk e213 := eok [e212] ⟨t212, trivial⟩ (by decide +kernel)
theorem t214 : EOk e214 := eok [e26, e191] ⟨t26, t191, trivial⟩ (by decide +kernel)
theorem t215 : EOk e215 := eok [e214] ⟨t214, trivial⟩ (by decide +kernel)
theorem t216 : EOk e216 := eok [e194, e198, e201, e203, e205, e207, e209, e211, e213, e215] ⟨t194, t198, t201, t203, t205, t207, t209, t211, t213, t215, trivial⟩ (by decide +kernel)
end Go.Lyc.T
