/-
  Calls, run in the kernel. No conditions: each stands by itself.
-/
import Derived.Test.YtnbkckejpekkaaaGreatDoorOemo0
set_option linter.all false
noncomputable section
namespace Go.Lyc.T
open Go.Lyc
set_option maxRecDepth 1000000
set_option maxHeartbeats 4000000
theorem t218 : EOk e218 := eok [e30] ⟨t30, trivial⟩ (by decide +kernel)
theorem t219 : EOk e219 := eok [e109, e122, e136, e149, e115, e11, e18, e31, e207, e107, e212, e1, e215, e3, e218, e29, e208, e175, e176, e187] ⟨t109, t122, t136, t149, t115, t11, t18, t31, t207, t107, t212, t1, t215, t3, t218, t29, t208, t175, t176, t187, trivial⟩ (by decide +kernel)
theorem t220 : EOk e220 := eok [] trivial (by decide +kernel)
theorem t221 : EOk e221 := eok [e2] ⟨t2, trivial⟩ (by decide +kernel)
theorem t222 : EOk e222 := eok [e2] ⟨t2, trivial⟩ (by decide +kernel)
theorem t223 : EOk e223 := eok [e158, e164, e221, e1, e222] ⟨t158, t164, t221, t1, t222, trivial⟩ (by decide +kernel)
theorem t224 : EOk e224 := eok [] trivial (by decide +kernel)
theorem t225 : EOk e225 := eok [] trivial (by decide +kernel)
theorem t226 : EOk e226 := eok [e164, e158, e222, e1, e221] ⟨t164, t158, t222, t1, t221, trivial⟩ (by decide +kernel)
theorem t227 : EOk e227 := eok [e11, e122, e175, e1, e212] ⟨t11, t122, t175, t1, t212, trivial⟩ (by decide +kernel)
theorem t228 : EOk e228 := eok [e0, e177, e178, e179, e180, e181, e182, e184, e185, e186, e188, e189, e191, e192, e193, e196, e197, e198, e199, e200, e202, e203, e204, e205, e206, e209, e210, e211, e213, e214, e216, e217, e219, e220, e223, e224, e225, e226, e227] ⟨t0, t177, t178, t179, t180, t181, t182, t184, t185, t186, t188, t189, t191, t192, t193, t196, t197, t198, t199, t200, t202, t203, t204, t205, t206, t209, t210, t211, t213, t214, t216, t217, t219, t220, t223, t224, t225, t226, t227, trivial⟩ (by decide +kernel)
theorem t229 : EOk e229 := eok [] trivial (by decide +kernel)
theorem t230 : EOk e230 := eok [e229] ⟨t229, trivial⟩ (by decide +kernel)
theorem t231 : EOk e231 := eok [e0, e177, e178, e179, e180, e181, e182, e184, e185, e186, e188, e189, e191, e192, e193, e196, e197, e198, e199, e200, e202, e203, e204, e205, e206, e209, e210, e211, e213, e214, e216, e217, e219, e220, e223, e224, e225, e226] ⟨t0, t177, t178, t179, t180, t181, t182, t184, t185, t186, t188, t189, t191, t192, t193, t196, t197, t198, t199, t200, t202, t203, t204, t205, t206, t209, t210, t211, t213, t214, t216, t217, t219, t220, t223, t224, t225, t226, trivial⟩ (by decide +kernel)
theorem t232 : EOk e232 := eok [e175, e212] ⟨t175, t212, trivial⟩ (by decide +kernel)
theorem t233 : EOk e233 := eok [] trivial (by decide +kernel)
theorem t234 : EOk e234 := eok [] trivial (by decide +kernel)
theorem t235 : EOk e235 := eok [] trivial (by decide +kernel)
theorem t236 : EOk e236 := eok [e232, e233, e234, e235] ⟨t232, t233, t234, t235, trivial⟩ (by decide +kernel)
theorem t237 : EOk e237 := eok [] trivial (by decide +kernel)
theorem t238 : EOk e238 := eok [] trivial (by decide +kernel)
theorem t239 : EOk e239 := eok [e232, e237, e238] ⟨t232, t237, t238, trivial⟩ (by decide +kernel)
theorem t240 : EOk e240 := eok [e1] ⟨t1, trivial⟩ (by decide +kernel)
theorem t241 : EOk e241 := eok [e2, e1, e240] ⟨t2, t1, t240, trivial⟩ (by decide +kernel)
theorem t242 : EOk e242 := eok [e0, e6, e7, e13, e14, e20, e12, e21, e25, e19, e27, e28, e32, e33, e37, e38, e44, e45, e50, e52, e53, e59, e60, e64, e65, e67, e68, e75, e76, e77, e81, e82, e86, e88, e89, e95, e96, e100, e101, e106, e110, e111, e117, e118, e124, e125, e131, e132, e138, e139, e144, e145, e151, e152, e157, e159, e160, e166, e165, e167, e171, e241] ⟨t0, t6, t7, t13, t14, t20, t12, t21, t25, t19, t27, t28, t32, t33, t37, t38, t44, t45, t50, t52, t53, t59, t60, t64, t65, t67, t68, t75, t76, t77, t81, t82, t86, t88, t89, t95, t96, t100, t101, t106, t110, t111, t117, t118, t124, t125, t131, t132, t138, t139, t144, t145, t151, t152, t157, t159, t160, t166, t165, t167, t171, t241, trivial⟩ (by decide +kernel)
theorem t243 : EOk e243 := eok [e2] ⟨t2, trivial⟩ (by decide +kernel)
theorem t244 : EOk e244 := eok [e240, e122, e243, e1, e212] ⟨t240, t122, t243, t1, t212, trivial⟩ (by decide +kernel)
theorem t245 : EOk e245 := eok [] trivial (by decide +kernel)
theorem t246 : EOk e246 := eok [e0, e177, e178, e179, e180, e181, e182, e184, e185, e186, e188, e189, e191, e192, e193, e196, e197, e198, e199, e200, e202, e203, e204, e205, e206, e209, e210, e211, e213, e214, e216, e217, e219, e220, e223, e224, e225, e226, e227, e244, e245] ⟨t0, t177, t178, t179, t180, t181, t182, t184, t185, t186, t188, t189, t191, t192, t193, t196, t197, t198, t199, t200, t202, t203, t204, t205, t206, t209, t210, t211, t213, t214, t216, t217, t219, t220, t223, t224, t225, t226, t227, t244, t245, trivial⟩ (by decide +kernel)
theorem t247 : EOk e247 := eok [e230] ⟨t230, trivial⟩ (by decide +kernel)
theorem t248 : EOk e248 := eok [e243, e212] ⟨t243, t212, trivial⟩ (by decide +kernel)
end Go.Lyc.T
