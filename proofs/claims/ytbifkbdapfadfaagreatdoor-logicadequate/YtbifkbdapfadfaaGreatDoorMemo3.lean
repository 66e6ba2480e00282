/-
  Calls, run in the kernel. No conditions: each stands by itself.
-/
import Derived.Test.YtbifkbdapfadfaaGreatDoorMemo2
set_option linter.all false
noncomputable section
namespace Go.Lyc.T
open Go.Lyc
set_option maxRecDepth 1000000
set_option maxHeartbeats 4000000
theorem t450 : EOk e450 := eok [e363, e121, e122, e123, e124, e125, e126, e128, e129, e130, e132, e133, e135, e136, e137, e140, e141, e142, e143, e144, e146, e147, e148, e149, e150, e432, e433, e434, e436, e437, e439, e440, e442, e443, e446, e447, e448, e449] ⟨t363, t121, t122, t123, t124, t125, t126, t128, t129, t130, t132, t133, t135, t136, t137, t140, t141, t142, t143, t144, t146, t147, t148, t149, t150, t432, t433, t434, t436, t437, t439, t440, t442, t443, t446, t447, t448, t449, trivial⟩ (by decide +kernel)
theorem t496 : EOk e496 := eok [e430, e431] ⟨t430, t431, trivial⟩ (by decide +kernel)
theorem t499 : EOk e499 := eok [e430, e435, e431, e119] ⟨t430, t435, t431, t119, trivial⟩ (by decide +kernel)
theorem t502 : EOk e502 := eok [e430, e435, e438, e431, e119, e120] ⟨t430, t435, t438, t431, t119, t120, trivial⟩ (by decide +kernel)
theorem t505 : EOk e505 := eok [e430, e435, e438, e441, e431, e119, e120, e131] ⟨t430, t435, t438, t441, t431, t119, t120, t131, trivial⟩ (by decide +kernel)
theorem t508 : EOk e508 := eok [e444, e445] ⟨t444, t445, trivial⟩ (by decide +kernel)
theorem t512 : EOk e512 := eok [e445, e444] ⟨t445, t444, trivial⟩ (by decide +kernel)
theorem t516 : EOk e516 := eok [e363, e16, e17, e23, e24, e30, e22, e31, e35, e29, e37, e38, e42, e43, e47, e48, e54, e55, e60, e62, e63, e69, e70, e74, e75, e77, e78, e85, e86, e87, e91, e92, e96, e98, e99, e105, e106, e110, e111, e116, e367, e368, e374, e375, e381, e382, e388, e389, e395, e396, e401, e402, e408, e409, e414, e416, e417, e423, e422, e424, e428] ⟨t363, t16, t17, t23, t24, t30, t22, t31, t35, t29, t37, t38, t42, t43, t47, t48, t54, t55, t60, t62, t63, t69, t70, t74, t75, t77, t78, t85, t86, t87, t91, t92, t96, t98, t99, t105, t106, t110, t111, t116, t367, t368, t374, t375, t381, t382, t388, t389, t395, t396, t401, t402, t408, t409, t414, t416, t417, t423, t422, t424, t428, trivial⟩ (by decide +kernel)
theorem t517 : EOk e517 := eok [e21, e379, e119, e11, e435] ⟨t21, t379, t119, t11, t435, trivial⟩ (by decide +kernel)
theorem t518 : EOk e518 := eok [e363, e121, e122, e123, e124, e125, e126, e128, e129, e130, e132, e133, e135, e136, e137, e140, e141, e142, e143, e144, e146, e147, e148, e149, e150, e432, e433, e434, e436, e437, e439, e440, e442, e443, e446, e447, e448, e449, e517] ⟨t363, t121, t122, t123, t124, t125, t126, t128, t129, t130, t132, t133, t135, t136, t137, t140, t141, t142, t143, t144, t146, t147, t148, t149, t150, t432, t433, t434, t436, t437, t439, t440, t442, t443, t446, t447, t448, t449, t517, trivial⟩ (by decide +kernel)
theorem t578 : EOk e578 := eok [e119, e435] ⟨t119, t435, trivial⟩ (by decide +kernel)
theorem t582 : EOk e582 := eok [e11] ⟨t11, trivial⟩ (by decide +kernel)
theorem t583 : EOk e583 := eok [e12, e11, e582] ⟨t12, t11, t582, trivial⟩ (by decide +kernel)
theorem t584 : EOk e584 := eok [e363, e16, e17, e23, e24, e30, e22, e31, e35, e29, e37, e38, e42, e43, e47, e48, e54, e55, e60, e62, e63, e69, e70, e74, e75, e77, e78, e85, e86, e87, e91, e92, e96, e98, e99, e105, e106, e110, e111, e116, e367, e368, e374, e375, e381, e382, e388, e389, e395, e396, e401, e402, e408, e409, e414, e416, e417, e423, e422, e424, e428, e583] ⟨t363, t16, t17, t23, t24, t30, t22, t31, t35, t29, t37, t38, t42, t43, t47, t48, t54, t55, t60, t62, t63, t69, t70, t74, t75, t77, t78, t85, t86, t87, t91, t92, t96, t98, t99, t105, t106, t110, t111, t116, t367, t368, t374, t375, t381, t382, t388, t389, t395, t396, t401, t402, t408, t409, t414, t416, t417, t423, t422, t424, t428, t583, trivial⟩ (by decide +kernel)
theorem t585 : EOk e585 := eok [e12] ⟨t12, trivial⟩ (by decide +kernel)
theorem t586 : EOk e586 := eok [e582, e379, e585, e11, e435] ⟨t582, t379, t585, t11, t435, trivial⟩ (by decide +kernel)
theorem t587 : EOk e587 := eok [] trivial (by decide +kernel)
theorem t588 : EOk e588 := eok [e363, e121, e122, e123, e124, e125, e126, e128, e129, e130, e132, e133, e135, e136, e137, e140, e141, e142, e143, e144, e146, e147, e148, e149, e150, e432, e433, e434, e436, e437, e439, e440, e442, e443, e446, e447, e448, e449, e517, e586, e587] ⟨t363, t121, t122, t123, t124, t125, t126, t128, t129, t130, t132, t133, t135, t136, t137, t140, t141, t142, t143, t144, t146, t147, t148, t149, t150, t432, t433, t434, t436, t437, t439, t440, t442, t443, t446, t447, t448, t449, t517, t586, t587, trivial⟩ (by decide +kernel)
end Go.Lyc.T
