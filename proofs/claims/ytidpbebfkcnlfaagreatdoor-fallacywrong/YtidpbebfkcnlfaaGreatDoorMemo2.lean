/-
  Calls, run in the kernel. No conditions: each stands by itself.
-/
import Derived.Test.YtidpbebfkcnlfaaGreatDoorMemo1
set_option linter.all false
noncomputable section
namespace Go.Lyc.T
open Go.Lyc
variable [Tok] [TokOk]
set_option maxRecDepth 1000000
set_option maxHeartbeats 4000000
theorem t135:EOk e135:=ek0
theorem t136:EOk e136:=ek [e135] ⟨t135,trivial⟩
theorem t137:EOk e137:=ek0
theorem t138:EOk e138:=ek [e137] ⟨t137,trivial⟩
theorem t139:EOk e139:=ek0
theorem t140:EOk e140:=ek [e139] ⟨t139,trivial⟩
theorem t141:EOk e141:=ek0
theorem t142:EOk e142:=ek [e141] ⟨t141,trivial⟩
theorem t143:EOk e143:=ek0
theorem t144:EOk e144:=ek [e143] ⟨t143,trivial⟩
theorem t145:EOk e145:=ek0
theorem t146:EOk e146:=ek [e145] ⟨t145,trivial⟩
theorem t147:EOk e147:=ek0
theorem t148:EOk e148:=ek [e147] ⟨t147,trivial⟩
theorem t149:EOk e149:=ek0
theorem t150:EOk e150:=ek [e149] ⟨t149,trivial⟩
theorem t151:EOk e151:=ek0
theorem t152:EOk e152:=ek [e151] ⟨t151,trivial⟩
theorem t153:EOk e153:=ek0
theorem t154:EOk e154:=ek [e153] ⟨t153,trivial⟩
theorem t155:EOk e155:=ek0
theorem t156:EOk e156:=ek [e155] ⟨t155,trivial⟩
theorem t157:EOk e157:=ek0
theorem t158:EOk e158:=ek [e157] ⟨t157,trivial⟩
theorem t159:EOk e159:=ek [e13,e14,e4,e96,e98,e100,e102,e8,e6,e22,e2,e104,e106,e21,e108,e110,e112,e114,e116,e118,e120,e122,e124,e126,e128,e130,e132,e134,e136,e138,e140,e142,e144,e146,e148,e150,e152,e154,e156,e158] ⟨t13,t14,t4,t96,t98,t100,t102,t8,t6,t22,t2,t104,t106,t21,t108,t110,t112,t114,t116,t118,t120,t122,t124,t126,t128,t130,t132,t134,t136,t138,t140,t142,t144,t146,t148,t150,t152,t154,t156,t158,trivial⟩
theorem t160:EOk e160:=ek0
theorem t161:EOk e161:=ek0
theorem t162:EOk e162:=ek [e71,e12,e24,e5,e26,e3,e28,e160,e161] ⟨t71,t12,t24,t5,t26,t3,t28,t160,t161,trivial⟩
theorem t163:EOk e163:=ek0
theorem t164:EOk e164:=ek [e71,e12,e24,e15,e26,e97,e28] ⟨t71,t12,t24,t15,t26,t97,t28,trivial⟩
theorem t165:EOk e165:=ek [e71,e12,e26,e15,e24,e97,e28] ⟨t71,t12,t26,t15,t24,t97,t28,trivial⟩
theorem t166:EOk e166:=ek0
theorem t167:EOk e167:=ek0
theorem t168:EOk e168:=ek [e71,e7,e24,e3,e26,e97,e28] ⟨t71,t7,t24,t3,t26,t97,t28,trivial⟩
theorem t169:EOk e169:=ek [e71,e7,e26,e3,e24,e97,e28] ⟨t71,t7,t26,t3,t24,t97,t28,trivial⟩
theorem t170:EOk e170:=ek0
theorem t171:EOk e171:=ek0
theorem t172:EOk e172:=ek0
theorem t173:EOk e173:=ek0
theorem t174:EOk e174:=ek0
theorem t175:EOk e175:=ek0
theorem t176:EOk e176:=ek0
theorem t177:EOk e177:=ek0
theorem t178:EOk e178:=ek0
theorem t179:EOk e179:=ek0
theorem t180:EOk e180:=ek0
theorem t181:EOk e181:=ek0
theorem t182:EOk e182:=ek0
theorem t183:EOk e183:=ek0
theorem t184:EOk e184:=ek0
theorem t185:EOk e185:=ek0
theorem t186:EOk e186:=ek0
theorem t187:EOk e187:=ek0
theorem t188:EOk e188:=ek0
theorem t189:EOk e189:=ek0
theorem t190:EOk e190:=ek0
theorem t191:EOk e191:=ek0
theorem t192:EOk e192:=ek0
theorem t193:EOk e193:=ek0
theorem t194:EOk e194:=ek0
theorem t195:EOk e195:=ek0
theorem t196:EOk e196:=ek0
theorem t197:EOk e197:=ek0
theorem t198:EOk e198:=ek [e63,e65,e67,e69,e73,e75,e77,e79,e81,e83,e85,e87,e89,e91,e93,e95,e159,e48,e36,e35,e162,e53,e163,e164,e165,e166,e167,e41,e168,e169,e34,e170,e171,e59,e172,e173,e174,e175,e176,e177,e178,e179,e180,e181,e182,e183,e184,e185,e186,e187,e188,e189,e190,e191,e192,e193,e194,e195,e196,e197] ⟨t63,t65,t67,t69,t73,t75,t77,t79,t81,t83,t85,t87,t89,t91,t93,t95,t159,t48,t36,t35,t162,t53,t163,t164,t165,t166,t167,t41,t168,t169,t34,t170,t171,t59,t172,t173,t174,t175,t176,t177,t178,t179,t180,t181,t182,t183,t184,t185,t186,t187,t188,t189,t190,t191,t192,t193,t194,t195,t196,t197,trivial⟩
theorem t199:EOk e199:=ek0
theorem t200:EOk e200:=ek [e23,e25,e27,e29,e198,e199] ⟨t23,t25,t27,t29,t198,t199,trivial⟩
theorem t201:EOk e201:=ek [e71,e12,e26,e5,e24,e3,e28] ⟨t71,t12,t26,t5,t24,t3,t28,trivial⟩
theorem t202:EOk e202:=ek [e63,e65,e69,e67,e75,e73,e79,e77,e83,e81,e87,e85,e91,e89,e95,e93,e159,e48,e36,e35,e201,e162,e53,e163,e165,e164,e166,e167,e41,e169,e168,e34,e170,e171,e59,e172,e173,e174,e175,e176,e177,e178,e179,e180,e181,e182,e183,e184,e185,e186,e187,e188,e189,e190,e191,e192,e193,e194,e195,e196,e197] ⟨t63,t65,t69,t67,t75,t73,t79,t77,t83,t81,t87,t85,t91,t89,t95,t93,t159,t48,t36,t35,t201,t162,t53,t163,t165,t164,t166,t167,t41,t169,t168,t34,t170,t171,t59,t172,t173,t174,t175,t176,t177,t178,t179,t180,t181,t182,t183,t184,t185,t186,t187,t188,t189,t190,t191,t192,t193,t194,t195,t196,t197,trivial⟩
end Go.Lyc.T
