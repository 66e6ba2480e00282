/-
  Calls, run in the kernel. No conditions: each stands by itself.
-/
import Derived.Test.YtdlohhnonefolaaGreatDoorMemo0
set_option linter.all false
noncomputable section
namespace Go.Lyc.T
open Go.Lyc
variable [Tok] [TokOk]
set_option maxRecDepth 1000000
set_option maxHeartbeats 4000000
theorem t122:EOk e122:=ek [e23,e11,e121,e1,e3,e113] ⟨t23,t11,t121,t1,t3,t113,trivial⟩
theorem t123:EOk e123:=ek0
theorem t124:EOk e124:=ek [e23,e17,e121,e1,e3,e114] ⟨t23,t17,t121,t1,t3,t114,trivial⟩
theorem t125:EOk e125:=ek [e27] ⟨t27,trivial⟩
theorem t126:EOk e126:=ek [e28,e23,e11,e17,e125,e26,e121,e1,e3,e113,e114] ⟨t28,t23,t11,t17,t125,t26,t121,t1,t3,t113,t114,trivial⟩
theorem t127:EOk e127:=ek0
theorem t128:EOk e128:=ek [e2,e4] ⟨t2,t4,trivial⟩
theorem t129:EOk e129:=ek [e45,e17,e11,e128,e1,e3,e114,e113] ⟨t45,t17,t11,t128,t1,t3,t114,t113,trivial⟩
theorem t130:EOk e130:=ek0
theorem t131:EOk e131:=ek [e17,e45,e11,e114,e3,e128,e1,e113] ⟨t17,t45,t11,t114,t3,t128,t1,t113,trivial⟩
theorem t132:EOk e132:=ek [e2] ⟨t2,trivial⟩
theorem t133:EOk e133:=ek0
theorem t134:EOk e134:=ek [e58,e65,e11,e132,e1,e133,e113] ⟨t58,t65,t11,t132,t1,t133,t113,trivial⟩
theorem t135:EOk e135:=ek0
theorem t136:EOk e136:=ek0
theorem t137:EOk e137:=ek [e65,e11,e58,e133,e113,e1,e132] ⟨t65,t11,t58,t133,t113,t1,t132,trivial⟩
theorem t138:EOk e138:=ek [e11,e65,e113,e1,e133] ⟨t11,t65,t113,t1,t133,trivial⟩
theorem t139:EOk e139:=ek [e2,e4] ⟨t2,t4,trivial⟩
theorem t140:EOk e140:=ek [e76,e17,e11,e139,e1,e3,e114,e113] ⟨t76,t17,t11,t139,t1,t3,t114,t113,trivial⟩
theorem t141:EOk e141:=ek0
theorem t142:EOk e142:=ek [e17,e76,e11,e114,e3,e139,e1,e113] ⟨t17,t76,t11,t114,t3,t139,t1,t113,trivial⟩
theorem t143:EOk e143:=ek [e11,e76,e17,e113,e1,e139,e3,e114] ⟨t11,t76,t17,t113,t1,t139,t3,t114,trivial⟩
theorem t144:EOk e144:=ek [e11,e65,e58,e113,e1,e133,e132] ⟨t11,t65,t58,t113,t1,t133,t132,trivial⟩
theorem t145:EOk e145:=ek [e0,e115,e116,e117,e118,e119,e120,e122,e123,e124,e126,e127,e129,e130,e131,e134,e135,e136,e137,e138,e140,e141,e142,e143,e144] ⟨t0,t115,t116,t117,t118,t119,t120,t122,t123,t124,t126,t127,t129,t130,t131,t134,t135,t136,t137,t138,t140,t141,t142,t143,t144,trivial⟩
theorem t146:EOk e146:=ek0
theorem t147:OOk e147:=ok2 [e146,e7,e8,e9,e10,e13,e14,e15,e16,e19,e20,e21,e22,e25,e30,e31,e32,e33,e34,e35,e36,e37,e38,e40,e41,e42,e43,e44,e47,e48,e49,e50,e51,e53,e54,e55,e56,e57,e60,e61,e62,e63,e64,e68,e69,e70,e71,e72,e73,e74,e75,e78,e79,e80,e81,e82,e84,e85,e86,e87] ⟨t146,t7,t8,t9,t10,t13,t14,t15,t16,t19,t20,t21,t22,t25,t30,t31,t32,t33,t34,t35,t36,t37,t38,t40,t41,t42,t43,t44,t47,t48,t49,t50,t51,t53,t54,t55,t56,t57,t60,t61,t62,t63,t64,t68,t69,t70,t71,t72,t73,t74,t75,t78,t79,t80,t81,t82,t84,t85,t86,t87,trivial⟩ [e6,e12,e18,e24,e29,e39,e46,e52,e59,e66,e67,e77,e83] ⟨t6,t12,t18,t24,t29,t39,t46,t52,t59,t66,t67,t77,t83,trivial⟩ [246,19,8,31,29,43,41,55,48,67,60,101,77,88,99,120,118,106,136,130,155,153,141,171,169,182,212,199,210,187,228,222,244,238]
theorem t148:EOk e148:=ek [e96,e98,e99,e101,e102,e103,e104,e105,e106,e107,e108,e109] ⟨t96,t98,t99,t101,t102,t103,t104,t105,t106,t107,t108,t109,trivial⟩
theorem t149:EOk e149:=ek [e146,e115,e116,e117,e118,e119,e120,e122,e123,e124,e126,e127,e129,e130,e131,e134,e135,e136,e137,e138,e140,e141,e142,e143] ⟨t146,t115,t116,t117,t118,t119,t120,t122,t123,t124,t126,t127,t129,t130,t131,t134,t135,t136,t137,t138,t140,t141,t142,t143,trivial⟩
theorem t150:EOk e150:=ek0
theorem t151:EOk e151:=ek0
theorem t152:EOk e152:=ek [e151,e1] ⟨t151,t1,trivial⟩
theorem t153:OOk e153:=ok2 [e151,e2,e1,e152] ⟨t151,t2,t1,t152,trivial⟩ [] trivial [73]
theorem t154:EOk e154:=ek0
theorem t155:EOk e155:=ek0
theorem t156:EOk e156:=ek0
theorem t157:EOk e157:=ek0
theorem t158:EOk e158:=ek0
theorem t159:EOk e159:=ek0
theorem t160:EOk e160:=ek0
theorem t161:EOk e161:=ek [e159,e160] ⟨t159,t160,trivial⟩
theorem t162:EOk e162:=ek0
theorem t163:EOk e163:=ek [e1,e151,e160,e162] ⟨t1,t151,t160,t162,trivial⟩
theorem t164:OOk e164:=ok2 [e2,e161,e151,e1,e160,e163] ⟨t2,t161,t151,t1,t160,t163,trivial⟩ [] trivial [108]
theorem t165:EOk e165:=ek0
theorem t166:EOk e166:=ek0
theorem t167:EOk e167:=ek [e165,e166] ⟨t165,t166,trivial⟩
theorem t168:EOk e168:=ek0
theorem t169:EOk e169:=ek [e1,e151,e166,e168] ⟨t1,t151,t166,t168,trivial⟩
theorem t170:OOk e170:=ok2 [e2,e167,e151,e1,e166,e169] ⟨t2,t167,t151,t1,t166,t169,trivial⟩ [] trivial [108]
theorem t171:EOk e171:=ek0
theorem t172:EOk e172:=ek0
theorem t173:EOk e173:=ek0
theorem t174:EOk e174:=ek0
theorem t175:EOk e175:=ek [e151,e1] ⟨t151,t1,trivial⟩
theorem t176:OOk e176:=ok2 [e151,e2,e1,e175] ⟨t151,t2,t1,t175,trivial⟩ [] trivial [73]
theorem t177:EOk e177:=ek0
theorem t178:EOk e178:=ek0
theorem t179:EOk e179:=ek0
theorem t180:EOk e180:=ek0
theorem t181:EOk e181:=ek0
theorem t182:EOk e182:=ek0
theorem t183:EOk e183:=ek0
theorem t184:EOk e184:=ek0
theorem t185:EOk e185:=ek0
theorem t186:EOk e186:=ek0
theorem t187:EOk e187:=ek0
theorem t188:EOk e188:=ek0
theorem t189:EOk e189:=ek0
theorem t190:EOk e190:=ek0
theorem t191:OOk e191:=ok2 [e150,e7,e8,e9,e10,e13,e14,e15,e16,e19,e20,e21,e22,e25,e30,e31,e32,e33,e34,e35,e36,e37,e38,e40,e41,e42,e43,e44,e47,e48,e49,e50,e51,e53,e54,e55,e56,e57,e60,e61,e62,e63,e64,e68,e69,e70,e71,e72,e73,e74,e75,e78,e79,e80,e81,e82,e84,e85,e86,e87,e88,e89,e90,e91,e92,e154,e155,e156,e157,e158,e171,e172,e173,e174,e177,e178,e179,e180,e181,e182,e183,e184,e185,e186,e187,e188,e189,e190] ⟨t150,t7,t8,t9,t10,t13,t14,t15,t16,t19,t20,t21,t22,t25,t30,t31,t32,t33,t34,t35,t36,t37,t38,t40,t41,t42,t43,t44,t47,t48,t49,t50,t51,t53,t54,t55,t56,t57,t60,t61,t62,t63,t64,t68,t69,t70,t71,t72,t73,t74,t75,t78,t79,t80,t81,t82,t84,t85,t86,t87,t88,t89,t90,t91,t92,t154,t155,t156,t157,t158,t171,t172,t173,t174,t177,t178,t179,t180,t181,t182,t183,t184,t185,t186,t187,t188,t189,t190,trivial⟩ [e6,e12,e18,e24,e29,e39,e46,e52,e59,e66,e67,e77,e83,e153,e164,e170,e176] ⟨t6,t12,t18,t24,t29,t39,t46,t52,t59,t66,t67,t77,t83,t153,t164,t170,t176,trivial⟩ [329,20,9,32,30,44,42,56,49,68,61,102,78,89,100,121,119,107,137,131,156,154,142,172,170,183,213,200,211,188,229,223,245,239,264,262,261,277,275,269,290,288,282,303,301,295,327,313,325,324]
theorem t192:EOk e192:=ek [e97] ⟨t97,trivial⟩
theorem t193:EOk e193:=ek [e97] ⟨t97,trivial⟩
theorem t194:EOk e194:=ek [e192,e193] ⟨t192,t193,trivial⟩
theorem t195:EOk e195:=ek [e194,e96] ⟨t194,t96,trivial⟩
theorem t196:EOk e196:=ek [e97,e103] ⟨t97,t103,trivial⟩
theorem t197:EOk e197:=ek [e97] ⟨t97,trivial⟩
theorem t198:EOk e198:=ek [e192,e197] ⟨t192,t197,trivial⟩
theorem t199:EOk e199:=ek [e198,e96] ⟨t198,t96,trivial⟩
theorem t200:EOk e200:=ek [e97,e103] ⟨t97,t103,trivial⟩
theorem t201:EOk e201:=ek [e195] ⟨t195,trivial⟩
theorem t202:EOk e202:=ek [e96,e98,e99,e101,e102,e103,e104,e105,e106,e107,e108,e109,e110,e195,e196,e199,e200,e201] ⟨t96,t98,t99,t101,t102,t103,t104,t105,t106,t107,t108,t109,t110,t195,t196,t199,t200,t201,trivial⟩
theorem t203:EOk e203:=ek [e2] ⟨t2,trivial⟩
theorem t204:EOk e204:=ek0
theorem t205:EOk e205:=ek [e2,e204,e161] ⟨t2,t204,t161,trivial⟩
end Go.Lyc.T
