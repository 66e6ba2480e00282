/-
  Calls, run in the kernel. No conditions: each stands by itself.
-/
import Derived.Test.YtepnpmoabkhboaaGreatDoorMemo2
set_option linter.all false
noncomputable section
namespace Go.Lyc.T
open Go.Lyc
variable [Tok] [TokOk]
set_option maxRecDepth 1000000
set_option maxHeartbeats 4000000
theorem t186:aL T1:=bl [wK,uu,wa,wb,mo,wc,qb,uv,wg,wh,wi,wj,uw,wk,wm,sP,wo,ux,wq,wu,uy,wy,wz,yt,HB,C5,HC,C6,HD,C7,HE,C8,C_,HG,Da,HH,T0] ⟨t132,t28,t31,t34,t30,t35,t33,t37,t39,t40,t42,t43,t45,t47,t48,t50,t53,t54,t55,t56,t58,t60,t61,t62,t134,t137,t140,t142,t145,t146,t149,t150,t152,t155,t154,t156,t185,trivial⟩
theorem t187:aL c2z:=bl [T1] ⟨t186,trivial⟩
theorem t188:aL a5Q:=bL
theorem t189:aL M0:=bl [MZ,yu,a5Q,Dd] ⟨t184,t138,t188,t164,trivial⟩
theorem t190:aL T2:=bL
theorem t191:aL c2A:=bl [wK,uz,wA,wB,wC,uA,uB,uC,wD,uD,uE,wE,uF,wF,uG,uH,wG,wH,sQ,uI,uJ,wI,uK,uL,wJ,Db,HJ,Dc,De,HK,Df,HL,Dg,HM,Dh,HN,HO,Di,HP,M0,T2] ⟨t132,t68,t69,t70,t71,t72,t73,t75,t76,t77,t79,t80,t82,t83,t84,t87,t88,t89,t90,t91,t93,t94,t95,t96,t97,t161,t162,t163,t165,t166,t168,t169,t171,t172,t175,t176,t177,t178,t182,t189,t190,trivial⟩
theorem t192:aL M1:=bL
theorem t193:aL a5R:=bl [M1] ⟨t192,trivial⟩
theorem t194:aL T3:=bl [wK,uu,wa,wb,mo,wc,qb,uv,wg,wh,wi,wj,uw,wk,wm,sP,wo,ux,wq,wu,uy,wy,wz,yt,HB,C5,HC,C6,HD,C7,HE,C8,C_,HG,Da,HH,T0,a5R] ⟨t132,t28,t31,t34,t30,t35,t33,t37,t39,t40,t42,t43,t45,t47,t48,t50,t53,t54,t55,t56,t58,t60,t61,t62,t134,t137,t140,t142,t145,t146,t149,t150,t152,t155,t154,t156,t185,t193,trivial⟩
theorem t195:aL c2B:=bl [T3] ⟨t194,trivial⟩
theorem t196:aL a5S:=bL
theorem t197:aL T4:=bl [M1,C9,a5S,MY] ⟨t192,t151,t196,t173,trivial⟩
theorem t198:aL a5T:=bL
theorem t199:aL c2C:=bl [wK,uz,wA,wB,wC,uA,uB,uC,wD,uD,uE,wE,uF,wF,uG,uH,wG,wH,sQ,uI,uJ,wI,uK,uL,wJ,Db,HJ,Dc,De,HK,Df,HL,Dg,HM,Dh,HN,HO,Di,HP,M0,T2,T4,a5T] ⟨t132,t68,t69,t70,t71,t72,t73,t75,t76,t77,t79,t80,t82,t83,t84,t87,t88,t89,t90,t91,t93,t94,t95,t96,t97,t161,t162,t163,t165,t166,t168,t169,t171,t172,t175,t176,t177,t178,t182,t189,t190,t197,t198,trivial⟩
theorem t200:aL T5:=bL
theorem t201:aL uN:=bL
theorem t202:aL a5U:=bl [uN] ⟨t201,trivial⟩
theorem t203:aL AW:=bL
theorem t204:aL a5V:=bl [AW] ⟨t203,trivial⟩
theorem t205:aL a5W:=bl [a5V] ⟨t204,trivial⟩
theorem t206:aL M3:=bL
theorem t207:aL a5X:=bl [M3] ⟨t206,trivial⟩
theorem t208:aL a5Y:=bl [a5X] ⟨t207,trivial⟩
theorem t209:aL HQ:=bL
theorem t210:aL a5Z:=bl [HQ] ⟨t209,trivial⟩
theorem t211:aL a6a:=bl [a5Z] ⟨t210,trivial⟩
theorem t212:aL HR:=bL
theorem t213:aL T6:=bl [HR] ⟨t212,trivial⟩
theorem t214:aL HS:=bL
theorem t215:aL T7:=bl [HS] ⟨t214,trivial⟩
theorem t216:aL a6b:=bl [T7] ⟨t215,trivial⟩
theorem t217:aL a6c:=bl [T6] ⟨t213,trivial⟩
theorem t218:aL uO:=bL
theorem t219:aL a6d:=bl [uO] ⟨t218,trivial⟩
end Go.Lyc.T
