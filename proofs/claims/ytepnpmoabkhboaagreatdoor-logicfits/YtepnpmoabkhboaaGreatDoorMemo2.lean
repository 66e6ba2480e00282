/-
  Calls, run in the kernel. No conditions: each stands by itself.
-/
import Derived.Test.YtepnpmoabkhboaaGreatDoorMemo1
set_option linter.all false
noncomputable section
namespace Go.Lyc.T
open Go.Lyc
variable [Tok] [TokOk]
set_option maxRecDepth 1000000
set_option maxHeartbeats 4000000
theorem t142:aL C6:=bl [mo,MW] ⟨t30,t141,trivial⟩
theorem t143:aL MX:=bL
theorem t144:aL a5N:=bl [MX] ⟨t143,trivial⟩
theorem t145:aL HD:=bl [a5N] ⟨t144,trivial⟩
theorem t146:aL C7:=bl [mo,MR,MW] ⟨t30,t46,t141,trivial⟩
theorem t147:aL TU:=bL
theorem t148:aL a5O:=bl [TU] ⟨t147,trivial⟩
theorem t149:aL HE:=bl [a5O] ⟨t148,trivial⟩
theorem t150:aL C8:=bl [mo,MR,AS,MW] ⟨t30,t46,t41,t141,trivial⟩
theorem t151:aL C9:=bL
theorem t152:aL C_:=bl [C9] ⟨t151,trivial⟩
theorem t153:aL HF:=bL
theorem t154:aL Da:=bl [HF] ⟨t153,trivial⟩
theorem t155:aL HG:=bl [Da] ⟨t154,trivial⟩
theorem t156:aL HH:=bl [C_] ⟨t152,trivial⟩
theorem t157:aL TV:=bl [wK,uu,wa,wb,mo,wc,qb,uv,wg,wh,wi,wj,uw,wk,wm,sP,wo,ux,wq,wu,uy,wy,wz,yt,HB,C5,HC,C6,HD,C7,HE,C8,C_,HG,Da,HH] ⟨t132,t28,t31,t34,t30,t35,t33,t37,t39,t40,t42,t43,t45,t47,t48,t50,t53,t54,t55,t56,t58,t60,t61,t62,t134,t137,t140,t142,t145,t146,t149,t150,t152,t155,t154,t156,trivial⟩
theorem t158:aL c2w:=bl [TV] ⟨t157,trivial⟩
theorem t159:aL HI:=bL
theorem t160:aL qe:=bL
theorem t161:aL Db:=bl [uM,oj,HI,qe] ⟨t133,t135,t159,t160,trivial⟩
theorem t162:aL HJ:=bL
theorem t163:aL Dc:=bL
theorem t164:aL Dd:=bL
theorem t165:aL De:=bl [uM,yu,oj,gv,HI,Dd,qe,iO] ⟨t133,t138,t135,t29,t159,t164,t160,t66,trivial⟩
theorem t166:aL HK:=bL
theorem t167:aL TW:=bL
theorem t168:aL Df:=bl [uM,yu,MX,oj,gv,jK,HI,Dd,TW,qe,iO,mq] ⟨t133,t138,t143,t135,t29,t32,t159,t164,t167,t160,t66,t67,trivial⟩
theorem t169:aL HL:=bL
theorem t170:aL a5P:=bL
theorem t171:aL Dg:=bl [uM,yu,MX,TU,oj,gv,jK,qc,HI,Dd,TW,a5P,qe,iO,mq,AU] ⟨t133,t138,t143,t147,t135,t29,t32,t38,t159,t164,t167,t170,t160,t66,t67,t78,trivial⟩
theorem t172:aL HM:=bL
theorem t173:aL MY:=bL
theorem t174:aL TX:=bL
theorem t175:aL Dh:=bl [C9,HF,MY,TX] ⟨t151,t153,t173,t174,trivial⟩
theorem t176:aL HN:=bL
theorem t177:aL HO:=bL
theorem t178:aL Di:=bl [HF,C9,TX,MY] ⟨t153,t151,t174,t173,trivial⟩
theorem t179:aL TY:=bl [wK,uz,wA,wB,wC,uA,uB,uC,wD,uD,uE,wE,uF,wF,uG,uH,wG,wH,sQ,uI,uJ,wI,uK,uL,wJ,Db,HJ,Dc,De,HK,Df,HL,Dg,HM,Dh,HN,HO,Di] ⟨t132,t68,t69,t70,t71,t72,t73,t75,t76,t77,t79,t80,t82,t83,t84,t87,t88,t89,t90,t91,t93,t94,t95,t96,t97,t161,t162,t163,t165,t166,t168,t169,t171,t172,t175,t176,t177,t178,trivial⟩
theorem t180:aL TZ:=bl [wK,uu,wa,wb,mo,wc,qb,uv,wg,wh,wi,wj,uw,wk,wm,sP,wo,ux,wq,wu,uy,wy,wz,yt,HB,C5,HC,C6,HD,C7,HE,C8,C_,HG,Da,HH] ⟨t132,t28,t31,t34,t30,t35,t33,t37,t39,t40,t42,t43,t45,t47,t48,t50,t53,t54,t55,t56,t58,t60,t61,t62,t134,t137,t140,t142,t145,t146,t149,t150,t152,t155,t154,t156,trivial⟩
theorem t181:aL c2x:=bl [TZ] ⟨t180,trivial⟩
theorem t182:aL HP:=bl [gv,yu,iO,Dd] ⟨t29,t138,t66,t164,trivial⟩
theorem t183:aL c2y:=bl [wK,uz,wA,wB,wC,uA,uB,uC,wD,uD,uE,wE,uF,wF,uG,uH,wG,wH,sQ,uI,uJ,wI,uK,uL,wJ,Db,HJ,Dc,De,HK,Df,HL,Dg,HM,Dh,HN,HO,Di,HP] ⟨t132,t68,t69,t70,t71,t72,t73,t75,t76,t77,t79,t80,t82,t83,t84,t87,t88,t89,t90,t91,t93,t94,t95,t96,t97,t161,t162,t163,t165,t166,t168,t169,t171,t172,t175,t176,t177,t178,t182,trivial⟩
theorem t184:aL MZ:=bL
theorem t185:aL T0:=bl [MZ] ⟨t184,trivial⟩
end Go.Lyc.T
