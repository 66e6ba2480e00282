/-
  Calls, run in the kernel. No conditions: each stands by itself.
-/
import Derived.Test.YtepnpmoabkhboaaGreatDoorMemo0
set_option linter.all false
noncomputable section
namespace Go.Lyc.T
open Go.Lyc
variable [Tok] [TokOk]
set_option maxRecDepth 1000000
set_option maxHeartbeats 4000000
theorem t95:aL uK:=bl [jK,wv,gv,mq,MV,iO] ⟨t32,t57,t29,t67,t92,t66,trivial⟩
theorem t96:aL uL:=bl [gv,wv,jK,iO,MV,mq] ⟨t29,t57,t32,t66,t92,t67,trivial⟩
theorem t97:aL wJ:=bl [gv,qd,ys,iO,Hx,MU] ⟨t29,t51,t49,t66,t86,t85,trivial⟩
theorem t98:aL TD:=bl [Tz,uz,wA,wB,wC,uA,uB,uC,wD,uD,uE,wE,uF,wF,uG,uH,wG,wH,sQ,uI,uJ,wI,uK,uL,wJ] ⟨t26,t68,t69,t70,t71,t72,t73,t75,t76,t77,t79,t80,t82,t83,t84,t87,t88,t89,t90,t91,t93,t94,t95,t96,t97,trivial⟩
theorem t99:aL TE:=bL
theorem t100:aL TF:=bl [TE,uu,wa,wb,mo,wc,qb,uv,wg,wh,wi,wj,uw,wk,wm,sP,wo,ux,wq,wu,uy,wy,wz] ⟨t99,t28,t31,t34,t30,t35,t33,t37,t39,t40,t42,t43,t45,t47,t48,t50,t53,t54,t55,t56,t58,t60,t61,trivial⟩
theorem t101:aL c2t:=bl [TF] ⟨t100,trivial⟩
theorem t102:aL c2u:=bl [TE,uz,wA,wB,wC,uA,uB,uC,wD,uD,uE,wE,uF,wF,uG,uH,wG,wH,sQ,uI,uJ,wI,uK,uL] ⟨t99,t68,t69,t70,t71,t72,t73,t75,t76,t77,t79,t80,t82,t83,t84,t87,t88,t89,t90,t91,t93,t94,t95,t96,trivial⟩
theorem t103:aL TG:=bL
theorem t104:aL Hy:=bL
theorem t105:aL TH:=bl [Hy] ⟨t104,trivial⟩
theorem t106:aL Hz:=bL
theorem t107:aL TI:=bl [Hz] ⟨t106,trivial⟩
theorem t108:aL a5B:=bl [TI] ⟨t107,trivial⟩
theorem t109:aL C3:=bL
theorem t110:aL TJ:=bl [C3] ⟨t109,trivial⟩
theorem t111:aL a5C:=bl [TH] ⟨t105,trivial⟩
theorem t112:aL C4:=bL
theorem t113:aL TK:=bl [C4] ⟨t112,trivial⟩
theorem t114:aL a5D:=bl [TJ] ⟨t110,trivial⟩
theorem t115:aL a5E:=bl [TK] ⟨t113,trivial⟩
theorem t116:aL a5F:=bl [TI,AS] ⟨t107,t41,trivial⟩
theorem t117:aL TL:=bl [TG,uu,wa,wb,mo,wc,qb,uv,wg,wh,wi,wj,uw,wk,wm,sP,wo,ux,wq,wu,uy,wy,wz,yt,TH,a5B,TJ,a5C,TK,a5D,a5E,a5F] ⟨t103,t28,t31,t34,t30,t35,t33,t37,t39,t40,t42,t43,t45,t47,t48,t50,t53,t54,t55,t56,t58,t60,t61,t62,t105,t108,t110,t111,t113,t114,t115,t116,trivial⟩
theorem t118:aL c2v:=bl [TL] ⟨t117,trivial⟩
theorem t119:aL TM:=bL
theorem t120:aL TN:=bL
theorem t121:aL TO:=bl [Hy,Hz,TM,TN] ⟨t104,t106,t119,t120,trivial⟩
theorem t122:aL a5G:=bL
theorem t123:aL a5H:=bL
theorem t124:aL TP:=bL
theorem t125:aL TQ:=bl [C3,Hy,TP,TM] ⟨t109,t104,t124,t119,trivial⟩
theorem t126:aL a5I:=bL
theorem t127:aL TR:=bL
theorem t128:aL TS:=bl [C4,C3,TR,TP] ⟨t112,t109,t127,t124,trivial⟩
theorem t129:aL a5J:=bL
theorem t130:aL TT:=bl [qc,C4,Hz,AU,TR,TN] ⟨t38,t112,t106,t78,t127,t120,trivial⟩
theorem t131:aL a5K:=bl [TG,uz,wA,wB,wC,uA,uB,uC,wD,uD,uE,wE,uF,wF,uG,uH,wG,wH,sQ,uI,uJ,wI,uK,uL,wJ,TO,a5G,a5H,TQ,a5I,TS,a5J,TT] ⟨t103,t68,t69,t70,t71,t72,t73,t75,t76,t77,t79,t80,t82,t83,t84,t87,t88,t89,t90,t91,t93,t94,t95,t96,t97,t121,t122,t123,t125,t126,t128,t129,t130,trivial⟩
theorem t132:aL wK:=bL
theorem t133:aL uM:=bL
theorem t134:aL HB:=bl [uM] ⟨t133,trivial⟩
theorem t135:aL oj:=bL
theorem t136:aL a5L:=bl [oj] ⟨t135,trivial⟩
theorem t137:aL C5:=bl [a5L] ⟨t136,trivial⟩
theorem t138:aL yu:=bL
theorem t139:aL a5M:=bl [yu] ⟨t138,trivial⟩
theorem t140:aL HC:=bl [a5M] ⟨t139,trivial⟩
theorem t141:aL MW:=bl [oj] ⟨t135,trivial⟩
end Go.Lyc.T
