/-
  Calls, run in the kernel. No conditions: each stands by itself.
-/
import Derived.Test.YtmkiofbhnmaepaaGreatDoorMemo0
import Derived.Test.YtmkiofbhnmaepaaGreatDoorMemo1
import Derived.Test.YtmkiofbhnmaepaaGreatDoorMemo2
import Derived.Test.YtmkiofbhnmaepaaGreatDoorMemo3
import Derived.Test.YtmkiofbhnmaepaaGreatDoorMemo4
import Derived.Test.YtmkiofbhnmaepaaGreatDoorMemo5
set_option linter.all false
noncomputable section
namespace Go.Lyc.T
open Go.Lyc
variable [Tok] [TokOk]
set_option maxRecDepth 1000000
set_option maxHeartbeats 4000000
theorem t46:EOk oF:=aF [r7,qQ,qR,qS,qT,Ar,qU,tz,qV,vs,qW,vt,vu,vv,r8] ⟨t31,t32,t33,t34,t35,t36,t37,t38,t39,t40,t41,t42,t43,t44,t45,trivial⟩
theorem t51:EOk Qm:=aF [r7,a6L] ⟨t31,t50,trivial⟩
theorem t53:EOk Qn:=aF [r7,a6M] ⟨t31,t52,trivial⟩
theorem t55:EOk Qo:=aF [tz,a6N] ⟨t38,t54,trivial⟩
theorem t57:EOk Qp:=aF [tz,a6O] ⟨t38,t56,trivial⟩
theorem t59:EOk Qq:=aF [vs,a6P] ⟨t40,t58,trivial⟩
theorem t61:EOk Qr:=aF [vs,a6Q] ⟨t40,t60,trivial⟩
theorem t63:EOk Qs:=aF [vt,a6R] ⟨t42,t62,trivial⟩
theorem t65:EOk Qt:=aF [vt,a6S] ⟨t42,t64,trivial⟩
theorem t67:EOk Qu:=aF [vu,a6T] ⟨t43,t66,trivial⟩
theorem t69:EOk Qv:=aF [vu,a6U] ⟨t43,t68,trivial⟩
theorem t71:EOk Qw:=aF [vv,a6V] ⟨t44,t70,trivial⟩
theorem t73:EOk Qx:=aF [vv,a6W] ⟨t44,t72,trivial⟩
theorem t106:ey fC:=eH [] trivial [Qe,Qf,aY,a6X,a6Y,a6Z,a7a,wH,lI,Qh,eG,a7b,a7c,Qg,a7d,a7e,a7f,a7g,a7h,Qy,Qz,QA,a7i,a7j,a7k,a7l,a7m,a7n,a7o,QB,QC,QD,QE,a7p,a7q,a7r,a7s,a7t,a7u,a7v] ⟨t12,t14,t2,t74,t75,t76,t77,t6,t4,t24,t0,t78,t79,t22,t80,t81,t82,t83,t84,t85,t86,t87,t88,t89,t90,t91,t92,t93,t94,t95,t96,t97,t98,t99,t100,t101,t102,t103,t104,t105,trivial⟩ [402,12,6,27,20,24,28,39,36,40,51,48,52,53,54,65,62,76,73,90,84,91,101,102,114,110,111,115,116,117,128,125,129,142,137,138,139,143,155,151,152,156,157,158,170,166,167,177,178,190,186,187,201,198,202,213,210,214,226,222,223,227,228,243,236,240,244,245,257,253,254,258,259,260,272,268,269,273,274,284,285,296,293,297,308,305,319,316,320,321,332,329,333,334,346,342,343,347,348,349,364,357,361,365,366,376,377,388,385,389,400,397]
theorem t123:EOk a7G:=aF [r7,a7F] ⟨t31,t122,trivial⟩
theorem t125:EOk a7I:=aF [r7,a7H] ⟨t31,t124,trivial⟩
theorem t127:EOk a7K:=aF [tz,a7J] ⟨t38,t126,trivial⟩
theorem t137:EOk a7T:=aF [qQ,a7S] ⟨t32,t136,trivial⟩
theorem t139:EOk a7V:=aF [qR,a7U] ⟨t33,t138,trivial⟩
theorem t141:EOk a7X:=aF [qS,a7W] ⟨t34,t140,trivial⟩
theorem t143:EOk a7Z:=aF [qT,a7Y] ⟨t35,t142,trivial⟩
theorem t145:EOk a8b:=aF [qU,a8a] ⟨t37,t144,trivial⟩
theorem t147:EOk a8d:=aF [qV,a8c] ⟨t39,t146,trivial⟩
theorem t149:EOk a8e:=aF [qW,QL] ⟨t41,t148,trivial⟩
theorem t150:EOk a8f:=aF [r8,QL] ⟨t45,t148,trivial⟩
theorem t163:EOk I9:=aF [r7,qQ,qR,qS,qT,Ar,qU,tz,qV,vs,qW,vt,vu,vv] ⟨t31,t32,t33,t34,t35,t36,t37,t38,t39,t40,t41,t42,t43,t44,trivial⟩
theorem t167:EOk QN:=aF [qQ,a8t] ⟨t32,t166,trivial⟩
theorem t169:EOk QO:=aF [qR,a8u] ⟨t33,t168,trivial⟩
theorem t171:EOk QP:=aF [qS,a8v] ⟨t34,t170,trivial⟩
theorem t173:EOk QQ:=aF [qT,a8w] ⟨t35,t172,trivial⟩
theorem t175:EOk QR:=aF [qU,a8x] ⟨t37,t174,trivial⟩
theorem t177:EOk QS:=aF [qV,a8y] ⟨t39,t176,trivial⟩
theorem t179:EOk QU:=aF [qW,QT] ⟨t41,t178,trivial⟩
theorem t195:EOk a8H:=aF [r8,QT] ⟨t45,t178,trivial⟩
theorem t211:EOk I_:=aF [r7,qQ,qR,qS,qT,Ar,qU,tz,qV,vs,qW,vt,vu,vv,r8,Q2,Q3,Q4,a8T] ⟨t31,t32,t33,t34,t35,t36,t37,t38,t39,t40,t41,t42,t43,t44,t45,t207,t208,t209,t210,trivial⟩
theorem t215:EOk a8X:=aF [qQ,a8W] ⟨t32,t214,trivial⟩
theorem t217:EOk a8Z:=aF [qR,a8Y] ⟨t33,t216,trivial⟩
theorem t219:EOk a9b:=aF [qS,a9a] ⟨t34,t218,trivial⟩
theorem t223:EOk a9f:=aF [qU,a9e] ⟨t37,t222,trivial⟩
theorem t225:EOk a9h:=aF [qV,a9g] ⟨t39,t224,trivial⟩
theorem t228:EOk a9j:=aF [r8,Q5] ⟨t45,t226,trivial⟩
theorem t230:EOk a9l:=aF [Q2,a9k] ⟨t207,t229,trivial⟩
theorem t273:EOk Ja:=aF [r7,qQ,qR,qS,qT,Ar,qU,tz,qV,vs,qW,vt,vu,vv,r8,DT,Rf,Rg,Rh,DU,DV] ⟨t31,t32,t33,t34,t35,t36,t37,t38,t39,t40,t41,t42,t43,t44,t45,t267,t268,t269,t270,t271,t272,trivial⟩
theorem t320:EOk Jb:=aF [r7,qQ,qR,qS,qT,Ar,qU,tz,qV,vs,qW,vt,vu,vv,r8,DT,Rf,Rg,Rh,DU,DV,Rj,b0D,b0E] ⟨t31,t32,t33,t34,t35,t36,t37,t38,t39,t40,t41,t42,t43,t44,t45,t267,t268,t269,t270,t271,t272,t317,t318,t319,trivial⟩
theorem t387:EOk gG:=aF [b1f,b1g,b1h,b1i,b1j,b1k,b1l,b1m,b1n,b1o,b1p,b1q,b1r,b1s,b1t,b1u,b1v,b1w,b1x,b1y,b1z,b1A,b1B,b1C,b1D,b1E,b1F,b1G,b1H,b1I,b1J,b1K,b1L,b1M,b1N,b1O,b1P,b1Q] ⟨t349,t350,t351,t352,t353,t354,t355,t356,t357,t358,t359,t360,t361,t362,t363,t364,t365,t366,t367,t368,t369,t370,t371,t372,t373,t374,t375,t376,t377,t378,t379,t380,t381,t382,t383,t384,t385,t386,trivial⟩
end Go.Lyc.T
