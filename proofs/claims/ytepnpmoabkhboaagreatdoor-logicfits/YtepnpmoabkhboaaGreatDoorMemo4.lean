/-
  Calls, run in the kernel. No conditions: each stands by itself.
-/
import Derived.Test.YtepnpmoabkhboaaGreatDoorMemo3
set_option linter.all false
noncomputable section
namespace Go.Lyc.T
open Go.Lyc
variable [Tok] [TokOk]
set_option maxRecDepth 1000000
set_option maxHeartbeats 4000000
theorem t220:aL uP:=bL
theorem t221:aL T8:=bl [uP] ⟨t220,trivial⟩
theorem t222:aL a6e:=bl [T8] ⟨t221,trivial⟩
theorem t223:aL M4:=bL
theorem t224:aL a6f:=bl [M4] ⟨t223,trivial⟩
theorem t225:aL a6g:=bl [a6f] ⟨t224,trivial⟩
theorem t226:aL T9:=bL
theorem t227:aL a6h:=bl [T9] ⟨t226,trivial⟩
theorem t228:aL a6i:=bl [a6h] ⟨t227,trivial⟩
theorem t229:aL M5:=bL
theorem t230:aL a6j:=bl [M5] ⟨t229,trivial⟩
theorem t231:aL a6k:=bl [AW] ⟨t203,trivial⟩
theorem t232:aL a6l:=bl [mo,a6k] ⟨t30,t231,trivial⟩
theorem t233:aL yv:=bL
theorem t234:aL T_:=bl [yv] ⟨t233,trivial⟩
theorem t235:aL Ua:=bL
theorem t236:aL a6m:=bl [Ua] ⟨t235,trivial⟩
theorem t237:aL a6n:=bl [a6m] ⟨t236,trivial⟩
theorem t238:aL a6o:=bl [T_] ⟨t234,trivial⟩
theorem t239:aL a6p:=bl [qb,AS] ⟨t33,t41,trivial⟩
theorem t240:aL a6q:=bl [HQ] ⟨t209,trivial⟩
theorem t241:aL a6r:=bl [mo,a6q,AS] ⟨t30,t240,t41,trivial⟩
theorem t242:aL Ub:=bl [T5,uu,wa,wb,mo,wc,qb,uv,wg,wh,wi,wj,uw,wk,wm,sP,wo,ux,wq,wu,uy,wy,wz,yt,a5U,C5,a5W,C6,a5Y,C7,a6a,C8,T6,a6b,T7,a6c,a6d,a6e,a6g,a6i,a6j,T8,a6l,T_,a6n,a6o,a6p,a6r] ⟨t200,t28,t31,t34,t30,t35,t33,t37,t39,t40,t42,t43,t45,t47,t48,t50,t53,t54,t55,t56,t58,t60,t61,t62,t202,t137,t205,t142,t208,t146,t211,t150,t213,t216,t215,t217,t219,t222,t225,t228,t230,t221,t232,t234,t237,t238,t239,t241,trivial⟩
theorem t243:aL c2D:=bl [Ub] ⟨t242,trivial⟩
theorem t244:aL HT:=bL
theorem t245:aL Uc:=bl [uN,oj,HT,qe] ⟨t201,t135,t244,t160,trivial⟩
theorem t246:aL a6s:=bL
theorem t247:aL HU:=bL
theorem t248:aL Ud:=bl [uN,AW,oj,gv,HT,HU,qe,iO] ⟨t201,t203,t135,t29,t244,t247,t160,t66,trivial⟩
theorem t249:aL a6t:=bL
theorem t250:aL Ue:=bL
theorem t251:aL Uf:=bl [uN,AW,M3,oj,gv,jK,HT,HU,Ue,qe,iO,mq] ⟨t201,t203,t206,t135,t29,t32,t244,t247,t250,t160,t66,t67,trivial⟩
theorem t252:aL a6u:=bL
theorem t253:aL Ug:=bL
theorem t254:aL Uh:=bl [uN,AW,M3,HQ,oj,gv,jK,qc,HT,HU,Ue,Ug,qe,iO,mq,AU] ⟨t201,t203,t206,t209,t135,t29,t32,t38,t244,t247,t250,t253,t160,t66,t67,t78,trivial⟩
end Go.Lyc.T
