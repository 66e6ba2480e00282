/-
  Calls, run in the kernel. No conditions: each stands by itself.
-/
import Derived.Test.YtepnpmoabkhboaaGreatDoorMemo4
set_option linter.all false
noncomputable section
namespace Go.Lyc.T
open Go.Lyc
variable [Tok] [TokOk]
set_option maxRecDepth 1000000
set_option maxHeartbeats 4000000
theorem t255:aL a6v:=bL
theorem t256:aL Ui:=bL
theorem t257:aL Uj:=bL
theorem t258:aL Uk:=bl [HR,HS,Ui,Uj] ⟨t212,t214,t256,t257,trivial⟩
theorem t259:aL a6w:=bL
theorem t260:aL a6x:=bL
theorem t261:aL Ul:=bl [HS,HR,Uj,Ui] ⟨t214,t212,t257,t256,trivial⟩
theorem t262:aL HV:=bL
theorem t263:aL Um:=bl [uO,oj,HV,qe] ⟨t218,t135,t262,t160,trivial⟩
theorem t264:aL a6y:=bL
theorem t265:aL AX:=bL
theorem t266:aL Un:=bl [uO,uP,oj,gv,HV,AX,qe,iO] ⟨t218,t220,t135,t29,t262,t265,t160,t66,trivial⟩
theorem t267:aL a6z:=bL
theorem t268:aL Uo:=bL
theorem t269:aL Up:=bl [uO,uP,M4,oj,gv,jK,HV,AX,Uo,qe,iO,mq] ⟨t218,t220,t223,t135,t29,t32,t262,t265,t268,t160,t66,t67,trivial⟩
theorem t270:aL a6A:=bL
theorem t271:aL a6B:=bL
theorem t272:aL Uq:=bl [uO,uP,M4,T9,oj,gv,jK,qc,HV,AX,Uo,a6B,qe,iO,mq,AU] ⟨t218,t220,t223,t226,t135,t29,t32,t38,t262,t265,t268,t271,t160,t66,t67,t78,trivial⟩
theorem t273:aL a6C:=bL
theorem t274:aL Ur:=bl [gv,uP,iO,AX] ⟨t29,t220,t66,t265,trivial⟩
theorem t275:aL a6D:=bL
theorem t276:aL Us:=bl [M5,uP,a6D,AX] ⟨t229,t220,t275,t265,trivial⟩
theorem t277:aL a6E:=bL
theorem t278:aL Ut:=bl [uP,gv,AW,AX,iO,HU] ⟨t220,t29,t203,t265,t66,t247,trivial⟩
theorem t279:aL M6:=bL
theorem t280:aL Uu:=bl [yv,jK,M6,mq] ⟨t233,t32,t279,t67,trivial⟩
theorem t281:aL a6F:=bL
theorem t282:aL a6G:=bL
theorem t283:aL Uv:=bl [yv,gv,Ua,M6,iO,a6G] ⟨t233,t29,t235,t279,t66,t282,trivial⟩
theorem t284:aL a6H:=bL
theorem t285:aL Uw:=bl [qc,yv,jK,gv,HQ,AU,M6,mq,iO,Ug] ⟨t38,t233,t32,t29,t209,t78,t279,t67,t66,t253,trivial⟩
theorem t286:aL c2E:=bl [T5,uz,wA,wB,wC,uA,uB,uC,wD,uD,uE,wE,uF,wF,uG,uH,wG,wH,sQ,uI,uJ,wI,uK,uL,wJ,Uc,a6s,Dc,Ud,a6t,Uf,a6u,Uh,a6v,Uk,a6w,a6x,Ul,Um,a6y,Un,a6z,Up,a6A,Uq,a6C,Ur,Us,a6E,Ut,Uu,a6F,Uv,a6H,Uw] ⟨t200,t68,t69,t70,t71,t72,t73,t75,t76,t77,t79,t80,t82,t83,t84,t87,t88,t89,t90,t91,t93,t94,t95,t96,t97,t245,t246,t163,t248,t249,t251,t252,t254,t255,t258,t259,t260,t261,t263,t264,t266,t267,t269,t270,t272,t273,t274,t276,t277,t278,t280,t281,t283,t284,t285,trivial⟩
theorem t287:aL sR:=bL
theorem t288:aL a6I:=bL
theorem t289:aL a6J:=bl [sR,a6I] ⟨t287,t288,trivial⟩
theorem t290:aL a6K:=bl [TD,a6J] ⟨t98,t289,trivial⟩
theorem t291:aL a6L:=bl [v_,sR] ⟨t27,t287,trivial⟩
theorem t292:aL a6M:=bl [a6L] ⟨t291,trivial⟩
theorem t293:aL a6N:=bl [gv,sR] ⟨t29,t287,trivial⟩
theorem t294:aL a6O:=bl [a6N] ⟨t293,trivial⟩
theorem t295:aL a6P:=bl [jK,sR] ⟨t32,t287,trivial⟩
theorem t296:aL a6Q:=bl [a6P] ⟨t295,trivial⟩
theorem t297:aL a6R:=bl [we,sR] ⟨t36,t287,trivial⟩
theorem t298:aL a6S:=bl [a6R] ⟨t297,trivial⟩
theorem t299:aL a6T:=bl [qc,sR] ⟨t38,t287,trivial⟩
theorem t300:aL a6U:=bl [a6T] ⟨t299,trivial⟩
theorem t301:aL a6V:=bl [AT,sR] ⟨t44,t287,trivial⟩
theorem t302:aL a6W:=bl [a6V] ⟨t301,trivial⟩
theorem t303:aL a6X:=bl [ys,sR] ⟨t49,t287,trivial⟩
theorem t304:aL a6Y:=bl [a6X] ⟨t303,trivial⟩
theorem t305:aL a6Z:=bl [qd,sR] ⟨t51,t287,trivial⟩
theorem t306:aL a7a:=bl [a6Z] ⟨t305,trivial⟩
theorem t307:aL a7b:=bl [wv,sR] ⟨t57,t287,trivial⟩
theorem t308:aL a7c:=bl [a7b] ⟨t307,trivial⟩
theorem t309:aL a7d:=bl [a6K,a6M,a6O,a6Q,a6S,a6U,a6W,a6Y,a7a,a7c] ⟨t290,t292,t294,t296,t298,t300,t302,t304,t306,t308,trivial⟩
theorem t310:aL Ux:=bL
theorem t311:aL Uy:=bL
theorem t312:aL a7e:=bl [Ux,Uy] ⟨t310,t311,trivial⟩
theorem t313:aL a7f:=bl [TY,a7e] ⟨t179,t312,trivial⟩
theorem t314:aL a7g:=bl [Ux,Uy] ⟨t310,t311,trivial⟩
theorem t315:aL a7h:=bl [TD,a7g] ⟨t98,t314,trivial⟩
theorem t316:aL Uz:=bL
theorem t317:aL UA:=bL
theorem t318:aL a7i:=bl [Uz,UA] ⟨t316,t317,trivial⟩
theorem t319:aL a7j:=bl [a5K,a7i] ⟨t131,t318,trivial⟩
theorem t320:aL a7k:=bl [Uz,UA] ⟨t316,t317,trivial⟩
theorem t321:aL a7l:=bl [TY,a7k] ⟨t179,t320,trivial⟩
theorem t322:aL c2F:=bl [TB,TF,TL,TV,TZ,T1,T3,Ub,a7d,a7f,a7h,a7j,a7l] ⟨t63,t100,t117,t157,t180,t186,t194,t242,t309,t313,t315,t319,t321,trivial⟩
theorem t323:aL Dj:=bL
theorem t324:aL a7m:=bl [qd,Dj] ⟨t51,t323,trivial⟩
theorem t325:aL UB:=bl [a7m] ⟨t324,trivial⟩
theorem t326:aL a7n:=bl [gv] ⟨t29,trivial⟩
theorem t327:aL a7o:=bl [sQ,Dj,UB,a7n] ⟨t90,t323,t325,t326,trivial⟩
theorem t328:aL UC:=bL
end Go.Lyc.T
