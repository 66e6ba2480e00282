/-
  Calls, run in the kernel. No conditions: each stands by itself.
-/
import Derived.Test.YtmkiofbhnmaepaaGreatDoorMemo0
import Derived.Test.YtmkiofbhnmaepaaGreatDoorMemo1
import Derived.Test.YtmkiofbhnmaepaaGreatDoorMemo2
import Derived.Test.YtmkiofbhnmaepaaGreatDoorMemo3
import Derived.Test.YtmkiofbhnmaepaaGreatDoorMemo4
import Derived.Test.YtmkiofbhnmaepaaGreatDoorMemo5
set_option linter.all false
noncomputable section
namespace Go.Lyc.T
open Go.Lyc
variable [Tok] [TokOk]
set_option maxRecDepth 1000000
set_option maxHeartbeats 4000000
theorem t1:EOk aE:=dy [] trivial [eG] ⟨t0,trivial⟩
theorem t3:EOk cZ:=dy [] trivial [aY] ⟨t2,trivial⟩
theorem t5:EOk rA:=dy [] trivial [lI] ⟨t4,trivial⟩
theorem t7:EOk uj:=dy [] trivial [wH] ⟨t6,trivial⟩
theorem t9:EOk eD:=dy [] trivial [FE] ⟨t8,trivial⟩
theorem t11:EOk Ai:=dy [] trivial [FF] ⟨t10,trivial⟩
theorem t13:EOk Aj:=dy [] trivial [Qe] ⟨t12,trivial⟩
theorem t15:EOk Ak:=dy [] trivial [Qf] ⟨t14,trivial⟩
theorem t17:EOk Al:=dy [] trivial [a6H] ⟨t16,trivial⟩
theorem t19:EOk Am:=dy [] trivial [a6I] ⟨t18,trivial⟩
theorem t21:EOk An:=dy [] trivial [a6J] ⟨t20,trivial⟩
theorem t23:EOk Ao:=dy [] trivial [Qg] ⟨t22,trivial⟩
theorem t25:EOk Ap:=dy [] trivial [Qh] ⟨t24,trivial⟩
theorem t30:EOk a6K:=aF [Qi,Qj,xB] ⟨t27,t28,t29,trivial⟩
theorem t115:EOk a7y:=aF [Qj,Qi,xB] ⟨t28,t27,t29,trivial⟩
theorem t120:EOk a7D:=aF [a7C,xB] ⟨t119,t29,trivial⟩
theorem t133:EOk a7P:=aF [a7N,a7O] ⟨t131,t132,trivial⟩
theorem t162:EOk QM:=aF [a8q,xB] ⟨t161,t29,trivial⟩
theorem t198:EOk a8K:=dy [] trivial [Qz] ⟨t86,trivial⟩
theorem t200:EOk a8M:=dy [] trivial [a8L] ⟨t199,trivial⟩
theorem t201:EOk a8N:=dy [] trivial [QA] ⟨t87,trivial⟩
theorem t202:EOk a8O:=dy [] trivial [Qy] ⟨t85,trivial⟩
theorem t206:EOk a8S:=aF [a8Q,a8R] ⟨t204,t205,trivial⟩
theorem t221:EOk a9d:=aF [qT,a9c] ⟨t35,t220,trivial⟩
theorem t227:EOk a9i:=aF [qW,Q5] ⟨t41,t226,trivial⟩
theorem t232:EOk a9n:=aF [Q3,a9m] ⟨t208,t231,trivial⟩
theorem t234:EOk a9p:=aF [Q4,a9o] ⟨t209,t233,trivial⟩
theorem t251:EOk Q6:=dy [] trivial [a9F] ⟨t250,trivial⟩
theorem t253:EOk Q7:=dy [] trivial [a9G] ⟨t252,trivial⟩
theorem t254:EOk Q8:=dy [] trivial [QB] ⟨t95,trivial⟩
theorem t256:EOk Q9:=dy [] trivial [a9H] ⟨t255,trivial⟩
theorem t258:EOk Q_:=dy [] trivial [a9I] ⟨t257,trivial⟩
theorem t260:EOk Ra:=dy [] trivial [a9J] ⟨t259,trivial⟩
theorem t261:EOk Rb:=dy [] trivial [QC] ⟨t96,trivial⟩
theorem t263:EOk Rc:=dy [] trivial [a9K] ⟨t262,trivial⟩
theorem t266:EOk a9M:=aF [xB,Re] ⟨t29,t265,trivial⟩
theorem t277:EOk a9Q:=aF [qQ,a9P] ⟨t32,t276,trivial⟩
theorem t279:EOk a9S:=aF [qR,a9R] ⟨t33,t278,trivial⟩
theorem t281:EOk a9U:=aF [qS,a9T] ⟨t34,t280,trivial⟩
theorem t283:EOk a9W:=aF [qT,a9V] ⟨t35,t282,trivial⟩
theorem t285:EOk a9Y:=aF [qU,a9X] ⟨t37,t284,trivial⟩
theorem t287:EOk b0a:=aF [qV,a9Z] ⟨t39,t286,trivial⟩
theorem t289:EOk b0b:=aF [qW,Ri] ⟨t41,t288,trivial⟩
theorem t290:EOk b0c:=aF [r8,Ri] ⟨t45,t288,trivial⟩
theorem t292:EOk b0e:=aF [DT,b0d] ⟨t267,t291,trivial⟩
theorem t294:EOk b0g:=aF [DU,b0f] ⟨t271,t293,trivial⟩
theorem t296:EOk b0i:=aF [DV,b0h] ⟨t272,t295,trivial⟩
theorem t313:EOk b0z:=dy [] trivial [QD] ⟨t97,trivial⟩
theorem t314:EOk b0A:=dy [] trivial [QE] ⟨t98,trivial⟩
theorem t316:EOk b0C:=aF [Re,xB] ⟨t265,t29,trivial⟩
theorem t324:EOk b0I:=aF [qQ,b0H] ⟨t32,t323,trivial⟩
theorem t326:EOk b0K:=aF [qR,b0J] ⟨t33,t325,trivial⟩
theorem t328:EOk b0M:=aF [qS,b0L] ⟨t34,t327,trivial⟩
theorem t330:EOk b0O:=aF [qT,b0N] ⟨t35,t329,trivial⟩
theorem t332:EOk b0Q:=aF [qU,b0P] ⟨t37,t331,trivial⟩
theorem t334:EOk b0S:=aF [qV,b0R] ⟨t39,t333,trivial⟩
theorem t336:EOk b0T:=aF [qW,Rk] ⟨t41,t335,trivial⟩
theorem t337:EOk b0U:=aF [r8,Rk] ⟨t45,t335,trivial⟩
theorem t339:EOk b0W:=aF [DT,b0V] ⟨t267,t338,trivial⟩
theorem t341:EOk b0Y:=aF [DU,b0X] ⟨t271,t340,trivial⟩
theorem t343:EOk b1a:=aF [DV,b0Z] ⟨t272,t342,trivial⟩
theorem t345:EOk b1c:=aF [Rj,b1b] ⟨t317,t344,trivial⟩
theorem t389:EOk vw:=aF [qX] ⟨t388,trivial⟩
theorem t390:EOk As:=aF [qX] ⟨t388,trivial⟩
theorem t428:EOk b2o:=aF [qX] ⟨t388,trivial⟩
theorem t467:EOk xC:=aF [qX] ⟨t388,trivial⟩
theorem t468:EOk DW:=aF [qX] ⟨t388,trivial⟩
theorem b3R:EOk RR:=aF [qX] ⟨t388,trivial⟩
theorem b3S:EOk RY:=aF [qX] ⟨t388,trivial⟩
theorem d2D:EOk b3l:=aF [qX] ⟨t388,trivial⟩
theorem d2E:EOk b3A:=aF [qX] ⟨t388,trivial⟩
end Go.Lyc.T
