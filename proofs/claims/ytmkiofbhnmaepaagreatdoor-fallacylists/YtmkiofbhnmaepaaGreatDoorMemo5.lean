/-
  Calls, run in the kernel. No conditions: each stands by itself.
-/
import Derived.Test.YtmkiofbhnmaepaaGreatDoorVals0
set_option linter.all false
noncomputable section
namespace Go.Lyc.T
open Go.Lyc
variable [Tok] [TokOk]
set_option maxRecDepth 1000000
set_option maxHeartbeats 4000000
theorem t2:ey aY:=eH [] trivial [] trivial []
theorem t4:ey lI:=eH [] trivial [] trivial []
theorem t8:ey FE:=eH [] trivial [] trivial []
theorem t10:ey FF:=eH [] trivial [] trivial []
theorem t14:ey Qf:=eH [] trivial [] trivial []
theorem t16:ey a6H:=eH [] trivial [] trivial [64]
theorem t18:ey a6I:=eH [] trivial [] trivial []
theorem t20:ey a6J:=eH [] trivial [] trivial []
theorem t24:ey Qh:=eH [] trivial [] trivial []
theorem t28:EOk Qj:=bb
theorem t29:EOk xB:=bb
theorem t41:EOk qW:=bb
theorem t75:ey a6Y:=eH [] trivial [] trivial [64]
theorem t95:ey QB:=eH [] trivial [] trivial [64]
theorem t96:ey QC:=eH [] trivial [] trivial [64]
theorem t101:ey a7r:=eH [] trivial [] trivial [64]
theorem t148:EOk QL:=bb
theorem t176:EOk a8y:=bb
theorem t178:EOk QT:=bb
theorem t224:EOk a9g:=bb
theorem t226:EOk Q5:=bb
theorem t250:ey a9F:=eH [] trivial [] trivial [64]
theorem t252:ey a9G:=eH [] trivial [] trivial []
theorem t255:ey a9H:=eH [] trivial [] trivial []
theorem t257:ey a9I:=eH [] trivial [] trivial [64]
theorem t259:ey a9J:=eH [] trivial [] trivial [64]
theorem t265:EOk Re:=bb
theorem t267:EOk DT:=bb
theorem t276:EOk a9P:=bb
theorem t278:EOk a9R:=bb
theorem t286:EOk a9Z:=bb
theorem t288:EOk Ri:=bb
theorem t299:EOk b0l:=bb
theorem t300:EOk b0m:=bb
theorem t305:EOk b0r:=bb
theorem t306:EOk b0s:=bb
theorem t307:EOk b0t:=bb
theorem t308:EOk b0u:=bb
theorem t317:EOk Rj:=bb
theorem t323:EOk b0H:=bb
theorem t325:EOk b0J:=bb
theorem t333:EOk b0R:=bb
theorem t335:EOk Rk:=bb
theorem t338:EOk b0V:=bb
theorem t350:EOk b1g:=bb
theorem t351:EOk b1h:=bb
theorem t352:EOk b1i:=bb
theorem t353:EOk b1j:=bb
theorem t376:EOk b1G:=bb
theorem t377:EOk b1H:=bb
theorem t382:EOk b1M:=bb
end Go.Lyc.T
