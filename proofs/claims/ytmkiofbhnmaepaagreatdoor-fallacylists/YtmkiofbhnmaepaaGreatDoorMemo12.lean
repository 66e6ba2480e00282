/-
  Calls, run in the kernel. No conditions: each stands by itself.
-/
import Derived.Test.YtmkiofbhnmaepaaGreatDoorMemo8
import Derived.Test.YtmkiofbhnmaepaaGreatDoorMemo9
import Derived.Test.YtmkiofbhnmaepaaGreatDoorMemo10
import Derived.Test.YtmkiofbhnmaepaaGreatDoorMemo11
set_option linter.all false
noncomputable section
namespace Go.Lyc.T
open Go.Lyc
variable [Tok] [TokOk]
set_option maxRecDepth 1000000
set_option maxHeartbeats 4000000
theorem t112:EOk a7w:=dy [oF,DS,Qk,Ql,Qm,Qn,Qo,Qp,Qq,Qr,Qs,Qt,Qu,Qv,Qw,Qx,QF,QG,QH,QI,QJ] ⟨t46,t47,t48,t49,t51,t53,t55,t57,t59,t61,t63,t65,t67,t69,t71,t73,t107,t108,t109,t110,t111,trivial⟩ [fC] ⟨t106,trivial⟩
theorem t117:EOk a7A:=dy [oF,DS,Ql,Qk,Qn,Qm,Qp,Qo,Qr,Qq,Qt,Qs,Qv,Qu,Qx,Qw,a7z,QF,QH,QG,QJ,QI] ⟨t46,t47,t49,t48,t53,t51,t57,t55,t61,t59,t65,t63,t69,t67,t73,t71,t116,t107,t109,t108,t111,t110,trivial⟩ [fC] ⟨t106,trivial⟩
theorem t191:EOk a8D:=dy [I9,a8r,a8s,QN,QO,QP,QQ,QR,QS,QU,QV,QW,QX,QY,QZ,Q0,Q1,a8z,a8A,a8B,a8C] ⟨t163,t164,t165,t167,t169,t171,t173,t175,t177,t179,t180,t181,t182,t183,t184,t185,t186,t187,t188,t189,t190,trivial⟩ [fC] ⟨t106,trivial⟩
theorem t247:EOk a9C:=dy [I_,a8U,a8V,a8X,a8Z,a9b,a9d,a9f,a9h,a9i,a9j,a9l,a9n,a9p,a9q,a9r,a9s,a9t,a9u,a9v,a9w,a9x,a9y,a9z,a9A,a9B] ⟨t211,t212,t213,t215,t217,t219,t221,t223,t225,t227,t228,t230,t232,t234,t235,t236,t237,t238,t239,t240,t241,t242,t243,t244,t245,t246,trivial⟩ [fC] ⟨t106,trivial⟩
theorem t310:EOk b0w:=dy [Ja,a9N,a9O,a9Q,a9S,a9U,a9W,a9Y,b0a,b0b,b0c,b0e,b0g,b0i,b0j,b0k,b0l,b0m,b0n,b0o,b0p,b0q,b0r,b0s,b0t,b0u,b0v] ⟨t273,t274,t275,t277,t279,t281,t283,t285,t287,t289,t290,t292,t294,t296,t297,t298,t299,t300,t301,t302,t303,t304,t305,t306,t307,t308,t309,trivial⟩ [fC] ⟨t106,trivial⟩
theorem t392:EOk Av:=aF [Au] ⟨t391,trivial⟩
theorem t395:EOk Aw:=aF [r9] ⟨t394,trivial⟩
theorem t398:EOk Jd:=aF [Ax] ⟨t397,trivial⟩
theorem t401:EOk b1U:=aF [b1T] ⟨t400,trivial⟩
theorem t404:EOk Rm:=aF [Au] ⟨t391,trivial⟩
theorem t407:EOk Rn:=aF [Au] ⟨t391,trivial⟩
theorem t412:EOk b2a:=aF [Au] ⟨t391,trivial⟩
theorem t425:EOk Ro:=aF [r9] ⟨t394,trivial⟩
theorem t427:EOk Jh:=aF [r9] ⟨t394,trivial⟩
theorem t430:EOk b2q:=aF [r9] ⟨t394,trivial⟩
theorem t436:EOk b2w:=aF [Ax] ⟨t397,trivial⟩
theorem t441:EOk b2B:=aF [Ax] ⟨t397,trivial⟩
theorem t446:EOk Ji:=aF [r9] ⟨t394,trivial⟩
theorem t447:EOk Rp:=aF [r9] ⟨t394,trivial⟩
theorem t454:EOk b2K:=aF [Ax] ⟨t397,trivial⟩
theorem t457:EOk b2N:=aF [Ax] ⟨t397,trivial⟩
theorem t460:EOk b2Q:=aF [r9] ⟨t394,trivial⟩
theorem t461:EOk b2R:=aF [r9] ⟨t394,trivial⟩
end Go.Lyc.T
