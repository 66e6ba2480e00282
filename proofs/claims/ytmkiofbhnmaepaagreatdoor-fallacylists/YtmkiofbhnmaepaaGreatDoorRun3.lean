/-
  The law, run. Each run stands by itself.
-/
import Derived.Test.YtmkiofbhnmaepaaGreatDoorRuns
set_option linter.all false
noncomputable section
namespace Go.Lyc.T
open Go.Lyc.C Go.Lyc Go.RowKit Go.Proofs
variable [Tok] [TokOk]
set_option maxRecDepth 1000000
set_option maxHeartbeats 0
theorem d5c(h:cI dE):EOk (dn (dz 16)):=run dE h [RP,RQ,gh,RU,D0] ⟨b4g,b4z,t129,b5p,Jp,trivial⟩
theorem d5d(h:cI dE):EOk (dn (dz 17)):=run dE h [R0,R1,gh,R2,D0] ⟨b4h,b4C,t129,b4D,Jp,trivial⟩
theorem d5e(h:cI dE):EOk (dn (dz 18)):=run dE h [Su,Sv,gh,Sx,Sy] ⟨b3U,b4Q,t129,b5y,b5z,trivial⟩
theorem d5f(h:cI dE):EOk (dn (dz 19)):=run dE h [SD,SE,gh,SF,D1] ⟨b3V,b4T,t129,b5C,Jq,trivial⟩
theorem d5g(h:cI dE):EOk (dn (dz 20)):=run dE h [Sp,Sq,gh,Sr,St] ⟨b3T,b4O,t129,b5w,b5x,trivial⟩
theorem d5h(h:cI dE):EOk (dn (dz 21)):=run dE h [RW,RX,gh,RZ,D1] ⟨b3Y,b4B,t129,b5q,Jq,trivial⟩
theorem d5i(h:cI dE):EOk (dn (dz 22)):=run dE h [Sc,Sd,gh,jC,r_] ⟨b4H,b4I,t129,t472,tB,trivial⟩
theorem d5j(h:cI dE):EOk (dn (dz 23)):=run dE h [Sj,Sk,gh,AD,r_] ⟨b4L,b4M,t129,D6,tB,trivial⟩
theorem d5k(h:cI dE):EOk (dn (dz 24)):=run dE h [SM,SN,gh,r_,jC] ⟨b4W,b4X,t129,tB,t472,trivial⟩
theorem d5l(h:cI dE):EOk (dn (dz 25)):=run dE h [SG,SH,gh,r_,SI] ⟨b4m,b4U,t129,tB,b5D,trivial⟩
theorem d5m(h:cI dE):EOk (dn (dz 26)):=run dE h [R6,R7,gh,AD,R9] ⟨b3Z,b4F,t129,D6,b5s,trivial⟩
theorem d5n(h:cI dE):EOk (dn (dz 27)):=run dE h [Ry,Rz,gh,RA,RD] ⟨b3W,b4s,t129,b5k,b5l,trivial⟩
theorem d5o(h:cI dE):EOk (dn (dz 28)):=run dE h [Sz,SA,gh,SB,SC] ⟨b4b,b4S,t129,b5A,b5B,trivial⟩
theorem d5p(h:cI dE):EOk (dn (dz 29)):=run dE h [RN,RO,gh,jC,DZ] ⟨b4x,b4y,t129,t472,Jo,trivial⟩
theorem d5q(h:cI dE):EOk (dn (dz 30)):=run dE h [Sl,Sm,gh,Sn,DZ] ⟨b4l,b4N,t129,b5v,Jo,trivial⟩
theorem d5r(h:cI dE):EOk (dn (dz 31)):=run dE h [SO,SP,gh,SQ,jC] ⟨b4n,b4Y,t129,b5F,t472,trivial⟩
end Go.Lyc.T
