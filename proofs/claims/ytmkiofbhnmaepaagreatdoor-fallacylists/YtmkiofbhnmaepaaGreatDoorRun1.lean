/-
  The law, run. Each run stands by itself.
-/
import Derived.Test.YtmkiofbhnmaepaaGreatDoorRuns
set_option linter.all false
noncomputable section
namespace Go.Lyc.T
open Go.Lyc.C Go.Lyc Go.RowKit Go.Proofs
variable [Tok] [TokOk]
set_option maxRecDepth 1000000
set_option maxHeartbeats 0
theorem d4A(h:cI dD):EOk (dn (dz 16)):=run dD h [RP,RQ,RU,D0] ⟨b4g,b4z,b5p,Jp,trivial⟩
theorem d4B(h:cI dD):EOk (dn (dz 17)):=run dD h [R0,R1,R2,D0] ⟨b4h,b4C,b4D,Jp,trivial⟩
theorem d4C(h:cI dD):EOk (dn (dz 18)):=run dD h [Su,Sv,Sx,Sy] ⟨b3U,b4Q,b5y,b5z,trivial⟩
theorem d4D(h:cI dD):EOk (dn (dz 19)):=run dD h [SD,SE,SF,D1] ⟨b3V,b4T,b5C,Jq,trivial⟩
theorem d4E(h:cI dD):EOk (dn (dz 20)):=run dD h [Sp,Sq,Sr,St] ⟨b3T,b4O,b5w,b5x,trivial⟩
theorem d4F(h:cI dD):EOk (dn (dz 21)):=run dD h [RW,RX,RZ,D1] ⟨b3Y,b4B,b5q,Jq,trivial⟩
theorem d4G(h:cI dD):EOk (dn (dz 22)):=run dD h [Sc,Sd,jC,r_] ⟨b4H,b4I,t472,tB,trivial⟩
theorem d4H(h:cI dD):EOk (dn (dz 23)):=run dD h [Sj,Sk,AD,r_] ⟨b4L,b4M,D6,tB,trivial⟩
theorem d4I(h:cI dD):EOk (dn (dz 24)):=run dD h [SM,SN,r_,jC] ⟨b4W,b4X,tB,t472,trivial⟩
theorem d4J(h:cI dD):EOk (dn (dz 25)):=run dD h [SG,SH,r_,SI] ⟨b4m,b4U,tB,b5D,trivial⟩
theorem d4K(h:cI dD):EOk (dn (dz 26)):=run dD h [R6,R7,AD,R9] ⟨b3Z,b4F,D6,b5s,trivial⟩
theorem d4L(h:cI dD):EOk (dn (dz 27)):=run dD h [Ry,Rz,RA,RD] ⟨b3W,b4s,b5k,b5l,trivial⟩
theorem d4M(h:cI dD):EOk (dn (dz 28)):=run dD h [Sz,SA,SB,SC] ⟨b4b,b4S,b5A,b5B,trivial⟩
theorem d4N(h:cI dD):EOk (dn (dz 29)):=run dD h [RN,RO,jC,DZ] ⟨b4x,b4y,t472,Jo,trivial⟩
theorem d4O(h:cI dD):EOk (dn (dz 30)):=run dD h [Sl,Sm,Sn,DZ] ⟨b4l,b4N,b5v,Jo,trivial⟩
theorem d4P(h:cI dD):EOk (dn (dz 31)):=run dD h [SO,SP,SQ,jC] ⟨b4n,b4Y,b5F,t472,trivial⟩
end Go.Lyc.T
