/-
  The law, run. Each run stands by itself.
-/
import Derived.Test.YtmkiofbhnmaepaaGreatDoorRuns
set_option linter.all false
noncomputable section
namespace Go.Lyc.T
open Go.Lyc.C Go.Lyc Go.RowKit Go.Proofs
variable [Tok] [TokOk]
set_option maxRecDepth 1000000
set_option maxHeartbeats 0
theorem r0(h:cI dD):EOk (dn (dz 0)):=run dD h [S6,S7] ⟨b5d,b5e,trivial⟩
theorem r1(h:cI dD):EOk (dn (dz 1)):=run dD h [SX,SY,SZ,jC] ⟨b4p,b5a,b5H,t472,trivial⟩
theorem jJ(h:cI dD):EOk (dn (dz 2)):=run dD h [SJ,SK,SL,DY] ⟨b4c,b4V,b5E,Jn,trivial⟩
theorem km(h:cI dD):EOk (dn (dz 3)):=run dD h [S3,S4,tA,S5] ⟨b4r,b5c,vx,b5J,trivial⟩
theorem pU(h:cI dD):EOk (dn (dz 4)):=run dD h [R3,R4,tA,R5] ⟨b4i,b4E,vx,b5r,trivial⟩
theorem A_(h:cI dD):EOk (dn (dz 5)):=run dD h [Rs,Rt,Az,jC] ⟨t465,t466,t471,t472,trivial⟩
theorem NJ(h:cI dD):EOk (dn (dz 6)):=run dD h [Se,Sf,Az,AB] ⟨b4j,b4J,t471,D4,trivial⟩
theorem d4s(h:cI dD):EOk (dn (dz 7)):=run dD h [RK,RL,RM,DY] ⟨b3X,b4w,b5o,Jn,trivial⟩
theorem d4t(h:cI dD):EOk (dn (dz 8)):=run dD h [SV,SW,jC,D2] ⟨b4o,b4e,t472,Jr,trivial⟩
theorem N0(h:cI dD):EOk (dn (dz 9)):=run dD h [R_,Sa,D3,Sb] ⟨b4a,b4G,Js,b5t,trivial⟩
theorem d4u(h:cI dD):EOk (dn (dz 10)):=run dD h [RE,RF,tA,RG] ⟨b4f,b4t,vx,b5m,trivial⟩
theorem d4v(h:cI dD):EOk (dn (dz 11)):=run dD h [S0,S1,S2,tA] ⟨b4q,b5b,b5I,vx,trivial⟩
theorem d4w(h:cI dD):EOk (dn (dz 12)):=run dD h [SR,SS,D3,SU] ⟨b4d,b4Z,Js,b5G,trivial⟩
theorem d4x(h:cI dD):EOk (dn (dz 13)):=run dD h [Rv,Rw,Rx,jC] ⟨t473,t474,b5j,t472,trivial⟩
theorem d4y(h:cI dD):EOk (dn (dz 14)):=run dD h [RH,RI,RJ] ⟨b4u,b4v,b5n,trivial⟩
theorem d4z(h:cI dD):EOk (dn (dz 15)):=run dD h [Sg,Sh,Si,jC] ⟨b4k,b4K,b5u,t472,trivial⟩
end Go.Lyc.T
