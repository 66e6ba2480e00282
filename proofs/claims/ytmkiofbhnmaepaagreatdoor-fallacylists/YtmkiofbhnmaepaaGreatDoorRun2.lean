/-
  The law, run. Each run stands by itself.
-/
import Derived.Test.YtmkiofbhnmaepaaGreatDoorRuns
set_option linter.all false
noncomputable section
namespace Go.Lyc.T
open Go.Lyc.C Go.Lyc Go.RowKit Go.Proofs
variable [Tok] [TokOk]
set_option maxRecDepth 1000000
set_option maxHeartbeats 0
theorem eC(h:cI dE):EOk (dn (dz 0)):=run dE h [S6,S7,gh] ⟨b5d,b5e,t129,trivial⟩
theorem bn(h:cI dE):EOk (dn (dz 1)):=run dE h [SX,SY,gh,SZ,jC] ⟨b4p,b5a,t129,b5H,t472,trivial⟩
theorem lQ(h:cI dE):EOk (dn (dz 2)):=run dE h [SJ,SK,gh,SL,DY] ⟨b4c,b4V,t129,b5E,Jn,trivial⟩
theorem sK(h:cI dE):EOk (dn (dz 3)):=run dE h [S3,S4,gh,tA,S5] ⟨b4r,b5c,t129,vx,b5J,trivial⟩
theorem d4Q(h:cI dE):EOk (dn (dz 4)):=run dE h [R3,R4,gh,tA,R5] ⟨b4i,b4E,t129,vx,b5r,trivial⟩
theorem d4R(h:cI dE):EOk (dn (dz 5)):=run dE h [Rs,Rt,gh,Az,jC] ⟨t465,t466,t129,t471,t472,trivial⟩
theorem d4S(h:cI dE):EOk (dn (dz 6)):=run dE h [Se,Sf,gh,Az,AB] ⟨b4j,b4J,t129,t471,D4,trivial⟩
theorem d4T(h:cI dE):EOk (dn (dz 7)):=run dE h [RK,RL,gh,RM,DY] ⟨b3X,b4w,t129,b5o,Jn,trivial⟩
theorem d4U(h:cI dE):EOk (dn (dz 8)):=run dE h [SV,SW,gh,jC,D2] ⟨b4o,b4e,t129,t472,Jr,trivial⟩
theorem d4V(h:cI dE):EOk (dn (dz 9)):=run dE h [R_,Sa,gh,D3,Sb] ⟨b4a,b4G,t129,Js,b5t,trivial⟩
theorem d4W(h:cI dE):EOk (dn (dz 10)):=run dE h [RE,RF,gh,tA,RG] ⟨b4f,b4t,t129,vx,b5m,trivial⟩
theorem d4X(h:cI dE):EOk (dn (dz 11)):=run dE h [S0,S1,gh,S2,tA] ⟨b4q,b5b,t129,b5I,vx,trivial⟩
theorem d4Y(h:cI dE):EOk (dn (dz 12)):=run dE h [SR,SS,gh,D3,SU] ⟨b4d,b4Z,t129,Js,b5G,trivial⟩
theorem d4Z(h:cI dE):EOk (dn (dz 13)):=run dE h [Rv,Rw,gh,Rx,jC] ⟨t473,t474,t129,b5j,t472,trivial⟩
theorem d5a(h:cI dE):EOk (dn (dz 14)):=run dE h [RH,RI,gh,RJ] ⟨b4u,b4v,t129,b5n,trivial⟩
theorem d5b(h:cI dE):EOk (dn (dz 15)):=run dE h [Sg,Sh,gh,Si,jC] ⟨b4k,b4K,t129,b5u,t472,trivial⟩
end Go.Lyc.T
