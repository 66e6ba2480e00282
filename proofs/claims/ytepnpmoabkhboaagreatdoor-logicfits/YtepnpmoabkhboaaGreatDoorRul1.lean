/-
  Steps back by rules, run with tokens. No conditions: closed facts.
-/
import Derived.Test.YtepnpmoabkhboaaGreatDoorMemo5
set_option linter.all false
noncomputable section
namespace Go.Lyc.T
open Go.Lyc.C Go.Lyc Go.RowKit Go.Proofs
variable [Tok] [TokOk]
set_option maxRecDepth 1000000
set_option maxHeartbeats 0
theorem c2I:ff Tryz.prog base Mw:=fD [C4,TS] ⟨t112,t128,trivial⟩
theorem c2J:ff Tryz.prog base Mx:=fD [qc,UC,C4,TT] ⟨t38,t328,t112,t130,trivial⟩
theorem M7:ff Tryz.prog base p6:=fD [uM,Db] ⟨t133,t161,trivial⟩
theorem M8:ff Tryz.prog base p7:=fD [uM,De] ⟨t133,t165,trivial⟩
theorem M9:ff Tryz.prog base p8:=fD [uM,Df] ⟨t133,t168,trivial⟩
theorem M_:ff Tryz.prog base p9:=fD [uM,Dg] ⟨t133,t171,trivial⟩
theorem Na:ff Tryz.prog base p_:=fD [C9,Dh] ⟨t151,t175,trivial⟩
theorem Nb:ff Tryz.prog base qa:=fD [HF,Di] ⟨t153,t178,trivial⟩
theorem UD:ff Tryz.prog base sO:=fD [gv,HP] ⟨t29,t182,trivial⟩
theorem a7p:ff Tryz.prog base yr:=fD [MZ,M0] ⟨t184,t189,trivial⟩
theorem c2K:ff Tryz.prog base Hc:=fD [M1,T4] ⟨t192,t197,trivial⟩
theorem c2L:ff Tryz.prog base Hf:=fD [uN,Uc] ⟨t201,t245,trivial⟩
theorem c2M:ff Tryz.prog base Hg:=fD [uN,Ud] ⟨t201,t248,trivial⟩
theorem c2N:ff Tryz.prog base Hh:=fD [uN,Uf] ⟨t201,t251,trivial⟩
theorem c2O:ff Tryz.prog base Hi:=fD [uN,Uh] ⟨t201,t254,trivial⟩
end Go.Lyc.T
