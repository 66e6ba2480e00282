/-
  Steps back by rules, run with tokens. No conditions: closed facts.
-/
import Derived.Test.YtepnpmoabkhboaaGreatDoorMemo5
set_option linter.all false
noncomputable section
namespace Go.Lyc.T
open Go.Lyc.C Go.Lyc Go.RowKit Go.Proofs
variable [Tok] [TokOk]
set_option maxRecDepth 1000000
set_option maxHeartbeats 0
theorem c2P:ff Tryz.prog base Hj:=fD [HR,Uk] ⟨t212,t258,trivial⟩
theorem c2Q:ff Tryz.prog base Hk:=fD [HS,Ul] ⟨t214,t261,trivial⟩
theorem c2R:ff Tryz.prog base Hl:=fD [uO,Um] ⟨t218,t263,trivial⟩
theorem c2S:ff Tryz.prog base Hm:=fD [uO,Un] ⟨t218,t266,trivial⟩
theorem c2T:ff Tryz.prog base Hn:=fD [uO,Up] ⟨t218,t269,trivial⟩
theorem c2U:ff Tryz.prog base Ho:=fD [uO,Uq] ⟨t218,t272,trivial⟩
theorem c2V:ff Tryz.prog base Hp:=fD [gv,Ur] ⟨t29,t274,trivial⟩
theorem c2W:ff Tryz.prog base Hq:=fD [M5,Us] ⟨t229,t276,trivial⟩
theorem c2X:ff Tryz.prog base Hr:=fD [uP,Ut] ⟨t220,t278,trivial⟩
theorem c2Y:ff Tryz.prog base Hs:=fD [yv,Uu] ⟨t233,t280,trivial⟩
theorem c2Z:ff Tryz.prog base Ht:=fD [yv,Uv] ⟨t233,t283,trivial⟩
theorem c3a:ff Tryz.prog base Hu:=fD [qc,yv,Uw] ⟨t38,t233,t285,trivial⟩
end Go.Lyc.T
