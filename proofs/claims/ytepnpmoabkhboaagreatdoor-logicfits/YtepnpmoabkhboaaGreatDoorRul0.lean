/-
  Steps back by rules, run with tokens. No conditions: closed facts.
-/
import Derived.Test.YtepnpmoabkhboaaGreatDoorMemo5
set_option linter.all false
noncomputable section
namespace Go.Lyc.T
open Go.Lyc.C Go.Lyc Go.RowKit Go.Proofs
variable [Tok] [TokOk]
set_option maxRecDepth 1000000
set_option maxHeartbeats 0
theorem cM:ff Tryz.prog base kl:=fD [v_,uz] ⟨t27,t68,trivial⟩
theorem iB:ff Tryz.prog base km:=fD [gv,v_,uA] ⟨t29,t27,t72,trivial⟩
theorem gO:ff Tryz.prog base kn:=fD [jK,v_,uB] ⟨t32,t27,t73,trivial⟩
theorem h9:ff Tryz.prog base ko:=fD [we,uC] ⟨t36,t75,trivial⟩
theorem iE:ff Tryz.prog base kp:=fD [we,uD] ⟨t36,t77,trivial⟩
theorem nY:ff Tryz.prog base kq:=fD [qc,we,uE] ⟨t38,t36,t79,trivial⟩
theorem vX:ff Tryz.prog base kr:=fD [AT,uF] ⟨t44,t82,trivial⟩
theorem yw:ff Tryz.prog base ks:=fD [jK,AT,uG] ⟨t32,t44,t84,trivial⟩
theorem yx:ff Tryz.prog base kt:=fD [ys,uH,Dj,qd] ⟨t49,t87,t323,t51,trivial⟩
theorem pX:ff Tryz.prog base j3:=fD [qd,sQ,UB,a7o] ⟨t51,t90,t325,t327,trivial⟩
theorem yy:ff Tryz.prog base ku:=fD [gv,Dj,qd,uI] ⟨t29,t323,t51,t91,trivial⟩
theorem yz:ff Tryz.prog base kv:=fD [wv,uJ] ⟨t57,t93,trivial⟩
theorem yA:ff Tryz.prog base kx:=fD [jK,wv,uK] ⟨t32,t57,t95,trivial⟩
theorem yB:ff Tryz.prog base ky:=fD [gv,wv,uL] ⟨t29,t57,t96,trivial⟩
theorem AY:ff Tryz.prog base lD:=fD [gv,Dj,qd,wJ] ⟨t29,t323,t51,t97,trivial⟩
theorem c2G:ff Tryz.prog base Mu:=fD [Hy,TO] ⟨t104,t121,trivial⟩
theorem c2H:ff Tryz.prog base Mv:=fD [C3,TQ] ⟨t109,t125,trivial⟩
end Go.Lyc.T
