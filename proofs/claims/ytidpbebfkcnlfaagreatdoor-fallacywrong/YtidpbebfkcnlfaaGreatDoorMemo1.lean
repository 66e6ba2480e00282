/-
  Calls, run in the kernel. No conditions: each stands by itself.
-/
import Derived.Test.YtidpbebfkcnlfaaGreatDoorMemo0
set_option linter.all false
noncomputable section
namespace Go.Lyc.T
open Go.Lyc
variable [Tok] [TokOk]
set_option maxRecDepth 1000000
set_option maxHeartbeats 4000000
theorem t91:EOk e91:=ek [e60,e28,e26,e24,e90] ⟨t60,t28,t26,t24,t90,trivial⟩
theorem t92:EOk e92:=ek [e71,e20,e24,e5,e26,e3,e28] ⟨t71,t20,t24,t5,t26,t3,t28,trivial⟩
theorem t93:EOk e93:=ek [e61,e28,e24,e26,e92] ⟨t61,t28,t24,t26,t92,trivial⟩
theorem t94:EOk e94:=ek [e71,e20,e26,e5,e24,e3,e28] ⟨t71,t20,t26,t5,t24,t3,t28,trivial⟩
theorem t95:EOk e95:=ek [e61,e28,e26,e24,e94] ⟨t61,t28,t26,t24,t94,trivial⟩
theorem t96:EOk e96:=ek [e15] ⟨t15,trivial⟩
theorem t97:EOk e97:=ek0
theorem t98:EOk e98:=ek [e97] ⟨t97,trivial⟩
theorem t99:EOk e99:=ek0
theorem t100:EOk e100:=ek [e99] ⟨t99,trivial⟩
theorem t101:EOk e101:=ek0
theorem t102:EOk e102:=ek [e101] ⟨t101,trivial⟩
theorem t103:EOk e103:=ek0
theorem t104:EOk e104:=ek [e103] ⟨t103,trivial⟩
theorem t105:EOk e105:=ek0
theorem t106:EOk e106:=ek [e105] ⟨t105,trivial⟩
theorem t107:EOk e107:=ek0
theorem t108:EOk e108:=ek [e107] ⟨t107,trivial⟩
theorem t109:EOk e109:=ek0
theorem t110:EOk e110:=ek [e109] ⟨t109,trivial⟩
theorem t111:EOk e111:=ek0
theorem t112:EOk e112:=ek [e111] ⟨t111,trivial⟩
theorem t113:EOk e113:=ek0
theorem t114:EOk e114:=ek [e113] ⟨t113,trivial⟩
theorem t115:EOk e115:=ek0
theorem t116:EOk e116:=ek [e115] ⟨t115,trivial⟩
theorem t117:EOk e117:=ek0
theorem t118:EOk e118:=ek [e117] ⟨t117,trivial⟩
theorem t119:EOk e119:=ek0
theorem t120:EOk e120:=ek [e119] ⟨t119,trivial⟩
theorem t121:EOk e121:=ek0
theorem t122:EOk e122:=ek [e121] ⟨t121,trivial⟩
theorem t123:EOk e123:=ek0
theorem t124:EOk e124:=ek [e123] ⟨t123,trivial⟩
theorem t125:EOk e125:=ek0
theorem t126:EOk e126:=ek [e125] ⟨t125,trivial⟩
theorem t127:EOk e127:=ek0
theorem t128:EOk e128:=ek [e127] ⟨t127,trivial⟩
theorem t129:EOk e129:=ek0
theorem t130:EOk e130:=ek [e129] ⟨t129,trivial⟩
theorem t131:EOk e131:=ek0
theorem t132:EOk e132:=ek [e131] ⟨t131,trivial⟩
theorem t133:EOk e133:=ek0
theorem t134:EOk e134:=ek [e133] ⟨t133,trivial⟩
end Go.Lyc.T
