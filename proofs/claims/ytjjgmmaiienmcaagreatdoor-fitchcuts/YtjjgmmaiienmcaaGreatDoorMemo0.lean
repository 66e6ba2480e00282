/-
  Calls, run in the kernel. No conditions: each stands by itself.
-/
import Derived.Test.YtjjgmmaiienmcaaGreatDoorVals0
set_option linter.all false
noncomputable section
namespace Go.Lyc.T
open Go.Lyc
variable [Tok] [TokOk]
set_option maxRecDepth 1000000
set_option maxHeartbeats 4000000
theorem t0:EOk e0:=ek0
theorem t1:EOk e1:=ek [e0] ⟨t0,trivial⟩
theorem t2:EOk e2:=ek0
theorem t3:EOk e3:=ek [e2] ⟨t2,trivial⟩
theorem t4:EOk e4:=ek0
theorem t5:EOk e5:=ek [e4] ⟨t4,trivial⟩
theorem t6:EOk e6:=ek0
theorem t7:EOk e7:=ek [e6] ⟨t6,trivial⟩
theorem t8:EOk e8:=ek0
theorem t9:EOk e9:=ek [e8] ⟨t8,trivial⟩
theorem t10:EOk e10:=ek [e8] ⟨t8,trivial⟩
theorem t11:EOk e11:=ek0
theorem t12:EOk e12:=ek [e11] ⟨t11,trivial⟩
theorem t13:EOk e13:=ek [e4] ⟨t4,trivial⟩
theorem t14:EOk e14:=ek0
theorem t15:EOk e15:=ek [e14] ⟨t14,trivial⟩
theorem t16:EOk e16:=ek0
theorem t17:EOk e17:=ek [e16] ⟨t16,trivial⟩
theorem t18:EOk e18:=ek [e16] ⟨t16,trivial⟩
theorem t19:EOk e19:=ek0
theorem t20:EOk e20:=ek [e19] ⟨t19,trivial⟩
theorem t21:EOk e21:=ek [e2] ⟨t2,trivial⟩
theorem t22:EOk e22:=ek [e1,e3,e5,e7,e9,e10,e12,e13,e15,e17,e18,e20,e21] ⟨t1,t3,t5,t7,t9,t10,t12,t13,t15,t17,t18,t20,t21,trivial⟩
theorem t23:EOk e23:=ek [e0,e2,e4] ⟨t0,t2,t4,trivial⟩
theorem t24:EOk e24:=ek [e2,e0] ⟨t2,t0,trivial⟩
theorem t25:EOk e25:=ek [e4,e0] ⟨t4,t0,trivial⟩
theorem t26:EOk e26:=ek [e6,e2] ⟨t6,t2,trivial⟩
theorem t27:EOk e27:=ek [e6,e4] ⟨t6,t4,trivial⟩
theorem t28:EOk e28:=ek [e8,e6,e2,e4] ⟨t8,t6,t2,t4,trivial⟩
theorem t29:EOk e29:=ek [e11,e4,e2] ⟨t11,t4,t2,trivial⟩
theorem t30:EOk e30:=ek [e4,e11,e2] ⟨t4,t11,t2,trivial⟩
theorem t31:EOk e31:=ek [e14,e16,e2] ⟨t14,t16,t2,trivial⟩
theorem t32:EOk e32:=ek [e16,e2,e14] ⟨t16,t2,t14,trivial⟩
theorem t33:EOk e33:=ek [e2,e16] ⟨t2,t16,trivial⟩
theorem t34:EOk e34:=ek [e19,e4,e2] ⟨t19,t4,t2,trivial⟩
theorem t35:EOk e35:=ek [e4,e19,e2] ⟨t4,t19,t2,trivial⟩
theorem t36:EOk e36:=ek [e2,e19,e4] ⟨t2,t19,t4,trivial⟩
theorem t37:EOk e37:=ek [e2,e16,e14] ⟨t2,t16,t14,trivial⟩
theorem t38:EOk e38:=ek [e23,e24,e25,e26,e27,e28,e29,e30,e31,e32,e33,e34,e35,e36,e37] ⟨t23,t24,t25,t26,t27,t28,t29,t30,t31,t32,t33,t34,t35,t36,t37,trivial⟩
theorem t39:EOk e39:=ek0
theorem t40:EOk e40:=ek0
theorem t41:EOk e41:=ek0
theorem t42:EOk e42:=ek0
theorem t43:EOk e43:=ek [e30,e42,e39,e41,e11,e2,e4] ⟨t30,t42,t39,t41,t11,t2,t4,trivial⟩
theorem t44:EOk e44:=ek0
theorem t45:EOk e45:=ek [e30,e44,e40,e42,e39,e41,e11,e2,e4] ⟨t30,t44,t40,t42,t39,t41,t11,t2,t4,trivial⟩
theorem t46:EOk e46:=ek0
theorem t47:EOk e47:=ek [e29,e46,e44,e41,e39,e40,e4,e2,e11] ⟨t29,t46,t44,t41,t39,t40,t4,t2,t11,trivial⟩
theorem t48:EOk e48:=ek [e38,e39,e40,e41,e42,e43,e44,e45,e46,e47] ⟨t38,t39,t40,t41,t42,t43,t44,t45,t46,t47,trivial⟩
theorem t49:EOk e49:=ek0
theorem t50:EOk e50:=ek [e38,e39,e40,e41,e42,e43,e44,e45,e46] ⟨t38,t39,t40,t41,t42,t43,t44,t45,t46,trivial⟩
theorem t51:EOk e51:=ek [e38,e39,e40,e41,e42,e43,e44,e45,e46,e47] ⟨t38,t39,t40,t41,t42,t43,t44,t45,t46,t47,trivial⟩
theorem t52:EOk e52:=ek [e29,e44,e41,e39,e40,e4,e2,e11] ⟨t29,t44,t41,t39,t40,t4,t2,t11,trivial⟩
end Go.Lyc.T
