/-
  Calls, run in the kernel. No conditions: each stands by itself.
-/
import Derived.Test.YtidpbebfkcnlfaaGreatDoorVals0
set_option linter.all false
noncomputable section
namespace Go.Lyc.T
open Go.Lyc
variable [Tok] [TokOk]
set_option maxRecDepth 1000000
set_option maxHeartbeats 4000000
theorem t0:EOk e0:=ek0
theorem t1:EOk e1:=ek0
theorem t2:EOk e2:=ek [e1] ⟨t1,trivial⟩
theorem t3:EOk e3:=ek0
theorem t4:EOk e4:=ek [e3] ⟨t3,trivial⟩
theorem t5:EOk e5:=ek0
theorem t6:EOk e6:=ek [e5] ⟨t5,trivial⟩
theorem t7:EOk e7:=ek0
theorem t8:EOk e8:=ek [e7] ⟨t7,trivial⟩
theorem t9:EOk e9:=ek0
theorem t10:EOk e10:=ek [e9] ⟨t9,trivial⟩
theorem t11:EOk e11:=ek [e9] ⟨t9,trivial⟩
theorem t12:EOk e12:=ek0
theorem t13:EOk e13:=ek [e12] ⟨t12,trivial⟩
theorem t14:EOk e14:=ek [e5] ⟨t5,trivial⟩
theorem t15:EOk e15:=ek0
theorem t16:EOk e16:=ek [e15] ⟨t15,trivial⟩
theorem t17:EOk e17:=ek0
theorem t18:EOk e18:=ek [e17] ⟨t17,trivial⟩
theorem t19:EOk e19:=ek [e17] ⟨t17,trivial⟩
theorem t20:EOk e20:=ek0
theorem t21:EOk e21:=ek [e20] ⟨t20,trivial⟩
theorem t22:EOk e22:=ek [e3] ⟨t3,trivial⟩
theorem t23:EOk e23:=ek [e0,e2,e4,e6,e8,e10,e11,e13,e14,e16,e18,e19,e21,e22] ⟨t0,t2,t4,t6,t8,t10,t11,t13,t14,t16,t18,t19,t21,t22,trivial⟩
theorem t24:EOk e24:=ek0
theorem t25:EOk e25:=ek [e24] ⟨t24,trivial⟩
theorem t26:EOk e26:=ek0
theorem t27:EOk e27:=ek [e26] ⟨t26,trivial⟩
theorem t28:EOk e28:=ek0
theorem t29:EOk e29:=ek [e28] ⟨t28,trivial⟩
theorem t30:EOk e30:=ek0
theorem t31:EOk e31:=ek0
theorem t32:EOk e32:=ek0
theorem t33:EOk e33:=ek [e1,e3,e5,e30,e31,e32] ⟨t1,t3,t5,t30,t31,t32,trivial⟩
theorem t34:EOk e34:=ek0
theorem t35:EOk e35:=ek0
theorem t36:EOk e36:=ek0
theorem t37:EOk e37:=ek [e3,e1,e31,e30] ⟨t3,t1,t31,t30,trivial⟩
theorem t38:EOk e38:=ek [e5,e1,e32,e30] ⟨t5,t1,t32,t30,trivial⟩
theorem t39:EOk e39:=ek0
theorem t40:EOk e40:=ek [e7,e3,e39,e31] ⟨t7,t3,t39,t31,trivial⟩
theorem t41:EOk e41:=ek0
theorem t42:EOk e42:=ek [e7,e5,e39,e32] ⟨t7,t5,t39,t32,trivial⟩
theorem t43:EOk e43:=ek0
theorem t44:EOk e44:=ek [e9,e7,e3,e5,e43,e39,e31,e32] ⟨t9,t7,t3,t5,t43,t39,t31,t32,trivial⟩
theorem t45:EOk e45:=ek0
theorem t46:EOk e46:=ek0
theorem t47:EOk e47:=ek [e12,e5,e3,e46,e32,e31] ⟨t12,t5,t3,t46,t32,t31,trivial⟩
theorem t48:EOk e48:=ek0
theorem t49:EOk e49:=ek [e5,e12,e3,e32,e46,e31] ⟨t5,t12,t3,t32,t46,t31,trivial⟩
theorem t50:EOk e50:=ek0
theorem t51:EOk e51:=ek0
theorem t52:EOk e52:=ek [e15,e17,e3,e50,e51,e31] ⟨t15,t17,t3,t50,t51,t31,trivial⟩
theorem t53:EOk e53:=ek0
theorem t54:EOk e54:=ek0
theorem t55:EOk e55:=ek [e17,e3,e15,e51,e31,e50] ⟨t17,t3,t15,t51,t31,t50,trivial⟩
theorem t56:EOk e56:=ek [e3,e17,e31,e51] ⟨t3,t17,t31,t51,trivial⟩
theorem t57:EOk e57:=ek0
theorem t58:EOk e58:=ek [e20,e5,e3,e57,e32,e31] ⟨t20,t5,t3,t57,t32,t31,trivial⟩
theorem t59:EOk e59:=ek0
theorem t60:EOk e60:=ek [e5,e20,e3,e32,e57,e31] ⟨t5,t20,t3,t32,t57,t31,trivial⟩
theorem t61:EOk e61:=ek [e3,e20,e5,e31,e57,e32] ⟨t3,t20,t5,t31,t57,t32,trivial⟩
theorem t62:EOk e62:=ek [e3,e17,e15,e31,e51,e50] ⟨t3,t17,t15,t31,t51,t50,trivial⟩
theorem t63:EOk e63:=ek [e0,e33,e34,e35,e36,e37,e38,e40,e41,e42,e44,e45,e47,e48,e49,e52,e53,e54,e55,e56,e58,e59,e60,e61,e62] ⟨t0,t33,t34,t35,t36,t37,t38,t40,t41,t42,t44,t45,t47,t48,t49,t52,t53,t54,t55,t56,t58,t59,t60,t61,t62,trivial⟩
theorem t64:EOk e64:=ek0
theorem t65:EOk e65:=ek [e63,e28,e64] ⟨t63,t28,t64,trivial⟩
theorem t66:EOk e66:=ek0
theorem t67:EOk e67:=ek [e63,e24,e66] ⟨t63,t24,t66,trivial⟩
theorem t68:EOk e68:=ek0
theorem t69:EOk e69:=ek [e63,e26,e68] ⟨t63,t26,t68,trivial⟩
theorem t70:EOk e70:=ek0
theorem t71:EOk e71:=ek [e70] ⟨t70,trivial⟩
theorem t72:EOk e72:=ek [e71,e3,e24,e5,e26,e1,e28] ⟨t71,t3,t24,t5,t26,t1,t28,trivial⟩
theorem t73:EOk e73:=ek [e33,e28,e24,e26,e72] ⟨t33,t28,t24,t26,t72,trivial⟩
theorem t74:EOk e74:=ek [e71,e3,e26,e5,e24,e1,e28] ⟨t71,t3,t26,t5,t24,t1,t28,trivial⟩
theorem t75:EOk e75:=ek [e33,e28,e26,e24,e74] ⟨t33,t28,t26,t24,t74,trivial⟩
theorem t76:EOk e76:=ek [e71,e12,e24,e3,e26,e5,e28] ⟨t71,t12,t24,t3,t26,t5,t28,trivial⟩
theorem t77:EOk e77:=ek [e49,e28,e24,e26,e76] ⟨t49,t28,t24,t26,t76,trivial⟩
theorem t78:EOk e78:=ek [e71,e12,e26,e3,e24,e5,e28] ⟨t71,t12,t26,t3,t24,t5,t28,trivial⟩
theorem t79:EOk e79:=ek [e49,e28,e26,e24,e78] ⟨t49,t28,t26,t24,t78,trivial⟩
theorem t80:EOk e80:=ek [e71,e3,e24,e15,e26,e17,e28] ⟨t71,t3,t24,t15,t26,t17,t28,trivial⟩
theorem t81:EOk e81:=ek [e55,e28,e24,e26,e80] ⟨t55,t28,t24,t26,t80,trivial⟩
theorem t82:EOk e82:=ek [e71,e3,e26,e15,e24,e17,e28] ⟨t71,t3,t26,t15,t24,t17,t28,trivial⟩
theorem t83:EOk e83:=ek [e55,e28,e26,e24,e82] ⟨t55,t28,t26,t24,t82,trivial⟩
theorem t84:EOk e84:=ek [e71,e5,e24,e3,e26,e20,e28] ⟨t71,t5,t24,t3,t26,t20,t28,trivial⟩
theorem t85:EOk e85:=ek [e58,e28,e24,e26,e84] ⟨t58,t28,t24,t26,t84,trivial⟩
theorem t86:EOk e86:=ek [e71,e5,e26,e3,e24,e20,e28] ⟨t71,t5,t26,t3,t24,t20,t28,trivial⟩
theorem t87:EOk e87:=ek [e58,e28,e26,e24,e86] ⟨t58,t28,t26,t24,t86,trivial⟩
theorem t88:EOk e88:=ek [e71,e20,e24,e3,e26,e5,e28] ⟨t71,t20,t24,t3,t26,t5,t28,trivial⟩
theorem t89:EOk e89:=ek [e60,e28,e24,e26,e88] ⟨t60,t28,t24,t26,t88,trivial⟩
theorem t90:EOk e90:=ek [e71,e20,e26,e3,e24,e5,e28] ⟨t71,t20,t26,t3,t24,t5,t28,trivial⟩
end Go.Lyc.T
