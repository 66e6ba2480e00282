/-
  Calls, run in the kernel. No conditions: each stands by itself.
-/
import Derived.Test.YtbaolbofgleabaaGreatDoorMemo0
set_option linter.all false
noncomputable section
namespace Go.Lyc.T
open Go.Lyc
variable [Tok] [TokOk]
set_option maxRecDepth 1000000
set_option maxHeartbeats 4000000
theorem t55:EOk a7A:=fy [Pd,Pe,Pf,Pg,Ph,Pj,Jx,Pk,Pl,Pm,Pn,Po,Pp,Pq,Pr] ⟨t40,t41,t42,t43,t44,t45,t46,t47,t48,t49,t50,t51,t52,t53,t54,trivial⟩
theorem t56:EOk a7B:=kl
theorem t57:EOk a7C:=kl
theorem t58:EOk a7D:=fy [Jx,a7C,a7B,fK,Jt] ⟨t46,t57,t56,t4,t11,trivial⟩
theorem t59:EOk a7E:=kl
theorem t60:EOk Xb:=fy [Jx,a7E,a7C,a7B,fK,aU,Jt] ⟨t46,t59,t57,t56,t4,t2,t11,trivial⟩
theorem t61:EOk a7F:=fy [Jx,a7C,a7B,fK,Jt] ⟨t46,t57,t56,t4,t11,trivial⟩
theorem t62:EOk a7G:=kl
theorem t63:EOk a7H:=fy [Jx,a7C,a7B,a7G,fK,aU,Jt] ⟨t46,t57,t56,t62,t4,t2,t11,trivial⟩
theorem t64:EOk a7I:=fy [BS,zb] ⟨t24,t26,trivial⟩
theorem t65:EOk a7J:=fy [BS,Jw,zb,aU] ⟨t24,t28,t26,t2,trivial⟩
theorem t66:EOk a7K:=fy [BS,Jw,Pa,zb,aU,fK] ⟨t24,t28,t31,t26,t2,t4,trivial⟩
theorem t67:EOk a7L:=fy [BS,Jw,Pa,Xa,zb,aU,fK,z1] ⟨t24,t28,t31,t33,t26,t2,t4,t8,trivial⟩
theorem t68:EOk a7M:=fy [Pb,Pc] ⟨t35,t37,trivial⟩
theorem t69:EOk a7N:=fy [Pc,Pb] ⟨t37,t35,trivial⟩
theorem t70:EOk c8Q:=fy [Pd,Pe,Pf,Pg,Ph,Pj,Jx,Pk,Pl,Pm,Pn,Po,Pp,Pq,Pr,a7I,a7J,a7K,a7L,a7M,a7N] ⟨t40,t41,t42,t43,t44,t45,t46,t47,t48,t49,t50,t51,t52,t53,t54,t64,t65,t66,t67,t68,t69,trivial⟩
theorem t71:EOk b5F:=kl
theorem t72:EOk b5V:=fy [Jx,b5F,a7B,fK,aU,Jt] ⟨t46,t71,t56,t4,t2,t11,trivial⟩
theorem t73:EOk b5J:=kl
theorem t74:EOk b5W:=fy [a7I,b5J,b5F,zb,BS] ⟨t64,t73,t71,t26,t24,trivial⟩
theorem t75:EOk b5X:=kl
theorem t76:EOk b6y:=fy [a7q,a7z,a7A,a7B,a7C,a7D,a7E,Xb,a7F,aU,a7G,a7H,c8Q,b5F,b5V,b5J,b5W,b5X] ⟨t22,t39,t55,t56,t57,t58,t59,t60,t61,t2,t62,t63,t70,t71,t72,t73,t74,t75,trivial⟩
end Go.Lyc.T
