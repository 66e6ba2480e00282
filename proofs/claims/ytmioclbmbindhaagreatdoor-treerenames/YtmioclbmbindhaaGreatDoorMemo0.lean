/-
  Calls, run in the kernel. No conditions: each stands by itself.
-/
import Derived.Test.YtmioclbmbindhaaGreatDoorVals0
set_option linter.all false
noncomputable section
namespace Go.Lyc.T
open Go.Lyc
variable [Tok] [TokOk]
set_option maxRecDepth 1000000
set_option maxHeartbeats 4000000
theorem t0:EOk cj:=o0
theorem t1:EOk aM:=fN [cj] ⟨t0,trivial⟩
theorem t2:EOk e2:=o0
theorem t3:EOk dn:=fN [e2] ⟨t2,trivial⟩
theorem t4:EOk fe:=o0
theorem t5:EOk kq:=fN [fe] ⟨t4,trivial⟩
theorem t6:EOk pE:=o0
theorem t7:EOk ux:=fN [pE] ⟨t6,trivial⟩
theorem t8:EOk lr:=o0
theorem t9:EOk uy:=fN [lr] ⟨t8,trivial⟩
theorem t10:EOk CQ:=fN [lr] ⟨t8,trivial⟩
theorem t11:EOk vg:=o0
theorem t12:EOk PZ:=fN [vg] ⟨t11,trivial⟩
theorem t13:EOk P0:=fN [fe] ⟨t4,trivial⟩
theorem t14:EOk E9:=o0
theorem t15:EOk P1:=fN [E9] ⟨t14,trivial⟩
theorem t16:EOk y9:=o0
theorem t17:EOk P2:=fN [y9] ⟨t16,trivial⟩
theorem t18:EOk P3:=fN [y9] ⟨t16,trivial⟩
theorem t19:EOk E_:=o0
theorem t20:EOk P4:=fN [E_] ⟨t19,trivial⟩
theorem t21:EOk P5:=fN [e2] ⟨t2,trivial⟩
theorem t22:EOk a0j:=fN [aM,dn,kq,ux,uy,CQ,PZ,P0,P1,P2,P3,P4,P5] ⟨t1,t3,t5,t7,t9,t10,t12,t13,t15,t17,t18,t20,t21,trivial⟩
theorem t23:EOk a0k:=fN [aM,dn,kq,ux,uy,CQ,PZ,P0,P1,P2,P3,P4,P5] ⟨t1,t3,t5,t7,t9,t10,t12,t13,t15,t17,t18,t20,t21,trivial⟩
theorem t24:EOk P6:=fN [cj,e2,fe] ⟨t0,t2,t4,trivial⟩
theorem t25:EOk P7:=fN [e2,cj] ⟨t2,t0,trivial⟩
theorem t26:EOk P8:=fN [fe,cj] ⟨t4,t0,trivial⟩
theorem t27:EOk P9:=fN [pE,e2] ⟨t6,t2,trivial⟩
theorem t28:EOk P_:=fN [pE,fe] ⟨t6,t4,trivial⟩
theorem t29:EOk Qa:=fN [lr,pE,e2,fe] ⟨t8,t6,t2,t4,trivial⟩
theorem t30:EOk JY:=fN [vg,fe,e2] ⟨t11,t4,t2,trivial⟩
theorem t31:EOk Qb:=fN [fe,vg,e2] ⟨t4,t11,t2,trivial⟩
theorem t32:EOk Qc:=fN [E9,y9,e2] ⟨t14,t16,t2,trivial⟩
theorem t33:EOk Qd:=fN [y9,e2,E9] ⟨t16,t2,t14,trivial⟩
theorem t34:EOk Qe:=fN [e2,y9] ⟨t2,t16,trivial⟩
theorem t35:EOk Qf:=fN [E_,fe,e2] ⟨t19,t4,t2,trivial⟩
theorem t36:EOk Qg:=fN [fe,E_,e2] ⟨t4,t19,t2,trivial⟩
theorem t37:EOk Qh:=fN [e2,E_,fe] ⟨t2,t19,t4,trivial⟩
theorem t38:EOk a0l:=fN [e2,y9,E9] ⟨t2,t16,t14,trivial⟩
theorem t39:EOk Bt:=fN [P6,P7,P8,P9,P_,Qa,JY,Qb,Qc,Qd,Qe,Qf,Qg,Qh,a0l] ⟨t24,t25,t26,t27,t28,t29,t30,t31,t32,t33,t34,t35,t36,t37,t38,trivial⟩
theorem t40:EOk wY:=o0
theorem t41:EOk a0m:=fN [Bt,wY] ⟨t39,t40,trivial⟩
theorem t42:EOk Bu:=o0
theorem t43:EOk a0n:=fN [Bt,Bu] ⟨t39,t42,trivial⟩
theorem t44:EOk a0o:=fN [fe,wY,vg,Bu] ⟨t4,t40,t11,t42,trivial⟩
theorem t45:EOk Bv:=o0
theorem t46:EOk a0p:=fN [Bt,Bv] ⟨t39,t45,trivial⟩
theorem t47:EOk a0q:=fN [fe,Bu,e2,wY,vg,Bv] ⟨t4,t42,t2,t40,t11,t45,trivial⟩
theorem t48:EOk a0r:=fN [fe,Bu,vg,Bv] ⟨t4,t42,t11,t45,trivial⟩
theorem t49:EOk Fa:=o0
theorem t50:EOk a0s:=fN [Bt,Fa] ⟨t39,t49,trivial⟩
theorem t51:EOk Py:=fN [fe,wY,vg,Fa] ⟨t4,t40,t11,t49,trivial⟩
theorem t52:EOk a0t:=fN [fe,Fa,e2,wY,vg,Bv] ⟨t4,t49,t2,t40,t11,t45,trivial⟩
theorem t53:EOk JZ:=fN [P6,P7,P8,P9,P_,Qa,JY,Qb,Qc,Qd,Qe,Qf,Qg,Qh] ⟨t24,t25,t26,t27,t28,t29,t30,t31,t32,t33,t34,t35,t36,t37,trivial⟩
theorem t54:EOk Qi:=o0
theorem t55:EOk a0u:=fN [JZ,Qi] ⟨t53,t54,trivial⟩
theorem t56:EOk a0v:=fN [JZ,wY] ⟨t53,t40,trivial⟩
theorem t57:EOk b8e:=fN [a0j,a0k,Bt,a0m,wY,a0n,JY,Bu,a0o,a0p,Bv,a0q,a0r,a0s,Fa,Py,a0t,JZ,a0u,Qi,a0v] ⟨t22,t23,t39,t41,t40,t43,t30,t42,t44,t46,t45,t47,t48,t50,t49,t51,t52,t53,t55,t54,t56,trivial⟩
end Go.Lyc.T
