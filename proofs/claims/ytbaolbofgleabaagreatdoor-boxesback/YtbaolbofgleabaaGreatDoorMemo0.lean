/-
  Calls, run in the kernel. No conditions: each stands by itself.
-/
import Derived.Test.YtbaolbofgleabaaGreatDoorVals0
set_option linter.all false
noncomputable section
namespace Go.Lyc.T
open Go.Lyc
variable [Tok] [TokOk]
set_option maxRecDepth 1000000
set_option maxHeartbeats 4000000
theorem t0:EOk kv:=kl
theorem t1:EOk aM:=fy [kv] ⟨t0,trivial⟩
theorem t2:EOk aU:=kl
theorem t3:EOk c3:=fy [aU] ⟨t2,trivial⟩
theorem t4:EOk fK:=kl
theorem t5:EOk nT:=fy [fK] ⟨t4,trivial⟩
theorem t6:EOk nU:=kl
theorem t7:EOk CB:=fy [nU] ⟨t6,trivial⟩
theorem t8:EOk z1:=kl
theorem t9:EOk xV:=fy [z1] ⟨t8,trivial⟩
theorem t10:EOk CC:=fy [z1] ⟨t8,trivial⟩
theorem t11:EOk Jt:=kl
theorem t12:EOk O4:=fy [Jt] ⟨t11,trivial⟩
theorem t13:EOk O5:=fy [fK] ⟨t4,trivial⟩
theorem t14:EOk Ju:=kl
theorem t15:EOk O6:=fy [Ju] ⟨t14,trivial⟩
theorem t16:EOk BR:=kl
theorem t17:EOk O7:=fy [BR] ⟨t16,trivial⟩
theorem t18:EOk O8:=fy [BR] ⟨t16,trivial⟩
theorem t19:EOk Jv:=kl
theorem t20:EOk O9:=fy [Jv] ⟨t19,trivial⟩
theorem t21:EOk O_:=fy [aU] ⟨t2,trivial⟩
theorem t22:EOk a7q:=fy [aM,c3,nT,CB,xV,CC,O4,O5,O6,O7,O8,O9,O_] ⟨t1,t3,t5,t7,t9,t10,t12,t13,t15,t17,t18,t20,t21,trivial⟩
theorem t23:EOk c8P:=fy [aM,c3,nT,CB,xV,CC,O4,O5,O6,O7,O8,O9,O_] ⟨t1,t3,t5,t7,t9,t10,t12,t13,t15,t17,t18,t20,t21,trivial⟩
theorem t24:EOk BS:=kl
theorem t25:EOk a7r:=fy [BS] ⟨t24,trivial⟩
theorem t26:EOk zb:=kl
theorem t27:EOk a7s:=fy [zb] ⟨t26,trivial⟩
theorem t28:EOk Jw:=kl
theorem t29:EOk a7t:=fy [Jw] ⟨t28,trivial⟩
theorem t30:EOk a7u:=fy [zb] ⟨t26,trivial⟩
theorem t31:EOk Pa:=kl
theorem t32:EOk a7v:=fy [Pa] ⟨t31,trivial⟩
theorem t33:EOk Xa:=kl
theorem t34:EOk a7w:=fy [Xa] ⟨t33,trivial⟩
theorem t35:EOk Pb:=kl
theorem t36:EOk a7x:=fy [Pb] ⟨t35,trivial⟩
theorem t37:EOk Pc:=kl
theorem t38:EOk a7y:=fy [Pc] ⟨t37,trivial⟩
theorem t39:EOk a7z:=fy [aM,c3,nT,CB,xV,CC,O4,O5,O6,O7,O8,O9,O_,a7r,a7s,a7t,a7u,a7v,a7w,a7x,a7y] ⟨t1,t3,t5,t7,t9,t10,t12,t13,t15,t17,t18,t20,t21,t25,t27,t29,t30,t32,t34,t36,t38,trivial⟩
theorem t40:EOk Pd:=fy [kv,aU,fK] ⟨t0,t2,t4,trivial⟩
theorem t41:EOk Pe:=fy [aU,kv] ⟨t2,t0,trivial⟩
theorem t42:EOk Pf:=fy [fK,kv] ⟨t4,t0,trivial⟩
theorem t43:EOk Pg:=fy [nU,aU] ⟨t6,t2,trivial⟩
theorem t44:EOk Ph:=fy [nU,fK] ⟨t6,t4,trivial⟩
theorem t45:EOk Pj:=fy [z1,nU,aU,fK] ⟨t8,t6,t2,t4,trivial⟩
theorem t46:EOk Jx:=fy [Jt,fK,aU] ⟨t11,t4,t2,trivial⟩
theorem t47:EOk Pk:=fy [fK,Jt,aU] ⟨t4,t11,t2,trivial⟩
theorem t48:EOk Pl:=fy [Ju,BR,aU] ⟨t14,t16,t2,trivial⟩
theorem t49:EOk Pm:=fy [BR,aU,Ju] ⟨t16,t2,t14,trivial⟩
theorem t50:EOk Pn:=fy [aU,BR] ⟨t2,t16,trivial⟩
theorem t51:EOk Po:=fy [Jv,fK,aU] ⟨t19,t4,t2,trivial⟩
theorem t52:EOk Pp:=fy [fK,Jv,aU] ⟨t4,t19,t2,trivial⟩
theorem t53:EOk Pq:=fy [aU,Jv,fK] ⟨t2,t19,t4,trivial⟩
theorem t54:EOk Pr:=fy [aU,BR,Ju] ⟨t2,t16,t14,trivial⟩
end Go.Lyc.T
