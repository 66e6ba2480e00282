/-
  Calls, run in the kernel. No conditions: each stands by itself.
-/
import Derived.Test.YtepnpmoabkhboaaGreatDoorVals0
set_option linter.all false
noncomputable section
namespace Go.Lyc.T
open Go.Lyc
variable [Tok] [TokOk]
set_option maxRecDepth 1000000
set_option maxHeartbeats 4000000
theorem t0:aL jP:=bL
theorem t1:aL aF:=bL
theorem t2:aL aV:=bL
theorem t3:aL dp:=bL
theorem t4:aL jA:=bL
theorem t5:aL zp:=bL
theorem t6:aL tr:=bL
theorem t7:aL rX:=bL
theorem t8:aL Ju:=bL
theorem t9:aL Pj:=bL
theorem t10:aL Pk:=bL
theorem t11:aL c2d:=bL
theorem t12:aL c2e:=bL
theorem t13:aL c2f:=bL
theorem t14:aL c2g:=bL
theorem t15:aL c2h:=bL
theorem t16:aL c2i:=bL
theorem t17:aL c2j:=bL
theorem t18:aL c2k:=bL
theorem t19:aL c2l:=bL
theorem t20:aL c2m:=bL
theorem t21:aL c2n:=bL
theorem t22:aL c2o:=bL
theorem t23:aL c2p:=bL
theorem t24:CW c2q:=a3E [] trivial [] trivial [13]
theorem t25:CW c2r:=a3E [] trivial [] trivial []
theorem t26:aL Tz:=bL
theorem t27:aL v_:=bL
theorem t28:aL uu:=bl [v_] ⟨t27,trivial⟩
theorem t29:aL gv:=bL
theorem t30:aL mo:=bl [gv] ⟨t29,trivial⟩
theorem t31:aL wa:=bl [mo] ⟨t30,trivial⟩
theorem t32:aL jK:=bL
theorem t33:aL qb:=bl [jK] ⟨t32,trivial⟩
theorem t34:aL wb:=bl [qb] ⟨t33,trivial⟩
theorem t35:aL wc:=bl [uu] ⟨t28,trivial⟩
theorem t36:aL we:=bL
theorem t37:aL uv:=bl [we] ⟨t36,trivial⟩
theorem t38:aL qc:=bL
theorem t39:aL wg:=bl [qc] ⟨t38,trivial⟩
theorem t40:aL wh:=bl [uv] ⟨t37,trivial⟩
theorem t41:aL AS:=bl [qc] ⟨t38,trivial⟩
theorem t42:aL wi:=bl [mo,AS] ⟨t30,t41,trivial⟩
theorem t43:aL wj:=bl [qb,AS] ⟨t33,t41,trivial⟩
theorem t44:aL AT:=bL
theorem t45:aL uw:=bl [AT] ⟨t44,trivial⟩
theorem t46:aL MR:=bl [jK] ⟨t32,trivial⟩
theorem t47:aL wk:=bl [mo,MR] ⟨t30,t46,trivial⟩
theorem t48:aL wm:=bl [uw] ⟨t45,trivial⟩
theorem t49:aL ys:=bL
theorem t50:aL sP:=bl [ys] ⟨t49,trivial⟩
theorem t51:aL qd:=bL
theorem t52:aL TA:=bl [qd] ⟨t51,trivial⟩
theorem t53:aL wo:=bl [mo,TA] ⟨t30,t52,trivial⟩
theorem t54:aL ux:=bl [qd] ⟨t51,trivial⟩
theorem t55:aL wq:=bl [sP] ⟨t50,trivial⟩
theorem t56:aL wu:=bl [ux] ⟨t54,trivial⟩
theorem t57:aL wv:=bL
theorem t58:aL uy:=bl [wv] ⟨t57,trivial⟩
theorem t59:aL a5A:=bl [gv] ⟨t29,trivial⟩
theorem t60:aL wy:=bl [qb,a5A] ⟨t33,t59,trivial⟩
theorem t61:aL wz:=bl [uy] ⟨t58,trivial⟩
theorem t62:aL yt:=bl [sP,TA] ⟨t50,t52,trivial⟩
theorem t63:aL TB:=bl [Tz,uu,wa,wb,mo,wc,qb,uv,wg,wh,wi,wj,uw,wk,wm,sP,wo,ux,wq,wu,uy,wy,wz,yt] ⟨t26,t28,t31,t34,t30,t35,t33,t37,t39,t40,t42,t43,t45,t47,t48,t50,t53,t54,t55,t56,t58,t60,t61,t62,trivial⟩
theorem t64:aL c2s:=bl [TB] ⟨t63,trivial⟩
theorem t65:aL MS:=bL
theorem t66:aL iO:=bL
theorem t67:aL mq:=bL
theorem t68:aL uz:=bl [v_,gv,jK,MS,iO,mq] ⟨t27,t29,t32,t65,t66,t67,trivial⟩
theorem t69:aL wA:=bL
theorem t70:aL wB:=bL
theorem t71:aL wC:=bL
theorem t72:aL uA:=bl [gv,v_,iO,MS] ⟨t29,t27,t66,t65,trivial⟩
theorem t73:aL uB:=bl [jK,v_,mq,MS] ⟨t32,t27,t67,t65,trivial⟩
theorem t74:aL MT:=bL
theorem t75:aL uC:=bl [we,gv,MT,iO] ⟨t36,t29,t74,t66,trivial⟩
theorem t76:aL wD:=bL
theorem t77:aL uD:=bl [we,jK,MT,mq] ⟨t36,t32,t74,t67,trivial⟩
theorem t78:aL AU:=bL
theorem t79:aL uE:=bl [qc,we,gv,jK,AU,MT,iO,mq] ⟨t38,t36,t29,t32,t78,t74,t66,t67,trivial⟩
theorem t80:aL wE:=bL
theorem t81:aL TC:=bL
theorem t82:aL uF:=bl [AT,jK,gv,TC,mq,iO] ⟨t44,t32,t29,t81,t67,t66,trivial⟩
theorem t83:aL wF:=bL
theorem t84:aL uG:=bl [jK,AT,gv,mq,TC,iO] ⟨t32,t44,t29,t67,t81,t66,trivial⟩
theorem t85:aL MU:=bL
theorem t86:aL Hx:=bL
theorem t87:aL uH:=bl [ys,qd,gv,MU,Hx,iO] ⟨t49,t51,t29,t85,t86,t66,trivial⟩
theorem t88:aL wG:=bL
theorem t89:aL wH:=bL
theorem t90:aL sQ:=bl [qd,gv,ys,Hx,iO,MU] ⟨t51,t29,t49,t86,t66,t85,trivial⟩
theorem t91:aL uI:=bl [gv,qd,iO,Hx] ⟨t29,t51,t66,t86,trivial⟩
theorem t92:aL MV:=bL
theorem t93:aL uJ:=bl [wv,jK,gv,MV,mq,iO] ⟨t57,t32,t29,t92,t67,t66,trivial⟩
theorem t94:aL wI:=bL
end Go.Lyc.T
