/-
  Calls, run in the kernel. No conditions: each stands by itself.
-/
import Derived.Test.YtbifkbdapfadfaaGreatDoorHemo0
set_option linter.all false
noncomputable section
namespace Go.Lyc.T
open Go.Lyc
set_option maxRecDepth 1000000
set_option maxHeartbeats 4000000
theorem t35 : EOk e35 := eok [e11, e7, e2, e4, e1, e3] ⟨t11, t7, t2, t4, t1, t3, trivial⟩ (by decide +kernel)
theorem t36 : EOk e36 := eok [e11, e9, e2, e4, e1, e3] ⟨t11, t9, t2, t4, t1, t3, trivial⟩ (by decide +kernel)
theorem t37 : EOk e37 := eok [e15, e11, e7, e9, e14, e13, e2, e4, e1, e3] ⟨t15, t11, t7, t9, t14, t13, t2, t4, t1, t3, trivial⟩ (by decide +kernel)
theorem t38 : EOk e38 := eok [e18, e9, e7, e2, e4, e1, e3] ⟨t18, t9, t7, t2, t4, t1, t3, trivial⟩ (by decide +kernel)
theorem t39 : EOk e39 := eok [e9, e18, e7, e4, e3, e2, e1] ⟨t9, t18, t7, t4, t3, t2, t1, trivial⟩ (by decide +kernel)
theorem t40 : EOk e40 := eok [e21, e23, e7, e2, e1] ⟨t21, t23, t7, t2, t1, trivial⟩ (by decide +kernel)
theorem t41 : EOk e41 := eok [e23, e7, e21, e2, e1] ⟨t23, t7, t21, t2, t1, trivial⟩ (by decide +kernel)
theorem t42 : EOk e42 := eok [e7, e23, e2, e1] ⟨t7, t23, t2, t1, trivial⟩ (by decide +kernel)
theorem t43 : EOk e43 := eok [e26, e9, e7, e2, e4, e1, e3] ⟨t26, t9, t7, t2, t4, t1, t3, trivial⟩ (by decide +kernel)
theorem t44 : EOk e44 := eok [e9, e26, e7, e4, e3, e2, e1] ⟨t9, t26, t7, t4, t3, t2, t1, trivial⟩ (by decide +kernel)
theorem t45 : EOk e45 := eok [e7, e26, e9, e2, e1, e4, e3] ⟨t7, t26, t9, t2, t1, t4, t3, trivial⟩ (by decide +kernel)
theorem t46 : EOk e46 := eok [e0, e32, e33, e34, e35, e36, e37, e38, e39, e40, e41, e42, e43, e44, e45] ⟨t0, t32, t33, t34, t35, t36, t37, t38, t39, t40, t41, t42, t43, t44, t45, trivial⟩ (by decide +kernel)
theorem t47 : EOk e47 := eok [e7, e23, e21, e2, e1] ⟨t7, t23, t21, t2, t1, trivial⟩ (by decide +kernel)
theorem t48 : EOk e48 := eok [e30, e32, e33, e34, e35, e36, e37, e38, e39, e40, e41, e42, e43, e44, e45, e47] ⟨t30, t32, t33, t34, t35, t36, t37, t38, t39, t40, t41, t42, t43, t44, t45, t47, trivial⟩ (by decide +kernel)
theorem t49 : EOk e49 := eok [] trivial (by decide +kernel)
theorem t50 : EOk e50 := eok [] trivial (by decide +kernel)
theorem t51 : EOk e51 := eok [] trivial (by decide +kernel)
theorem t52 : EOk e52 := eok [] trivial (by decide +kernel)
theorem t53 : EOk e53 := eok [] trivial (by decide +kernel)
theorem t54 : EOk e54 := eok [] trivial (by decide +kernel)
theorem t55 : EOk e55 := eok [] trivial (by decide +kernel)
theorem t56 : EOk e56 := eok [] trivial (by decide +kernel)
theorem t57 : EOk e57 := eok [] trivial (by decide +kernel)
theorem t58 : EOk e58 := eok [] trivial (by decide +kernel)
theorem t59 : EOk e59 := eok [] trivial (by decide +kernel)
theorem t60 : EOk e60 := eok [] trivial (by decide +kernel)
theorem t61 : EOk e61 := eok [] trivial (by decide +kernel)
theorem t62 : EOk e62 := eok [] trivial (by decide +kernel)
theorem t63 : EOk e63 := eok [e49, e50, e51, e52, e53, e54, e55, e56, e57, e58, e59, e60, e61, e62] ⟨t49, t50, t51, t52, t53, t54, t55, t56, t57, t58, t59, t60, t61, t62, trivial⟩ (by decide +kernel)
theorem t64 : EOk e64 := eok [] trivial (by decide +kernel)
theorem t65 : EOk e65 := eok [] trivial (by decide +kernel)
theorem t66 : EOk e66 := eok [e65, e1] ⟨t65, t1, trivial⟩ (by decide +kernel)
theorem t67 : EOk e67 := eok [e65, e2, e1, e66] ⟨t65, t2, t1, t66, trivial⟩ (by decide +kernel)
theorem t68 : EOk e68 := eok [] trivial (by decide +kernel)
theorem t69 : EOk e69 := eok [] trivial (by decide +kernel)
theorem t70 : EOk e70 := eok [e68, e69] ⟨t68, t69, trivial⟩ (by decide +kernel)
theorem t71 : EOk e71 := eok [] trivial (by decide +kernel)
theorem t72 : EOk e72 := eok [e1, e65, e69, e71] ⟨t1, t65, t69, t71, trivial⟩ (by decide +kernel)
theorem t73 : EOk e73 := eok [e2, e70, e65, e1, e69, e72] ⟨t2, t70, t65, t1, t69, t72, trivial⟩ (by decide +kernel)
theorem t74 : EOk e74 := eok [] trivial (by decide +kernel)
theorem t75 : EOk e75 := eok [] trivial (by decide +kernel)
theorem t76 : EOk e76 := eok [e74, e75] ⟨t74, t75, trivial⟩ (by decide +kernel)
theorem t77 : EOk e77 := eok [] trivial (by decide +kernel)
theorem t78 : EOk e78 := eok [e1, e65, e75, e77] ⟨t1, t65, t75, t77, trivial⟩ (by decide +kernel)
theorem t79 : EOk e79 := eok [e2, e76, e65, e1, e75, e78] ⟨t2, t76, t65, t1, t75, t78, trivial⟩ (by decide +kernel)
theorem t80 : EOk e80 := eok [e65, e1] ⟨t65, t1, trivial⟩ (by decide +kernel)
theorem t81 : EOk e81 := eok [e65, e2, e1, e80] ⟨t65, t2, t1, t80, trivial⟩ (by decide +kernel)
end Go.Lyc.T
