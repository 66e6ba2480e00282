/-
  Calls, run in the kernel. No conditions: each stands by itself.
-/
import Derived.Test.YtbifkbdapfadfaaGreatDoorHals0
set_option linter.all false
noncomputable section
namespace Go.Lyc.T
open Go.Lyc
set_option maxRecDepth 1000000
set_option maxHeartbeats 4000000
theorem t0 : EOk e0 := eok [] trivial (by decide +kernel)
theorem t1 : EOk e1 := eok [] trivial (by decide +kernel)
theorem t2 : EOk e2 := eok [e1] ⟨t1, trivial⟩ (by decide +kernel)
theorem t3 : EOk e3 := eok [] trivial (by decide +kernel)
theorem t4 : EOk e4 := eok [e3] ⟨t3, trivial⟩ (by decide +kernel)
theorem t5 : EOk e5 := eok [e1, e3] ⟨t1, t3, trivial⟩ (by decide +kernel)
theorem t6 : EOk e6 := eok [e2, e4, e1, e3, e5] ⟨t2, t4, t1, t3, t5, trivial⟩ (by decide +kernel)
theorem t7 : EOk e7 := eok [e1] ⟨t1, trivial⟩ (by decide +kernel)
theorem t8 : EOk e8 := eok [e2, e1, e7] ⟨t2, t1, t7, trivial⟩ (by decide +kernel)
theorem t9 : EOk e9 := eok [e3] ⟨t3, trivial⟩ (by decide +kernel)
theorem t10 : EOk e10 := eok [e4, e3, e9] ⟨t4, t3, t9, trivial⟩ (by decide +kernel)
theorem t11 : EOk e11 := eok [e1, e3] ⟨t1, t3, trivial⟩ (by decide +kernel)
theorem t12 : EOk e12 := eok [e2, e4, e1, e3, e11] ⟨t2, t4, t1, t3, t11, trivial⟩ (by decide +kernel)
theorem t13 : EOk e13 := eok [] trivial (by decide +kernel)
theorem t14 : EOk e14 := eok [e13] ⟨t13, trivial⟩ (by decide +kernel)
theorem t15 : EOk e15 := eok [e13] ⟨t13, trivial⟩ (by decide +kernel)
theorem t16 : EOk e16 := eok [e14, e13, e15] ⟨t14, t13, t15, trivial⟩ (by decide +kernel)
theorem t17 : EOk e17 := eok [e14, e13, e15] ⟨t14, t13, t15, trivial⟩ (by decide +kernel)
theorem t18 : EOk e18 := eok [e1, e3] ⟨t1, t3, trivial⟩ (by decide +kernel)
theorem t19 : EOk e19 := eok [e2, e4, e1, e3, e18] ⟨t2, t4, t1, t3, t18, trivial⟩ (by decide +kernel)
theorem t20 : EOk e20 := eok [e4, e3, e9] ⟨t4, t3, t9, trivial⟩ (by decide +kernel)
theorem t21 : EOk e21 := eok [e1] ⟨t1, trivial⟩ (by decide +kernel)
theorem t22 : EOk e22 := eok [e2, e1, e21] ⟨t2, t1, t21, trivial⟩ (by decide +kernel)
theorem t23 : EOk e23 := eok [] trivial (by decide +kernel)
theorem t24 : EOk e24 := eok [e23] ⟨t23, trivial⟩ (by decide +kernel)
theorem t25 : EOk e25 := eok [e23] ⟨t23, trivial⟩ (by decide +kernel)
theorem t26 : EOk e26 := eok [e1, e3] ⟨t1, t3, trivial⟩ (by decide +kernel)
theorem t27 : EOk e27 := eok [e2, e4, e1, e3, e26] ⟨t2, t4, t1, t3, t26, trivial⟩ (by decide +kernel)
theorem t28 : EOk e28 := eok [e2, e1, e7] ⟨t2, t1, t7, trivial⟩ (by decide +kernel)
theorem t29 : EOk e29 := eok [e0, e6, e8, e10, e12, e16, e17, e19, e20, e22, e24, e25, e27, e28] ⟨t0, t6, t8, t10, t12, t16, t17, t19, t20, t22, t24, t25, t27, t28, trivial⟩ (by decide +kernel)
theorem t30 : EOk e30 := eok [] trivial (by decide +kernel)
theorem t31 : EOk e31 := eok [e30, e6, e8, e10, e12, e16, e17, e19, e20, e22, e24, e25, e27, e28] ⟨t30, t6, t8, t10, t12, t16, t17, t19, t20, t22, t24, t25, t27, t28, trivial⟩ (by decide +kernel)
theorem t32 : EOk e32 := eok [e5, e7, e9, e2, e4, e1, e3] ⟨t5, t7, t9, t2, t4, t1, t3, trivial⟩ (by decide +kernel)
theorem t33 : EOk e33 := eok [e7, e5, e2, e1, e4, e3] ⟨t7, t5, t2, t1, t4, t3, trivial⟩ (by decide +kernel)
theorem t34 : EOk e34 := eok [e9, e5, e4, e3, e2, e1] ⟨t9, t5, t4, t3, t2, t1, trivial⟩ (by decide +kernel)
end Go.Lyc.T
