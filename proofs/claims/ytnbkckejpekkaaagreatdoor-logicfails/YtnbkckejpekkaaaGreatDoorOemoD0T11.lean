/-
  A long run, in parts. No conditions: each part stands by itself.
-/
import Derived.Test.YtnbkckejpekkaaaGreatDoorOemoD0S
import Derived.Test.YtnbkckejpekkaaaGreatDoorOemoD0T0
import Derived.Test.YtnbkckejpekkaaaGreatDoorOemoD0T1
import Derived.Test.YtnbkckejpekkaaaGreatDoorOemoD0T2
import Derived.Test.YtnbkckejpekkaaaGreatDoorOemoD0T3
import Derived.Test.YtnbkckejpekkaaaGreatDoorOemoD0T4
import Derived.Test.YtnbkckejpekkaaaGreatDoorOemoD0T5
import Derived.Test.YtnbkckejpekkaaaGreatDoorOemoD0T6
import Derived.Test.YtnbkckejpekkaaaGreatDoorOemoD0T7
import Derived.Test.YtnbkckejpekkaaaGreatDoorOemoD0T8
import Derived.Test.YtnbkckejpekkaaaGreatDoorOemoD0T9
import Derived.Test.YtnbkckejpekkaaaGreatDoorOemoD0T10
import Derived.KernelRfl
set_option linter.all false
noncomputable section
namespace Go.Lyc.T
open Go.Lyc
set_option maxRecDepth 1000000
set_option maxHeartbeats 0
theorem q0_g37 : loopB (base.env []) (ACode.lL (ACode.bK (ACode.sB (ACode.sA (ACode.sB (ACode.sB (ACode.sB q0_b))))))) 15 99509 q0_f37 q0_s37 q0_f38 q0_s38 = true := by decide +kernel
theorem q0_g38 : loopB (base.env []) (ACode.lL (ACode.bK (ACode.sB (ACode.sA (ACode.sB (ACode.sB (ACode.sB q0_b))))))) 12 99494 q0_f38 q0_s38 q0_f39 q0_s39 = true := by decide +kernel
theorem q0_n39 : Runs (base.env []) 99481 (ACode.lL (ACode.bK (ACode.sB (ACode.sA (ACode.sB (ACode.sB (ACode.sB q0_b))))))) q0_f39 q0_s39 (.exit 5) q0_f40 q0_s40 := .leaf (by decide +kernel)
theorem q0_n40e : Runs (base.env []) 99482 (ACode.bK (ACode.sB (ACode.sA (ACode.sB (ACode.sB (ACode.sB q0_b)))))) q0_f39 q0_s39 (.exit 5) q0_f40 q0_s40 := .last (by kernel_rfl) q0_n39
theorem q0_n40p34 : Runs (base.env []) 99494 (ACode.bK (ACode.sB (ACode.sA (ACode.sB (ACode.sB (ACode.sB q0_b)))))) q0_f38 q0_s38 (.exit 5) q0_f40 q0_s40 := .group (F := 99482) (k := 12) (by kernel_rfl) rfl q0_g38 q0_n40e
theorem q0_n40p33 : Runs (base.env []) 99509 (ACode.bK (ACode.sB (ACode.sA (ACode.sB (ACode.sB (ACode.sB q0_b)))))) q0_f37 q0_s37 (.exit 5) q0_f40 q0_s40 := .group (F := 99494) (k := 15) (by kernel_rfl) rfl q0_g37 q0_n40p34
theorem q0_n40p32 : Runs (base.env []) 99523 (ACode.bK (ACode.sB (ACode.sA (ACode.sB (ACode.sB (ACode.sB q0_b)))))) q0_f36 q0_s36 (.exit 5) q0_f40 q0_s40 := .group (F := 99509) (k := 14) (by kernel_rfl) rfl q0_g36 q0_n40p33
theorem q0_n40p31 : Runs (base.env []) 99538 (ACode.bK (ACode.sB (ACode.sA (ACode.sB (ACode.sB (ACode.sB q0_b)))))) q0_f35 q0_s35 (.exit 5) q0_f40 q0_s40 := .group (F := 99523) (k := 15) (by kernel_rfl) rfl q0_g35 q0_n40p32
theorem q0_n40p30 : Runs (base.env []) 99553 (ACode.bK (ACode.sB (ACode.sA (ACode.sB (ACode.sB (ACode.sB q0_b)))))) q0_f34 q0_s34 (.exit 5) q0_f40 q0_s40 := .group (F := 99538) (k := 15) (by kernel_rfl) rfl q0_g34 q0_n40p31
theorem q0_n40p29 : Runs (base.env []) 99567 (ACode.bK (ACode.sB (ACode.sA (ACode.sB (ACode.sB (ACode.sB q0_b)))))) q0_f33 q0_s33 (.exit 5) q0_f40 q0_s40 := .group (F := 99553) (k := 14) (by kernel_rfl) rfl q0_g33 q0_n40p30
theorem q0_n40p28 : Runs (base.env []) 99582 (ACode.bK (ACode.sB (ACode.sA (ACode.sB (ACode.sB (ACode.sB q0_b)))))) q0_f32 q0_s32 (.exit 5) q0_f40 q0_s40 := .group (F := 99567) (k := 15) (by kernel_rfl) rfl q0_g32 q0_n40p29
theorem q0_n40p27 : Runs (base.env []) 99596 (ACode.bK (ACode.sB (ACode.sA (ACode.sB (ACode.sB (ACode.sB q0_b)))))) q0_f31 q0_s31 (.exit 5) q0_f40 q0_s40 := .group (F := 99582) (k := 14) (by kernel_rfl) rfl q0_g31 q0_n40p28
theorem q0_n40p26 : Runs (base.env []) 99611 (ACode.bK (ACode.sB (ACode.sA (ACode.sB (ACode.sB (ACode.sB q0_b)))))) q0_f30 q0_s30 (.exit 5) q0_f40 q0_s40 := .group (F := 99596) (k := 15) (by kernel_rfl) rfl q0_g30 q0_n40p27
theorem q0_n40p25 : Runs (base.env []) 99625 (ACode.bK (ACode.sB (ACode.sA (ACode.sB (ACode.sB (ACode.sB q0_b)))))) q0_f29 q0_s29 (.exit 5) q0_f40 q0_s40 := .group (F := 99611) (k := 14) (by kernel_rfl) rfl q0_g29 q0_n40p26
theorem q0_n40p24 : Runs (base.env []) 99640 (ACode.bK (ACode.sB (ACode.sA (ACode.sB (ACode.sB (ACode.sB q0_b)))))) q0_f28 q0_s28 (.exit 5) q0_f40 q0_s40 := .group (F := 99625) (k := 15) (by kernel_rfl) rfl q0_g28 q0_n40p25
theorem q0_n40p23 : Runs (base.env []) 99654 (ACode.bK (ACode.sB (ACode.sA (ACode.sB (ACode.sB (ACode.sB q0_b)))))) q0_f27 q0_s27 (.exit 5) q0_f40 q0_s40 := .group (F := 99640) (k := 14) (by kernel_rfl) rfl q0_g27 q0_n40p24
theorem q0_n40p22 : Runs (base.env []) 99669 (ACode.bK (ACode.sB (ACode.sA (ACode.sB (ACode.sB (ACode.sB q0_b)))))) q0_f26 q0_s26 (.exit 5) q0_f40 q0_s40 := .group (F := 99654) (k := 15) (by kernel_rfl) rfl q0_g26 q0_n40p23
theorem q0_n40p21 : Runs (base.env []) 99683 (ACode.bK (ACode.sB (ACode.sA (ACode.sB (ACode.sB (ACode.sB q0_b)))))) q0_f25 q0_s25 (.exit 5) q0_f40 q0_s40 := .group (F := 99669) (k := 14) (by kernel_rfl) rfl q0_g25 q0_n40p22
theorem q0_n40p20 : Runs (base.env []) 99697 (ACode.bK (ACode.sB (ACode.sA (ACode.sB (ACode.sB (ACode.sB q0_b)))))) q0_f24 q0_s24 (.exit 5) q0_f40 q0_s40 := .group (F := 99683) (k := 14) (by kernel_rfl) rfl q0_g24 q0_n40p21
theorem q0_n40p19 : Runs (base.env []) 99712 (ACode.bK (ACode.sB (ACode.sA (ACode.sB (ACode.sB (ACode.sB q0_b)))))) q0_f23 q0_s23 (.exit 5) q0_f40 q0_s40 := .group (F := 99697) (k := 15) (by kernel_rfl) rfl q0_g23 q0_n40p20
theorem q0_n40p18 : Runs (base.env []) 99726 (ACode.bK (ACode.sB (ACode.sA (ACode.sB (ACode.sB (ACode.sB q0_b)))))) q0_f22 q0_s22 (.exit 5) q0_f40 q0_s40 := .group (F := 99712) (k := 14) (by kernel_rfl) rfl q0_g22 q0_n40p19
theorem q0_n40p17 : Runs (base.env []) 99741 (ACode.bK (ACode.sB (ACode.sA (ACode.sB (ACode.sB (ACode.sB q0_b)))))) q0_f21 q0_s21 (.exit 5) q0_f40 q0_s40 := .group (F := 99726) (k := 15) (by kernel_rfl) rfl q0_g21 q0_n40p18
theorem q0_n40p16 : Runs (base.env []) 99756 (ACode.bK (ACode.sB (ACode.sA (ACode.sB (ACode.sB (ACode.sB q0_b)))))) q0_f20 q0_s20 (.exit 5) q0_f40 q0_s40 := .group (F := 99741) (k := 15) (by kernel_rfl) rfl q0_g20 q0_n40p17
theorem q0_n40p15 : Runs (base.env []) 99771 (ACode.bK (ACode.sB (ACode.sA (ACode.sB (ACode.sB (ACode.sB q0_b)))))) q0_f19 q0_s19 (.exit 5) q0_f40 q0_s40 := .group (F := 99756) (k := 15) (by kernel_rfl) rfl q0_g19 q0_n40p16
theorem q0_n40p14 : Runs (base.env []) 99786 (ACode.bK (ACode.sB (ACode.sA (ACode.sB (ACode.sB (ACode.sB q0_b)))))) q0_f18 q0_s18 (.exit 5) q0_f40 q0_s40 := .group (F := 99771) (k := 15) (by kernel_rfl) rfl q0_g18 q0_n40p15
theorem q0_n40p13 : Runs (base.env []) 99801 (ACode.bK (ACode.sB (ACode.sA (ACode.sB (ACode.sB (ACode.sB q0_b)))))) q0_f17 q0_s17 (.exit 5) q0_f40 q0_s40 := .group (F := 99786) (k := 15) (by kernel_rfl) rfl q0_g17 q0_n40p14
theorem q0_n40p12 : Runs (base.env []) 99816 (ACode.bK (ACode.sB (ACode.sA (ACode.sB (ACode.sB (ACode.sB q0_b)))))) q0_f16 q0_s16 (.exit 5) q0_f40 q0_s40 := .group (F := 99801) (k := 15) (by kernel_rfl) rfl q0_g16 q0_n40p13
theorem q0_n40p11 : Runs (base.env []) 99831 (ACode.bK (ACode.sB (ACode.sA (ACode.sB (ACode.sB (ACode.sB q0_b)))))) q0_f15 q0_s15 (.exit 5) q0_f40 q0_s40 := .group (F := 99816) (k := 15) (by kernel_rfl) rfl q0_g15 q0_n40p12
theorem q0_n40p10 : Runs (base.env []) 99846 (ACode.bK (ACode.sB (ACode.sA (ACode.sB (ACode.sB (ACode.sB q0_b)))))) q0_f14 q0_s14 (.exit 5) q0_f40 q0_s40 := .group (F := 99831) (k := 15) (by kernel_rfl) rfl q0_g14 q0_n40p11
theorem q0_n40p9 : Runs (base.env []) 99861 (ACode.bK (ACode.sB (ACode.sA (ACode.sB (ACode.sB (ACode.sB q0_b)))))) q0_f13 q0_s13 (.exit 5) q0_f40 q0_s40 := .group (F := 99846) (k := 15) (by kernel_rfl) rfl q0_g13 q0_n40p10
theorem q0_n40p8 : Runs (base.env []) 99875 (ACode.bK (ACode.sB (ACode.sA (ACode.sB (ACode.sB (ACode.sB q0_b)))))) q0_f12 q0_s12 (.exit 5) q0_f40 q0_s40 := .group (F := 99861) (k := 14) (by kernel_rfl) rfl q0_g12 q0_n40p9
theorem q0_n40p7 : Runs (base.env []) 99890 (ACode.bK (ACode.sB (ACode.sA (ACode.sB (ACode.sB (ACode.sB q0_b)))))) q0_f11 q0_s11 (.exit 5) q0_f40 q0_s40 := .group (F := 99875) (k := 15) (by kernel_rfl) rfl q0_g11 q0_n40p8
theorem q0_n40p6 : Runs (base.env []) 99905 (ACode.bK (ACode.sB (ACode.sA (ACode.sB (ACode.sB (ACode.sB q0_b)))))) q0_f10 q0_s10 (.exit 5) q0_f40 q0_s40 := .group (F := 99890) (k := 15) (by kernel_rfl) rfl q0_g10 q0_n40p7
theorem q0_n40p5 : Runs (base.env []) 99920 (ACode.bK (ACode.sB (ACode.sA (ACode.sB (ACode.sB (ACode.sB q0_b)))))) q0_f9 q0_s9 (.exit 5) q0_f40 q0_s40 := .group (F := 99905) (k := 15) (by kernel_rfl) rfl q0_g9 q0_n40p6
theorem q0_n40p4 : Runs (base.env []) 99935 (ACode.bK (ACode.sB (ACode.sA (ACode.sB (ACode.sB (ACode.sB q0_b)))))) q0_f8 q0_s8 (.exit 5) q0_f40 q0_s40 := .group (F := 99920) (k := 15) (by kernel_rfl) rfl q0_g8 q0_n40p5
theorem q0_n40p3 : Runs (base.env []) 99950 (ACode.bK (ACode.sB (ACode.sA (ACode.sB (ACode.sB (ACode.sB q0_b)))))) q0_f7 q0_s7 (.exit 5) q0_f40 q0_s40 := .group (F := 99935) (k := 15) (by kernel_rfl) rfl q0_g7 q0_n40p4
theorem q0_n40p2 : Runs (base.env []) 99965 (ACode.bK (ACode.sB (ACode.sA (ACode.sB (ACode.sB (ACode.sB q0_b)))))) q0_f6 q0_s6 (.exit 5) q0_f40 q0_s40 := .group (F := 99950) (k := 15) (by kernel_rfl) rfl q0_g6 q0_n40p3
theorem q0_n40p1 : Runs (base.env []) 99979 (ACode.bK (ACode.sB (ACode.sA (ACode.sB (ACode.sB (ACode.sB q0_b)))))) q0_f5 q0_s5 (.exit 5) q0_f40 q0_s40 := .group (F := 99965) (k := 14) (by kernel_rfl) rfl q0_g5 q0_n40p2
theorem q0_n40 : Runs (base.env []) 99994 (ACode.bK (ACode.sB (ACode.sA (ACode.sB (ACode.sB (ACode.sB q0_b)))))) q0_f4 q0_s4 (.exit 5) q0_f40 q0_s40 := .group (F := 99979) (k := 15) (by kernel_rfl) rfl q0_g4 q0_n40p1
theorem q0_n41 : Runs (base.env []) 99995 (ACode.sB (ACode.sA (ACode.sB (ACode.sB (ACode.sB q0_b))))) q0_f4 q0_s4 .normal q0_f40 q0_s40 := .block (by kernel_rfl) q0_n40
theorem q0_n42 : Runs (base.env []) 99996 (ACode.sA (ACode.sB (ACode.sB (ACode.sB q0_b)))) q0_f3 q0_s3 .normal q0_f40 q0_s40 := .seq (by kernel_rfl) q0_n3 q0_n41
theorem q0_n43 : Runs (base.env []) 99996 (ACode.sB (ACode.sB (ACode.sB (ACode.sB q0_b)))) q0_f40 q0_s40 .ret q0_f41 q0_s41 := .leaf (by decide +kernel)
theorem q0_n44 : Runs (base.env []) 99997 (ACode.sB (ACode.sB (ACode.sB q0_b))) q0_f3 q0_s3 .ret q0_f41 q0_s41 := .seq (by kernel_rfl) q0_n42 q0_n43
theorem q0_n45 : Runs (base.env []) 99998 (ACode.sB (ACode.sB q0_b)) q0_f2 q0_s2 .ret q0_f41 q0_s41 := .seq (by kernel_rfl) q0_n2 q0_n44
theorem q0_n46 : Runs (base.env []) 99999 (ACode.sB q0_b) q0_f1 q0_s1 .ret q0_f41 q0_s41 := .seq (by kernel_rfl) q0_n1 q0_n45
theorem q0_n47 : Runs (base.env []) 100000 q0_b q0_f0 q0_s0 .ret q0_f41 q0_s41 := .seq (by kernel_rfl) q0_n0 q0_n46
theorem t249 : EOk e249 := fun B0 => entry_of_runs (ar := e249.2.1) (r := e249.2.2) (fn := c51) (body := q0_b) base_ok TabOk.nil (by kernel_rfl) (by kernel_rfl) (by decide +kernel) (by decide +kernel) q0_n47 (by decide +kernel) B0
end Go.Lyc.T
