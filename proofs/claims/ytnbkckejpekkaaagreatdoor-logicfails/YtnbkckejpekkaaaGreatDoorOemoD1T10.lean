/-
  A long run, in parts. No conditions: each part stands by itself.
-/
import Derived.Test.YtnbkckejpekkaaaGreatDoorOemoD1S
import Derived.Test.YtnbkckejpekkaaaGreatDoorOemoD1T0
import Derived.Test.YtnbkckejpekkaaaGreatDoorOemoD1T1
import Derived.Test.YtnbkckejpekkaaaGreatDoorOemoD1T2
import Derived.Test.YtnbkckejpekkaaaGreatDoorOemoD1T3
import Derived.Test.YtnbkckejpekkaaaGreatDoorOemoD1T4
import Derived.Test.YtnbkckejpekkaaaGreatDoorOemoD1T5
import Derived.Test.YtnbkckejpekkaaaGreatDoorOemoD1T6
import Derived.Test.YtnbkckejpekkaaaGreatDoorOemoD1T7
import Derived.Test.YtnbkckejpekkaaaGreatDoorOemoD1T8
import Derived.Test.YtnbkckejpekkaaaGreatDoorOemoD1T9
import Derived.KernelRfl
set_option linter.all false
noncomputable section
namespace Go.Lyc.T
open Go.Lyc
set_option maxRecDepth 1000000
set_option maxHeartbeats 0
theorem q1_g34 : loopB (base.env []) (ACode.lL (ACode.bK (ACode.sB (ACode.sA (ACode.sB (ACode.sB (ACode.sB q1_b))))))) 16 99514 q1_f34 q1_s34 q1_f35 q1_s35 = true := by decide +kernel
theorem q1_g35 : loopB (base.env []) (ACode.lL (ACode.bK (ACode.sB (ACode.sA (ACode.sB (ACode.sB (ACode.sB q1_b))))))) 16 99498 q1_f35 q1_s35 q1_f36 q1_s36 = true := by decide +kernel
theorem q1_n36 : Runs (base.env []) 99481 (ACode.lL (ACode.bK (ACode.sB (ACode.sA (ACode.sB (ACode.sB (ACode.sB q1_b))))))) q1_f36 q1_s36 (.exit 5) q1_f37 q1_s37 := .leaf (by decide +kernel)
theorem q1_n37e : Runs (base.env []) 99482 (ACode.bK (ACode.sB (ACode.sA (ACode.sB (ACode.sB (ACode.sB q1_b)))))) q1_f36 q1_s36 (.exit 5) q1_f37 q1_s37 := .last (by kernel_rfl) q1_n36
theorem q1_n37p31 : Runs (base.env []) 99498 (ACode.bK (ACode.sB (ACode.sA (ACode.sB (ACode.sB (ACode.sB q1_b)))))) q1_f35 q1_s35 (.exit 5) q1_f37 q1_s37 := .group (F := 99482) (k := 16) (by kernel_rfl) rfl q1_g35 q1_n37e
theorem q1_n37p30 : Runs (base.env []) 99514 (ACode.bK (ACode.sB (ACode.sA (ACode.sB (ACode.sB (ACode.sB q1_b)))))) q1_f34 q1_s34 (.exit 5) q1_f37 q1_s37 := .group (F := 99498) (k := 16) (by kernel_rfl) rfl q1_g34 q1_n37p31
theorem q1_n37p29 : Runs (base.env []) 99530 (ACode.bK (ACode.sB (ACode.sA (ACode.sB (ACode.sB (ACode.sB q1_b)))))) q1_f33 q1_s33 (.exit 5) q1_f37 q1_s37 := .group (F := 99514) (k := 16) (by kernel_rfl) rfl q1_g33 q1_n37p30
theorem q1_n37p28 : Runs (base.env []) 99546 (ACode.bK (ACode.sB (ACode.sA (ACode.sB (ACode.sB (ACode.sB q1_b)))))) q1_f32 q1_s32 (.exit 5) q1_f37 q1_s37 := .group (F := 99530) (k := 16) (by kernel_rfl) rfl q1_g32 q1_n37p29
theorem q1_n37p27 : Runs (base.env []) 99562 (ACode.bK (ACode.sB (ACode.sA (ACode.sB (ACode.sB (ACode.sB q1_b)))))) q1_f31 q1_s31 (.exit 5) q1_f37 q1_s37 := .group (F := 99546) (k := 16) (by kernel_rfl) rfl q1_g31 q1_n37p28
theorem q1_n37p26 : Runs (base.env []) 99578 (ACode.bK (ACode.sB (ACode.sA (ACode.sB (ACode.sB (ACode.sB q1_b)))))) q1_f30 q1_s30 (.exit 5) q1_f37 q1_s37 := .group (F := 99562) (k := 16) (by kernel_rfl) rfl q1_g30 q1_n37p27
theorem q1_n37p25 : Runs (base.env []) 99594 (ACode.bK (ACode.sB (ACode.sA (ACode.sB (ACode.sB (ACode.sB q1_b)))))) q1_f29 q1_s29 (.exit 5) q1_f37 q1_s37 := .group (F := 99578) (k := 16) (by kernel_rfl) rfl q1_g29 q1_n37p26
theorem q1_n37p24 : Runs (base.env []) 99610 (ACode.bK (ACode.sB (ACode.sA (ACode.sB (ACode.sB (ACode.sB q1_b)))))) q1_f28 q1_s28 (.exit 5) q1_f37 q1_s37 := .group (F := 99594) (k := 16) (by kernel_rfl) rfl q1_g28 q1_n37p25
theorem q1_n37p23 : Runs (base.env []) 99626 (ACode.bK (ACode.sB (ACode.sA (ACode.sB (ACode.sB (ACode.sB q1_b)))))) q1_f27 q1_s27 (.exit 5) q1_f37 q1_s37 := .group (F := 99610) (k := 16) (by kernel_rfl) rfl q1_g27 q1_n37p24
theorem q1_n37p22 : Runs (base.env []) 99642 (ACode.bK (ACode.sB (ACode.sA (ACode.sB (ACode.sB (ACode.sB q1_b)))))) q1_f26 q1_s26 (.exit 5) q1_f37 q1_s37 := .group (F := 99626) (k := 16) (by kernel_rfl) rfl q1_g26 q1_n37p23
theorem q1_n37p21 : Runs (base.env []) 99658 (ACode.bK (ACode.sB (ACode.sA (ACode.sB (ACode.sB (ACode.sB q1_b)))))) q1_f25 q1_s25 (.exit 5) q1_f37 q1_s37 := .group (F := 99642) (k := 16) (by kernel_rfl) rfl q1_g25 q1_n37p22
theorem q1_n37p20 : Runs (base.env []) 99674 (ACode.bK (ACode.sB (ACode.sA (ACode.sB (ACode.sB (ACode.sB q1_b)))))) q1_f24 q1_s24 (.exit 5) q1_f37 q1_s37 := .group (F := 99658) (k := 16) (by kernel_rfl) rfl q1_g24 q1_n37p21
theorem q1_n37p19 : Runs (base.env []) 99690 (ACode.bK (ACode.sB (ACode.sA (ACode.sB (ACode.sB (ACode.sB q1_b)))))) q1_f23 q1_s23 (.exit 5) q1_f37 q1_s37 := .group (F := 99674) (k := 16) (by kernel_rfl) rfl q1_g23 q1_n37p20
theorem q1_n37p18 : Runs (base.env []) 99706 (ACode.bK (ACode.sB (ACode.sA (ACode.sB (ACode.sB (ACode.sB q1_b)))))) q1_f22 q1_s22 (.exit 5) q1_f37 q1_s37 := .group (F := 99690) (k := 16) (by kernel_rfl) rfl q1_g22 q1_n37p19
theorem q1_n37p17 : Runs (base.env []) 99722 (ACode.bK (ACode.sB (ACode.sA (ACode.sB (ACode.sB (ACode.sB q1_b)))))) q1_f21 q1_s21 (.exit 5) q1_f37 q1_s37 := .group (F := 99706) (k := 16) (by kernel_rfl) rfl q1_g21 q1_n37p18
theorem q1_n37p16 : Runs (base.env []) 99738 (ACode.bK (ACode.sB (ACode.sA (ACode.sB (ACode.sB (ACode.sB q1_b)))))) q1_f20 q1_s20 (.exit 5) q1_f37 q1_s37 := .group (F := 99722) (k := 16) (by kernel_rfl) rfl q1_g20 q1_n37p17
theorem q1_n37p15 : Runs (base.env []) 99754 (ACode.bK (ACode.sB (ACode.sA (ACode.sB (ACode.sB (ACode.sB q1_b)))))) q1_f19 q1_s19 (.exit 5) q1_f37 q1_s37 := .group (F := 99738) (k := 16) (by kernel_rfl) rfl q1_g19 q1_n37p16
theorem q1_n37p14 : Runs (base.env []) 99770 (ACode.bK (ACode.sB (ACode.sA (ACode.sB (ACode.sB (ACode.sB q1_b)))))) q1_f18 q1_s18 (.exit 5) q1_f37 q1_s37 := .group (F := 99754) (k := 16) (by kernel_rfl) rfl q1_g18 q1_n37p15
theorem q1_n37p13 : Runs (base.env []) 99786 (ACode.bK (ACode.sB (ACode.sA (ACode.sB (ACode.sB (ACode.sB q1_b)))))) q1_f17 q1_s17 (.exit 5) q1_f37 q1_s37 := .group (F := 99770) (k := 16) (by kernel_rfl) rfl q1_g17 q1_n37p14
theorem q1_n37p12 : Runs (base.env []) 99802 (ACode.bK (ACode.sB (ACode.sA (ACode.sB (ACode.sB (ACode.sB q1_b)))))) q1_f16 q1_s16 (.exit 5) q1_f37 q1_s37 := .group (F := 99786) (k := 16) (by kernel_rfl) rfl q1_g16 q1_n37p13
theorem q1_n37p11 : Runs (base.env []) 99818 (ACode.bK (ACode.sB (ACode.sA (ACode.sB (ACode.sB (ACode.sB q1_b)))))) q1_f15 q1_s15 (.exit 5) q1_f37 q1_s37 := .group (F := 99802) (k := 16) (by kernel_rfl) rfl q1_g15 q1_n37p12
theorem q1_n37p10 : Runs (base.env []) 99834 (ACode.bK (ACode.sB (ACode.sA (ACode.sB (ACode.sB (ACode.sB q1_b)))))) q1_f14 q1_s14 (.exit 5) q1_f37 q1_s37 := .group (F := 99818) (k := 16) (by kernel_rfl) rfl q1_g14 q1_n37p11
theorem q1_n37p9 : Runs (base.env []) 99850 (ACode.bK (ACode.sB (ACode.sA (ACode.sB (ACode.sB (ACode.sB q1_b)))))) q1_f13 q1_s13 (.exit 5) q1_f37 q1_s37 := .group (F := 99834) (k := 16) (by kernel_rfl) rfl q1_g13 q1_n37p10
theorem q1_n37p8 : Runs (base.env []) 99866 (ACode.bK (ACode.sB (ACode.sA (ACode.sB (ACode.sB (ACode.sB q1_b)))))) q1_f12 q1_s12 (.exit 5) q1_f37 q1_s37 := .group (F := 99850) (k := 16) (by kernel_rfl) rfl q1_g12 q1_n37p9
theorem q1_n37p7 : Runs (base.env []) 99882 (ACode.bK (ACode.sB (ACode.sA (ACode.sB (ACode.sB (ACode.sB q1_b)))))) q1_f11 q1_s11 (.exit 5) q1_f37 q1_s37 := .group (F := 99866) (k := 16) (by kernel_rfl) rfl q1_g11 q1_n37p8
theorem q1_n37p6 : Runs (base.env []) 99898 (ACode.bK (ACode.sB (ACode.sA (ACode.sB (ACode.sB (ACode.sB q1_b)))))) q1_f10 q1_s10 (.exit 5) q1_f37 q1_s37 := .group (F := 99882) (k := 16) (by kernel_rfl) rfl q1_g10 q1_n37p7
theorem q1_n37p5 : Runs (base.env []) 99914 (ACode.bK (ACode.sB (ACode.sA (ACode.sB (ACode.sB (ACode.sB q1_b)))))) q1_f9 q1_s9 (.exit 5) q1_f37 q1_s37 := .group (F := 99898) (k := 16) (by kernel_rfl) rfl q1_g9 q1_n37p6
theorem q1_n37p4 : Runs (base.env []) 99930 (ACode.bK (ACode.sB (ACode.sA (ACode.sB (ACode.sB (ACode.sB q1_b)))))) q1_f8 q1_s8 (.exit 5) q1_f37 q1_s37 := .group (F := 99914) (k := 16) (by kernel_rfl) rfl q1_g8 q1_n37p5
theorem q1_n37p3 : Runs (base.env []) 99946 (ACode.bK (ACode.sB (ACode.sA (ACode.sB (ACode.sB (ACode.sB q1_b)))))) q1_f7 q1_s7 (.exit 5) q1_f37 q1_s37 := .group (F := 99930) (k := 16) (by kernel_rfl) rfl q1_g7 q1_n37p4
theorem q1_n37p2 : Runs (base.env []) 99962 (ACode.bK (ACode.sB (ACode.sA (ACode.sB (ACode.sB (ACode.sB q1_b)))))) q1_f6 q1_s6 (.exit 5) q1_f37 q1_s37 := .group (F := 99946) (k := 16) (by kernel_rfl) rfl q1_g6 q1_n37p3
theorem q1_n37p1 : Runs (base.env []) 99978 (ACode.bK (ACode.sB (ACode.sA (ACode.sB (ACode.sB (ACode.sB q1_b)))))) q1_f5 q1_s5 (.exit 5) q1_f37 q1_s37 := .group (F := 99962) (k := 16) (by kernel_rfl) rfl q1_g5 q1_n37p2
theorem q1_n37 : Runs (base.env []) 99994 (ACode.bK (ACode.sB (ACode.sA (ACode.sB (ACode.sB (ACode.sB q1_b)))))) q1_f4 q1_s4 (.exit 5) q1_f37 q1_s37 := .group (F := 99978) (k := 16) (by kernel_rfl) rfl q1_g4 q1_n37p1
theorem q1_n38 : Runs (base.env []) 99995 (ACode.sB (ACode.sA (ACode.sB (ACode.sB (ACode.sB q1_b))))) q1_f4 q1_s4 .normal q1_f37 q1_s37 := .block (by kernel_rfl) q1_n37
theorem q1_n39 : Runs (base.env []) 99996 (ACode.sA (ACode.sB (ACode.sB (ACode.sB q1_b)))) q1_f3 q1_s3 .normal q1_f37 q1_s37 := .seq (by kernel_rfl) q1_n3 q1_n38
theorem q1_n40 : Runs (base.env []) 99996 (ACode.sB (ACode.sB (ACode.sB (ACode.sB q1_b)))) q1_f37 q1_s37 .ret q1_f38 q1_s38 := .leaf (by decide +kernel)
theorem q1_n41 : Runs (base.env []) 99997 (ACode.sB (ACode.sB (ACode.sB q1_b))) q1_f3 q1_s3 .ret q1_f38 q1_s38 := .seq (by kernel_rfl) q1_n39 q1_n40
theorem q1_n42 : Runs (base.env []) 99998 (ACode.sB (ACode.sB q1_b)) q1_f2 q1_s2 .ret q1_f38 q1_s38 := .seq (by kernel_rfl) q1_n2 q1_n41
theorem q1_n43 : Runs (base.env []) 99999 (ACode.sB q1_b) q1_f1 q1_s1 .ret q1_f38 q1_s38 := .seq (by kernel_rfl) q1_n1 q1_n42
theorem q1_n44 : Runs (base.env []) 100000 q1_b q1_f0 q1_s0 .ret q1_f38 q1_s38 := .seq (by kernel_rfl) q1_n0 q1_n43
theorem t483 : EOk e483 := fun B0 => entry_of_runs (ar := e483.2.1) (r := e483.2.2) (fn := c51) (body := q1_b) base_ok TabOk.nil (by kernel_rfl) (by kernel_rfl) (by decide +kernel) (by decide +kernel) q1_n44 (by decide +kernel) B0
end Go.Lyc.T
