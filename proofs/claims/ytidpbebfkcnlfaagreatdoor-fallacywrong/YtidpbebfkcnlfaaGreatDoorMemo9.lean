/-
  Calls, run in the kernel. No conditions: each stands by itself.
-/
import Derived.Test.YtidpbebfkcnlfaaGreatDoorMemo8
set_option linter.all false
noncomputable section
namespace Go.Lyc.T
open Go.Lyc
variable [Tok] [TokOk]
set_option maxRecDepth 1000000
set_option maxHeartbeats 4000000
theorem t813:EOk e813:=ek [e788] ⟨t788,trivial⟩
theorem t814:EOk e814:=ek [e813] ⟨t813,trivial⟩
theorem t815:EOk e815:=ek [e813] ⟨t813,trivial⟩
theorem t816:EOk e816:=ek [e813] ⟨t813,trivial⟩
theorem t817:EOk e817:=ek [e816] ⟨t816,trivial⟩
theorem t818:EOk e818:=ek0
theorem t819:EOk e819:=ek [e789,e364,e818,e377] ⟨t789,t364,t818,t377,trivial⟩
theorem t820:EOk e820:=ek0
theorem t821:EOk e821:=ek0
theorem t822:EOk e822:=ek [e789,e155,e364,e3,e818,e821,e377,e31] ⟨t789,t155,t364,t3,t818,t821,t377,t31,trivial⟩
theorem t823:EOk e823:=ek0
theorem t824:EOk e824:=ek [e789,e155,e791,e364,e3,e5,e818,e821,e823,e377,e31,e32] ⟨t789,t155,t791,t364,t3,t5,t818,t821,t823,t377,t31,t32,trivial⟩
theorem t825:EOk e825:=ek0
theorem t826:EOk e826:=ek0
theorem t827:EOk e827:=ek [e789,e155,e791,e793,e364,e3,e5,e9,e818,e821,e823,e826,e377,e31,e32,e43] ⟨t789,t155,t791,t793,t364,t3,t5,t9,t818,t821,t823,t826,t377,t31,t32,t43,trivial⟩
theorem t828:EOk e828:=ek0
theorem t829:EOk e829:=ek0
theorem t830:EOk e830:=ek0
theorem t831:EOk e831:=ek [e795,e797,e829,e830] ⟨t795,t797,t829,t830,trivial⟩
theorem t832:EOk e832:=ek0
theorem t833:EOk e833:=ek0
theorem t834:EOk e834:=ek [e797,e795,e830,e829] ⟨t797,t795,t830,t829,trivial⟩
theorem t835:EOk e835:=ek0
theorem t836:EOk e836:=ek [e799,e364,e835,e377] ⟨t799,t364,t835,t377,trivial⟩
theorem t837:EOk e837:=ek0
theorem t838:EOk e838:=ek0
theorem t839:EOk e839:=ek [e799,e153,e364,e3,e835,e838,e377,e31] ⟨t799,t153,t364,t3,t835,t838,t377,t31,trivial⟩
theorem t840:EOk e840:=ek0
theorem t841:EOk e841:=ek [e799,e153,e801,e364,e3,e5,e835,e838,e840,e377,e31,e32] ⟨t799,t153,t801,t364,t3,t5,t835,t838,t840,t377,t31,t32,trivial⟩
theorem t842:EOk e842:=ek0
theorem t843:EOk e843:=ek0
theorem t844:EOk e844:=ek [e799,e153,e801,e803,e364,e3,e5,e9,e835,e838,e840,e843,e377,e31,e32,e43] ⟨t799,t153,t801,t803,t364,t3,t5,t9,t835,t838,t840,t843,t377,t31,t32,t43,trivial⟩
theorem t845:EOk e845:=ek0
theorem t846:EOk e846:=ek [e3,e153,e31,e838] ⟨t3,t153,t31,t838,trivial⟩
theorem t847:EOk e847:=ek0
theorem t848:EOk e848:=ek [e805,e153,e847,e838] ⟨t805,t153,t847,t838,trivial⟩
theorem t849:EOk e849:=ek0
theorem t850:EOk e850:=ek [e153,e3,e155,e838,e31,e821] ⟨t153,t3,t155,t838,t31,t821,trivial⟩
theorem t851:EOk e851:=ek0
theorem t852:EOk e852:=ek [e157,e5,e851,e32] ⟨t157,t5,t851,t32,trivial⟩
theorem t853:EOk e853:=ek0
theorem t854:EOk e854:=ek [e157,e3,e808,e851,e31,e853] ⟨t157,t3,t808,t851,t31,t853,trivial⟩
theorem t855:EOk e855:=ek0
theorem t856:EOk e856:=ek [e9,e157,e5,e3,e793,e43,e851,e32,e31,e826] ⟨t9,t157,t5,t3,t793,t43,t851,t32,t31,t826,trivial⟩
theorem t857:EOk e857:=ek [e788,e33,e34,e35,e36,e37,e38,e40,e41,e42,e44,e45,e47,e48,e49,e52,e53,e54,e55,e56,e58,e59,e60,e61,e62,e819,e820,e380,e822,e196,e824,e825,e827,e828,e831,e832,e833,e834,e836,e837,e839,e195,e841,e842,e844,e845,e846,e848,e849,e850,e852,e197,e854,e855,e856] ⟨t788,t33,t34,t35,t36,t37,t38,t40,t41,t42,t44,t45,t47,t48,t49,t52,t53,t54,t55,t56,t58,t59,t60,t61,t62,t819,t820,t380,t822,t196,t824,t825,t827,t828,t831,t832,t833,t834,t836,t837,t839,t195,t841,t842,t844,t845,t846,t848,t849,t850,t852,t197,t854,t855,t856,trivial⟩
theorem t858:EOk e858:=ek [e857,e661] ⟨t857,t661,trivial⟩
theorem t859:EOk e859:=ek [e857,e858] ⟨t857,t858,trivial⟩
theorem t860:EOk e860:=ek [e857,e664] ⟨t857,t664,trivial⟩
theorem t861(h812:EOk e812):EOk e861:=ek [e857,e812,e860] ⟨t857,h812,t860,trivial⟩
theorem t863(h812:EOk e812)(h862:EOk e862):EOk e863:=ek [e857,e812,e862] ⟨t857,h812,h862,trivial⟩
theorem t864:EOk e864:=ek0
theorem t865:EOk e865:=ek [e670] ⟨t670,trivial⟩
theorem t866:EOk e866:=ek [e865] ⟨t865,trivial⟩
theorem t867:EOk e867:=ek [e865] ⟨t865,trivial⟩
theorem t868:EOk e868:=ek [e865] ⟨t865,trivial⟩
theorem t869:EOk e869:=ek [e868] ⟨t868,trivial⟩
theorem t870:EOk e870:=ek2 [] trivial
theorem t871:EOk e871:=ek2 [e870] ⟨t870,trivial⟩
theorem t872:EOk e872:=ek2 [] trivial
theorem t873:EOk e873:=ek2 [e872] ⟨t872,trivial⟩
theorem t874:EOk e874:=ek2 [] trivial
theorem t875:EOk e875:=ek2 [e121,e551,e328,e330,e871,e873,e874] ⟨t121,t551,t328,t330,t871,t873,t874,trivial⟩
theorem t876:EOk e876:=ek2 [e159,e559,e875,e557] ⟨t159,t559,t875,t557,trivial⟩
end Go.Lyc.T
