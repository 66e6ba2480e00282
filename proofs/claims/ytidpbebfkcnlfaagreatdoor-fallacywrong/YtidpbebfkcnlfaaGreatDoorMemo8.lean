/-
  Calls, run in the kernel. No conditions: each stands by itself.
-/
import Derived.Test.YtidpbebfkcnlfaaGreatDoorMemo7
set_option linter.all false
noncomputable section
namespace Go.Lyc.T
open Go.Lyc
variable [Tok] [TokOk]
set_option maxRecDepth 1000000
set_option maxHeartbeats 4000000
theorem t732:EOk e732:=ek [e361] ⟨t361,trivial⟩
theorem t733:EOk e733:=ek [e732] ⟨t732,trivial⟩
theorem t734:EOk e734:=ek [e732] ⟨t732,trivial⟩
theorem t735:EOk e735:=ek [e732] ⟨t732,trivial⟩
theorem t736:EOk e736:=ek [e735] ⟨t735,trivial⟩
theorem t737:EOk e737:=ek [e361,e33,e34,e35,e36,e37,e38,e40,e41,e42,e44,e45,e47,e48,e49,e52,e53,e54,e55,e56,e58,e59,e60,e61,e62,e378,e379,e380,e382,e187,e384,e385,e387,e388,e391,e188,e392,e393,e436] ⟨t361,t33,t34,t35,t36,t37,t38,t40,t41,t42,t44,t45,t47,t48,t49,t52,t53,t54,t55,t56,t58,t59,t60,t61,t62,t378,t379,t380,t382,t187,t384,t385,t387,t388,t391,t188,t392,t393,t436,trivial⟩
theorem t738:EOk e738:=ek [e737,e661] ⟨t737,t661,trivial⟩
theorem t739:EOk e739:=ek [e737,e738] ⟨t737,t738,trivial⟩
theorem t740:EOk e740:=ek [e737,e664] ⟨t737,t664,trivial⟩
theorem t741(h731:EOk e731):EOk e741:=ek [e737,e731,e740] ⟨t737,h731,t740,trivial⟩
theorem t743(h731:EOk e731)(h742:EOk e742):EOk e743:=ek [e737,e731,e742] ⟨t737,h731,h742,trivial⟩
theorem t744:EOk e744:=ek0
theorem t745:EOk e745:=ek [e670] ⟨t670,trivial⟩
theorem t746:EOk e746:=ek [e745] ⟨t745,trivial⟩
theorem t747:EOk e747:=ek [e745] ⟨t745,trivial⟩
theorem t748:EOk e748:=ek [e745] ⟨t745,trivial⟩
theorem t749:EOk e749:=ek [e748] ⟨t748,trivial⟩
theorem t750:EOk e750:=ek [e361,e2,e4,e6,e8,e10,e11,e13,e14,e16,e18,e19,e21,e22,e363,e365,e138,e366,e368,e370,e140,e372,e142] ⟨t361,t2,t4,t6,t8,t10,t11,t13,t14,t16,t18,t19,t21,t22,t363,t365,t138,t366,t368,t370,t140,t372,t142,trivial⟩
theorem t752:EOk e752:=ek [e361] ⟨t361,trivial⟩
theorem t753:EOk e753:=ek [e752] ⟨t752,trivial⟩
theorem t754:EOk e754:=ek [e752] ⟨t752,trivial⟩
theorem t755:EOk e755:=ek [e752] ⟨t752,trivial⟩
theorem t756:EOk e756:=ek [e755] ⟨t755,trivial⟩
theorem t757:EOk e757:=ek [e361,e33,e34,e35,e36,e37,e38,e40,e41,e42,e44,e45,e47,e48,e49,e52,e53,e54,e55,e56,e58,e59,e60,e61,e62,e378,e379,e380,e382,e187,e384,e385,e387,e388,e391,e188,e392,e393,e436,e438,e189] ⟨t361,t33,t34,t35,t36,t37,t38,t40,t41,t42,t44,t45,t47,t48,t49,t52,t53,t54,t55,t56,t58,t59,t60,t61,t62,t378,t379,t380,t382,t187,t384,t385,t387,t388,t391,t188,t392,t393,t436,t438,t189,trivial⟩
theorem t758:EOk e758:=ek [e757,e661] ⟨t757,t661,trivial⟩
theorem t759:EOk e759:=ek [e757,e758] ⟨t757,t758,trivial⟩
theorem t760:EOk e760:=ek [e757,e664] ⟨t757,t664,trivial⟩
theorem t761(h751:EOk e751):EOk e761:=ek [e757,e751,e760] ⟨t757,h751,t760,trivial⟩
theorem t763(h751:EOk e751)(h762:EOk e762):EOk e763:=ek [e757,e751,e762] ⟨t757,h751,h762,trivial⟩
theorem t764:EOk e764:=ek0
theorem t765:EOk e765:=ek [e670] ⟨t670,trivial⟩
theorem t766:EOk e766:=ek [e765] ⟨t765,trivial⟩
theorem t767:EOk e767:=ek [e765] ⟨t765,trivial⟩
theorem t768:EOk e768:=ek [e765] ⟨t765,trivial⟩
theorem t769:EOk e769:=ek [e768] ⟨t768,trivial⟩
theorem t771:EOk e771:=ek [e361] ⟨t361,trivial⟩
theorem t772:EOk e772:=ek [e771] ⟨t771,trivial⟩
theorem t773:EOk e773:=ek [e771] ⟨t771,trivial⟩
theorem t774:EOk e774:=ek [e771] ⟨t771,trivial⟩
theorem t775:EOk e775:=ek [e774] ⟨t774,trivial⟩
theorem t776:EOk e776:=ek [e441,e661] ⟨t441,t661,trivial⟩
theorem t777:EOk e777:=ek [e441,e776] ⟨t441,t776,trivial⟩
theorem t778:EOk e778:=ek [e441,e664] ⟨t441,t664,trivial⟩
theorem t779(h770:EOk e770):EOk e779:=ek [e441,e770,e778] ⟨t441,h770,t778,trivial⟩
theorem t781(h770:EOk e770)(h780:EOk e780):EOk e781:=ek [e441,e770,e780] ⟨t441,h770,h780,trivial⟩
theorem t782:EOk e782:=ek0
theorem t783:EOk e783:=ek [e670] ⟨t670,trivial⟩
theorem t784:EOk e784:=ek [e783] ⟨t783,trivial⟩
theorem t785:EOk e785:=ek [e783] ⟨t783,trivial⟩
theorem t786:EOk e786:=ek [e783] ⟨t783,trivial⟩
theorem t787:EOk e787:=ek [e786] ⟨t786,trivial⟩
theorem t788:EOk e788:=ek0
theorem t789:EOk e789:=ek0
theorem t790:EOk e790:=ek [e789] ⟨t789,trivial⟩
theorem t791:EOk e791:=ek0
theorem t792:EOk e792:=ek [e791] ⟨t791,trivial⟩
theorem t793:EOk e793:=ek0
theorem t794:EOk e794:=ek [e793] ⟨t793,trivial⟩
theorem t795:EOk e795:=ek0
theorem t796:EOk e796:=ek [e795] ⟨t795,trivial⟩
theorem t797:EOk e797:=ek0
theorem t798:EOk e798:=ek [e797] ⟨t797,trivial⟩
theorem t799:EOk e799:=ek0
theorem t800:EOk e800:=ek [e799] ⟨t799,trivial⟩
theorem t801:EOk e801:=ek0
theorem t802:EOk e802:=ek [e801] ⟨t801,trivial⟩
theorem t803:EOk e803:=ek0
theorem t804:EOk e804:=ek [e803] ⟨t803,trivial⟩
theorem t805:EOk e805:=ek0
theorem t806:EOk e806:=ek [e805] ⟨t805,trivial⟩
theorem t807:EOk e807:=ek [e155] ⟨t155,trivial⟩
theorem t808:EOk e808:=ek0
theorem t809:EOk e809:=ek [e808] ⟨t808,trivial⟩
theorem t810:EOk e810:=ek [e793] ⟨t793,trivial⟩
theorem t811:EOk e811:=ek [e788,e2,e4,e6,e8,e10,e11,e13,e14,e16,e18,e19,e21,e22,e790,e365,e156,e366,e792,e794,e796,e798,e800,e154,e802,e804,e806,e807,e158,e809,e810] ⟨t788,t2,t4,t6,t8,t10,t11,t13,t14,t16,t18,t19,t21,t22,t790,t365,t156,t366,t792,t794,t796,t798,t800,t154,t802,t804,t806,t807,t158,t809,t810,trivial⟩
end Go.Lyc.T
