/-
  Calls, run in the kernel. No conditions: each stands by itself.
-/
import Derived.Test.YtdlohhnonefolaaGreatDoorMemo4
set_option linter.all false
noncomputable section
namespace Go.Lyc.T
open Go.Lyc
variable [Tok] [TokOk]
set_option maxRecDepth 1000000
set_option maxHeartbeats 4000000
theorem t415:EOk e415:=ek [e97,e276] ⟨t97,t276,trivial⟩
theorem t416:EOk e416:=ek [e97,e103] ⟨t97,t103,trivial⟩
theorem t417:EOk e417:=ek [e97,e105] ⟨t97,t105,trivial⟩
theorem t418:EOk e418:=ek [e97,e280] ⟨t97,t280,trivial⟩
theorem t419:EOk e419:=ek [e416] ⟨t416,trivial⟩
theorem t420:EOk e420:=ek [e97,e419] ⟨t97,t419,trivial⟩
theorem t421:EOk e421:=ek [e97,e110] ⟨t97,t110,trivial⟩
theorem t422:EOk e422:=ek [e97,e276] ⟨t97,t276,trivial⟩
theorem t423:EOk e423:=ek [e97,e103] ⟨t97,t103,trivial⟩
theorem t424:EOk e424:=ek [e97,e105] ⟨t97,t105,trivial⟩
theorem t425:EOk e425:=ek [e97,e280] ⟨t97,t280,trivial⟩
theorem t426:EOk e426:=ek [e423] ⟨t423,trivial⟩
theorem t427:EOk e427:=ek [e97,e426] ⟨t97,t426,trivial⟩
theorem t428:EOk e428:=ek [e97,e100] ⟨t97,t100,trivial⟩
theorem t429:EOk e429:=ek [e428] ⟨t428,trivial⟩
theorem t430:EOk e430:=ek [e97,e429] ⟨t97,t429,trivial⟩
theorem t431:EOk e431:=ek [e98,e418] ⟨t98,t418,trivial⟩
theorem t432:EOk e432:=ek [e96,e98,e99,e101,e102,e103,e104,e105,e106,e107,e108,e109,e110,e275,e415,e416,e417,e100,e418,e282,e420,e421,e422,e423,e424,e425,e427,e428,e430,e431] ⟨t96,t98,t99,t101,t102,t103,t104,t105,t106,t107,t108,t109,t110,t275,t415,t416,t417,t100,t418,t282,t420,t421,t422,t423,t424,t425,t427,t428,t430,t431,trivial⟩
theorem t433:EOk e433:=ek [e219] ⟨t219,trivial⟩
theorem t434:EOk e434:=ek [e334,e226,e433,e218,e289] ⟨t334,t226,t433,t218,t289,trivial⟩
theorem t435:EOk e435:=ek0
theorem t436:EOk e436:=ek [e2] ⟨t2,trivial⟩
theorem t437:EOk e437:=ek [e334,e340,e226,e11,e433,e218,e436,e1,e289,e113] ⟨t334,t340,t226,t11,t433,t218,t436,t1,t289,t113,trivial⟩
theorem t438:EOk e438:=ek0
theorem t439:EOk e439:=ek [e4] ⟨t4,trivial⟩
theorem t440:EOk e440:=ek [e334,e340,e346,e226,e11,e17,e433,e218,e436,e1,e439,e3,e289,e113,e114] ⟨t334,t340,t346,t226,t11,t17,t433,t218,t436,t1,t439,t3,t289,t113,t114,trivial⟩
theorem t441:EOk e441:=ek0
theorem t442:EOk e442:=ek [e27] ⟨t27,trivial⟩
theorem t443:EOk e443:=ek [e334,e340,e346,e352,e226,e11,e17,e28,e433,e218,e436,e1,e439,e3,e442,e26,e289,e113,e114,e125] ⟨t334,t340,t346,t352,t226,t11,t17,t28,t433,t218,t436,t1,t439,t3,t442,t26,t289,t113,t114,t125,trivial⟩
theorem t444:EOk e444:=ek0
theorem t445:EOk e445:=ek [e2] ⟨t2,trivial⟩
theorem t446:EOk e446:=ek [e2] ⟨t2,trivial⟩
theorem t447:EOk e447:=ek [e354,e360,e445,e1,e446] ⟨t354,t360,t445,t1,t446,trivial⟩
theorem t448:EOk e448:=ek0
theorem t449:EOk e449:=ek0
theorem t450:EOk e450:=ek [e360,e354,e446,e1,e445] ⟨t360,t354,t446,t1,t445,trivial⟩
theorem t451:EOk e451:=ek [e219] ⟨t219,trivial⟩
theorem t452:EOk e452:=ek [e366,e226,e451,e218,e289] ⟨t366,t226,t451,t218,t289,trivial⟩
theorem t453:EOk e453:=ek0
theorem t454:EOk e454:=ek [e2] ⟨t2,trivial⟩
theorem t455:EOk e455:=ek [e366,e372,e226,e11,e451,e218,e454,e1,e289,e113] ⟨t366,t372,t226,t11,t451,t218,t454,t1,t289,t113,trivial⟩
theorem t456:EOk e456:=ek0
theorem t457:EOk e457:=ek [e4] ⟨t4,trivial⟩
theorem t458:EOk e458:=ek [e366,e372,e378,e226,e11,e17,e451,e218,e454,e1,e457,e3,e289,e113,e114] ⟨t366,t372,t378,t226,t11,t17,t451,t218,t454,t1,t457,t3,t289,t113,t114,trivial⟩
theorem t459:EOk e459:=ek0
theorem t460:EOk e460:=ek [e27] ⟨t27,trivial⟩
theorem t461:EOk e461:=ek [e366,e372,e378,e384,e226,e11,e17,e28,e451,e218,e454,e1,e457,e3,e460,e26,e289,e113,e114,e125] ⟨t366,t372,t378,t384,t226,t11,t17,t28,t451,t218,t454,t1,t457,t3,t460,t26,t289,t113,t114,t125,trivial⟩
theorem t462:EOk e462:=ek0
theorem t463:EOk e463:=ek [e11,e372,e113,e1,e454] ⟨t11,t372,t113,t1,t454,trivial⟩
theorem t464:EOk e464:=ek [e2] ⟨t2,trivial⟩
theorem t465:EOk e465:=ek [e386,e372,e464,e1,e454] ⟨t386,t372,t464,t1,t454,trivial⟩
theorem t466:EOk e466:=ek0
theorem t467:EOk e467:=ek [e372,e11,e340,e454,e1,e113,e436] ⟨t372,t11,t340,t454,t1,t113,t436,trivial⟩
theorem t468:EOk e468:=ek [e2,e4] ⟨t2,t4,trivial⟩
theorem t469:EOk e469:=ek [e394,e17,e468,e1,e3,e114] ⟨t394,t17,t468,t1,t3,t114,trivial⟩
theorem t470:EOk e470:=ek0
theorem t471:EOk e471:=ek [e2,e4] ⟨t2,t4,trivial⟩
theorem t472:EOk e472:=ek [e394,e11,e400,e468,e1,e3,e113,e471] ⟨t394,t11,t400,t468,t1,t3,t113,t471,trivial⟩
theorem t473:EOk e473:=ek0
theorem t474:EOk e474:=ek [e28,e394,e17,e11,e352,e125,e26,e468,e1,e3,e114,e113,e442] ⟨t28,t394,t17,t11,t352,t125,t26,t468,t1,t3,t114,t113,t442,trivial⟩
theorem t475:EOk e475:=ek [e333,e115,e116,e117,e118,e119,e120,e122,e123,e124,e126,e127,e129,e130,e131,e134,e135,e136,e137,e138,e140,e141,e142,e143,e144,e434,e435,e292,e437,e438,e440,e441,e443,e444,e447,e448,e449,e450,e452,e453,e455,e456,e458,e459,e461,e462,e463,e465,e466,e467,e469,e470,e472,e473,e474] ⟨t333,t115,t116,t117,t118,t119,t120,t122,t123,t124,t126,t127,t129,t130,t131,t134,t135,t136,t137,t138,t140,t141,t142,t143,t144,t434,t435,t292,t437,t438,t440,t441,t443,t444,t447,t448,t449,t450,t452,t453,t455,t456,t458,t459,t461,t462,t463,t465,t466,t467,t469,t470,t472,t473,t474,trivial⟩
theorem t476:EOk e476:=ek0
theorem t477:EOk e477:=ek0
theorem t478:EOk e478:=ek [e476,e477] ⟨t476,t477,trivial⟩
theorem t479:EOk e479:=ek0
theorem t480:EOk e480:=ek [e145,e478,e479] ⟨t145,t478,t479,trivial⟩
theorem t481:EOk e481:=ek [e5,e478] ⟨t5,t478,trivial⟩
theorem t482:EOk e482:=ek [e11,e478] ⟨t11,t478,trivial⟩
theorem t483:EOk e483:=ek [e17,e478] ⟨t17,t478,trivial⟩
theorem t484:EOk e484:=ek [e23,e478] ⟨t23,t478,trivial⟩
theorem t485:EOk e485:=ek [e28,e478] ⟨t28,t478,trivial⟩
theorem t486:EOk e486:=ek [e45,e478] ⟨t45,t478,trivial⟩
theorem t487:EOk e487:=ek [e58,e478] ⟨t58,t478,trivial⟩
theorem t488:EOk e488:=ek [e65,e478] ⟨t65,t478,trivial⟩
theorem t489:EOk e489:=ek [e76,e478] ⟨t76,t478,trivial⟩
theorem t490:EOk e490:=ek [e476] ⟨t476,trivial⟩
theorem t491:EOk e491:=ek0
theorem t492:EOk e492:=ek [e308,e490,e491] ⟨t308,t490,t491,trivial⟩
theorem t493:EOk e493:=ek [e145,e490,e491] ⟨t145,t490,t491,trivial⟩
theorem t494:EOk e494:=ek [e476,e151] ⟨t476,t151,trivial⟩
theorem t495:EOk e495:=ek0
theorem t496:EOk e496:=ek [e216,e494,e495] ⟨t216,t494,t495,trivial⟩
theorem t497:EOk e497:=ek [e308,e494,e495] ⟨t308,t494,t495,trivial⟩
theorem t498:EOk e498:=ok1 [e480,e481,e482,e483,e484,e485,e486,e487,e488,e489,e492,e493,e496,e497] ⟨t480,t481,t482,t483,t484,t485,t486,t487,t488,t489,t492,t493,t496,t497,trivial⟩ [e93,e147,e191,e274,e309,e315,e325,e414] ⟨t93,t147,t191,t274,t309,t315,t325,t414,trivial⟩
theorem t499:EOk e499:=ek [e94] ⟨t94,trivial⟩
theorem t500:EOk e500:=ek [e94] ⟨t94,trivial⟩
theorem t501:EOk e501:=ek [e94] ⟨t94,trivial⟩
theorem t502:EOk e502:=ek [e94] ⟨t94,trivial⟩
theorem t503:EOk e503:=ek [e94] ⟨t94,trivial⟩
theorem t504:EOk e504:=ek [e94] ⟨t94,trivial⟩
theorem t505:EOk e505:=ek [e94] ⟨t94,trivial⟩
theorem t506:OOk e506:=ok2 [] trivial [] trivial []
theorem t507:EOk e507:=ek [e94] ⟨t94,trivial⟩
theorem t508:EOk e508:=ek0
end Go.Lyc.T
