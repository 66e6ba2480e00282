/-
  Calls, run in the kernel. No conditions: each stands by itself.
-/
import Derived.Test.YtidpbebfkcnlfaaGreatDoorMemo4
set_option linter.all false
noncomputable section
namespace Go.Lyc.T
open Go.Lyc
variable [Tok] [TokOk]
set_option maxRecDepth 1000000
set_option maxHeartbeats 4000000
theorem t359:EOk e359:=ek0
theorem t360:EOk e360:=ek [e292,e294,e296,e358,e359] ⟨t292,t294,t296,t358,t359,trivial⟩
theorem t361:EOk e361:=ek0
theorem t362:EOk e362:=ek0
theorem t363:EOk e363:=ek [e362] ⟨t362,trivial⟩
theorem t364:EOk e364:=ek0
theorem t365:EOk e365:=ek [e364] ⟨t364,trivial⟩
theorem t366:EOk e366:=ek [e364] ⟨t364,trivial⟩
theorem t367:EOk e367:=ek0
theorem t368:EOk e368:=ek [e367] ⟨t367,trivial⟩
theorem t369:EOk e369:=ek0
theorem t370:EOk e370:=ek [e369] ⟨t369,trivial⟩
theorem t371:EOk e371:=ek0
theorem t372:EOk e372:=ek [e371] ⟨t371,trivial⟩
theorem t373:EOk e373:=ek [e361,e2,e4,e6,e8,e10,e11,e13,e14,e16,e18,e19,e21,e22,e363,e365,e138,e366,e368,e370,e140,e372] ⟨t361,t2,t4,t6,t8,t10,t11,t13,t14,t16,t18,t19,t21,t22,t363,t365,t138,t366,t368,t370,t140,t372,trivial⟩
theorem t374:EOk e374:=ek0
theorem t375:EOk e375:=ek [e374] ⟨t374,trivial⟩
theorem t376:EOk e376:=ek0
theorem t377:EOk e377:=ek0
theorem t378:EOk e378:=ek [e362,e364,e376,e377] ⟨t362,t364,t376,t377,trivial⟩
theorem t379:EOk e379:=ek0
theorem t380:EOk e380:=ek0
theorem t381:EOk e381:=ek0
theorem t382:EOk e382:=ek [e362,e137,e364,e3,e376,e381,e377,e31] ⟨t362,t137,t364,t3,t376,t381,t377,t31,trivial⟩
theorem t383:EOk e383:=ek0
theorem t384:EOk e384:=ek [e362,e137,e367,e364,e3,e5,e376,e381,e383,e377,e31,e32] ⟨t362,t137,t367,t364,t3,t5,t376,t381,t383,t377,t31,t32,trivial⟩
theorem t385:EOk e385:=ek0
theorem t386:EOk e386:=ek0
theorem t387:EOk e387:=ek [e362,e137,e367,e369,e364,e3,e5,e9,e376,e381,e383,e386,e377,e31,e32,e43] ⟨t362,t137,t367,t369,t364,t3,t5,t9,t376,t381,t383,t386,t377,t31,t32,t43,trivial⟩
theorem t388:EOk e388:=ek0
theorem t389:EOk e389:=ek0
theorem t390:EOk e390:=ek0
theorem t391:EOk e391:=ek [e139,e371,e389,e390] ⟨t139,t371,t389,t390,trivial⟩
theorem t392:EOk e392:=ek0
theorem t393:EOk e393:=ek [e371,e139,e390,e389] ⟨t371,t139,t390,t389,trivial⟩
theorem t394:EOk e394:=ek [e361,e33,e34,e35,e36,e37,e38,e40,e41,e42,e44,e45,e47,e48,e49,e52,e53,e54,e55,e56,e58,e59,e60,e61,e62,e378,e379,e380,e382,e187,e384,e385,e387,e388,e391,e188,e392,e393] ⟨t361,t33,t34,t35,t36,t37,t38,t40,t41,t42,t44,t45,t47,t48,t49,t52,t53,t54,t55,t56,t58,t59,t60,t61,t62,t378,t379,t380,t382,t187,t384,t385,t387,t388,t391,t188,t392,t393,trivial⟩
theorem t395:EOk e395:=ek0
theorem t396:EOk e396:=ek [e394,e374,e395] ⟨t394,t374,t395,trivial⟩
theorem t397:EOk e397:=ek [e394,e28,e64] ⟨t394,t28,t64,trivial⟩
theorem t398:EOk e398:=ek [e71,e1,e28,e3,e374] ⟨t71,t1,t28,t3,t374,trivial⟩
theorem t399:EOk e399:=ek [e37,e374,e28,e398] ⟨t37,t374,t28,t398,trivial⟩
theorem t400:EOk e400:=ek [e71,e1,e28,e5,e374] ⟨t71,t1,t28,t5,t374,trivial⟩
theorem t401:EOk e401:=ek [e38,e374,e28,e400] ⟨t38,t374,t28,t400,trivial⟩
theorem t402:EOk e402:=ek [e71,e3,e28,e7,e374] ⟨t71,t3,t28,t7,t374,trivial⟩
theorem t403:EOk e403:=ek [e40,e374,e28,e402] ⟨t40,t374,t28,t402,trivial⟩
theorem t404:EOk e404:=ek [e71,e5,e28,e7,e374] ⟨t71,t5,t28,t7,t374,trivial⟩
theorem t405:EOk e405:=ek [e42,e374,e28,e404] ⟨t42,t374,t28,t404,trivial⟩
theorem t406:EOk e406:=ek [e71,e5,e28,e12,e374] ⟨t71,t5,t28,t12,t374,trivial⟩
theorem t407:EOk e407:=ek [e47,e374,e28,e406] ⟨t47,t374,t28,t406,trivial⟩
theorem t408:EOk e408:=ek [e71,e17,e28,e15,e374] ⟨t71,t17,t28,t15,t374,trivial⟩
theorem t409:EOk e409:=ek [e52,e374,e28,e408] ⟨t52,t374,t28,t408,trivial⟩
theorem t410:EOk e410:=ek [e71,e17,e28,e3,e374] ⟨t71,t17,t28,t3,t374,trivial⟩
theorem t411:EOk e411:=ek [e56,e374,e28,e410] ⟨t56,t374,t28,t410,trivial⟩
theorem t412:EOk e412:=ek [e62,e374,e28,e410] ⟨t62,t374,t28,t410,trivial⟩
theorem t413:EOk e413:=ek [e71,e364,e28,e362,e374,e160] ⟨t71,t364,t28,t362,t374,t160,trivial⟩
theorem t414:EOk e414:=ek [e378,e374,e28,e413] ⟨t378,t374,t28,t413,trivial⟩
theorem t415:EOk e415:=ek [e71,e371,e28,e139,e374] ⟨t71,t371,t28,t139,t374,trivial⟩
theorem t416:EOk e416:=ek [e391,e374,e28,e415] ⟨t391,t374,t28,t415,trivial⟩
theorem t417:EOk e417:=ek [e71,e139,e28,e371,e374] ⟨t71,t139,t28,t371,t374,trivial⟩
theorem t418:EOk e418:=ek [e393,e374,e28,e417] ⟨t393,t374,t28,t417,trivial⟩
theorem t419:EOk e419:=ek [e71,e12,e28,e99,e374] ⟨t71,t12,t28,t99,t374,trivial⟩
theorem t420:EOk e420:=ek [e71,e12,e28,e101,e374] ⟨t71,t12,t28,t101,t374,trivial⟩
theorem t421:EOk e421:=ek [e71,e7,e28,e3,e374] ⟨t71,t7,t28,t3,t374,trivial⟩
theorem t422:EOk e422:=ek [e71,e7,e28,e5,e374] ⟨t71,t7,t28,t5,t374,trivial⟩
theorem t423:EOk e423:=ek [e71,e3,e28,e1,e374] ⟨t71,t3,t28,t1,t374,trivial⟩
theorem t424:EOk e424:=ek [e71,e103,e28,e105,e374] ⟨t71,t103,t28,t105,t374,trivial⟩
theorem t425:EOk e425:=ek [e71,e12,e28,e20,e374] ⟨t71,t12,t28,t20,t374,trivial⟩
theorem t426:EOk e426:=ek [e71,e3,e28,e137,e374,e160] ⟨t71,t3,t28,t137,t374,t160,trivial⟩
theorem t427:EOk e427:=ek [e71,e139,e28,e137,e374] ⟨t71,t139,t28,t137,t374,trivial⟩
theorem t428:EOk e428:=ek [e71,e137,e28,e3,e374] ⟨t71,t137,t28,t3,t374,trivial⟩
theorem t429:EOk e429:=ek [e71,e137,e28,e141,e374] ⟨t71,t137,t28,t141,t374,trivial⟩
theorem t430:EOk e430:=ek [e71,e139,e28,e143,e374] ⟨t71,t139,t28,t143,t374,trivial⟩
theorem t431:EOk e431:=ek [e71,e145,e28,e147,e374] ⟨t71,t145,t28,t147,t374,trivial⟩
theorem t432:EOk e432:=ek [e394,e396,e397,e399,e401,e403,e405,e407,e409,e411,e412,e414,e416,e418,e159,e48,e36,e35,e53,e163,e166,e419,e167,e420,e41,e421,e422,e34,e423,e170,e171,e424,e59,e425,e172,e173,e174,e175,e176,e177,e178,e179,e180,e181,e182,e183,e184,e185,e186,e187,e426,e188,e427,e428,e189,e429,e190,e430,e191,e192,e431,e193,e194,e195,e196,e197] ⟨t394,t396,t397,t399,t401,t403,t405,t407,t409,t411,t412,t414,t416,t418,t159,t48,t36,t35,t53,t163,t166,t419,t167,t420,t41,t421,t422,t34,t423,t170,t171,t424,t59,t425,t172,t173,t174,t175,t176,t177,t178,t179,t180,t181,t182,t183,t184,t185,t186,t187,t426,t188,t427,t428,t189,t429,t190,t430,t191,t192,t431,t193,t194,t195,t196,t197,trivial⟩
theorem t433:EOk e433:=ek0
theorem t434:EOk e434:=ek [e373,e29,e375,e432,e433] ⟨t373,t29,t375,t432,t433,trivial⟩
theorem t435:EOk e435:=ek [e361,e2,e4,e6,e8,e10,e11,e13,e14,e16,e18,e19,e21,e22,e363,e365,e138,e366,e368,e370,e140,e372,e142,e144] ⟨t361,t2,t4,t6,t8,t10,t11,t13,t14,t16,t18,t19,t21,t22,t363,t365,t138,t366,t368,t370,t140,t372,t142,t144,trivial⟩
end Go.Lyc.T
