/-
  Calls, run in the kernel. No conditions: each stands by itself.
-/
import Derived.Test.YtdlohhnonefolaaGreatDoorMemo3
set_option linter.all false
noncomputable section
namespace Go.Lyc.T
open Go.Lyc
variable [Tok] [TokOk]
set_option maxRecDepth 1000000
set_option maxHeartbeats 4000000
theorem t336:EOk e336:=ek0
theorem t337:EOk e337:=ek0
theorem t338:EOk e338:=ek0
theorem t339:EOk e339:=ek0
theorem t340:EOk e340:=ek [e1] ⟨t1,trivial⟩
theorem t341:OOk e341:=ok2 [e2,e1,e340] ⟨t2,t1,t340,trivial⟩ [] trivial [63]
theorem t342:EOk e342:=ek0
theorem t343:EOk e343:=ek0
theorem t344:EOk e344:=ek0
theorem t345:EOk e345:=ek0
theorem t346:EOk e346:=ek [e3] ⟨t3,trivial⟩
theorem t347:OOk e347:=ok2 [e4,e3,e346] ⟨t4,t3,t346,trivial⟩ [] trivial [63]
theorem t348:EOk e348:=ek0
theorem t349:EOk e349:=ek0
theorem t350:EOk e350:=ek0
theorem t351:EOk e351:=ek0
theorem t352:EOk e352:=ek [e26] ⟨t26,trivial⟩
theorem t353:OOk e353:=ok2 [e27,e26,e352] ⟨t27,t26,t352,trivial⟩ [] trivial [63]
theorem t354:EOk e354:=ek [e1] ⟨t1,trivial⟩
theorem t355:OOk e355:=ok2 [e2,e1,e354] ⟨t2,t1,t354,trivial⟩ [] trivial [78,77]
theorem t356:EOk e356:=ek0
theorem t357:EOk e357:=ek0
theorem t358:EOk e358:=ek0
theorem t359:EOk e359:=ek0
theorem t360:EOk e360:=ek [e1] ⟨t1,trivial⟩
theorem t361:OOk e361:=ok2 [e2,e1,e360] ⟨t2,t1,t360,trivial⟩ [] trivial [78,77]
theorem t362:EOk e362:=ek0
theorem t363:EOk e363:=ek0
theorem t364:EOk e364:=ek0
theorem t365:EOk e365:=ek0
theorem t366:EOk e366:=ek [e218] ⟨t218,trivial⟩
theorem t367:OOk e367:=ok2 [e219,e218,e366] ⟨t219,t218,t366,trivial⟩ [] trivial [63]
theorem t368:EOk e368:=ek0
theorem t369:EOk e369:=ek0
theorem t370:EOk e370:=ek0
theorem t371:EOk e371:=ek0
theorem t372:EOk e372:=ek [e1] ⟨t1,trivial⟩
theorem t373:OOk e373:=ok2 [e2,e1,e372] ⟨t2,t1,t372,trivial⟩ [] trivial [63]
theorem t374:EOk e374:=ek0
theorem t375:EOk e375:=ek0
theorem t376:EOk e376:=ek0
theorem t377:EOk e377:=ek0
theorem t378:EOk e378:=ek [e3] ⟨t3,trivial⟩
theorem t379:OOk e379:=ok2 [e4,e3,e378] ⟨t4,t3,t378,trivial⟩ [] trivial [63]
theorem t380:EOk e380:=ek0
theorem t381:EOk e381:=ek0
theorem t382:EOk e382:=ek0
theorem t383:EOk e383:=ek0
theorem t384:EOk e384:=ek [e26] ⟨t26,trivial⟩
theorem t385:OOk e385:=ok2 [e27,e26,e384] ⟨t27,t26,t384,trivial⟩ [] trivial [63]
theorem t386:EOk e386:=ek [e1] ⟨t1,trivial⟩
theorem t387:OOk e387:=ok2 [e2,e1,e386] ⟨t2,t1,t386,trivial⟩ [] trivial [76,75]
theorem t388:EOk e388:=ek0
theorem t389:EOk e389:=ek0
theorem t390:EOk e390:=ek0
theorem t391:EOk e391:=ek0
theorem t392:EOk e392:=ek0
theorem t393:OOk e393:=ok2 [e2,e1,e340] ⟨t2,t1,t340,trivial⟩ [] trivial [63]
theorem t394:EOk e394:=ek [e1,e3] ⟨t1,t3,trivial⟩
theorem t395:OOk e395:=ok2 [e2,e4,e1,e3,e394] ⟨t2,t4,t1,t3,t394,trivial⟩ [] trivial [101]
theorem t396:EOk e396:=ek0
theorem t397:EOk e397:=ek0
theorem t398:EOk e398:=ek0
theorem t399:EOk e399:=ek0
theorem t400:EOk e400:=ek [e1,e3] ⟨t1,t3,trivial⟩
theorem t401:OOk e401:=ok2 [e2,e4,e1,e3,e400] ⟨t2,t4,t1,t3,t400,trivial⟩ [] trivial [159,152]
theorem t402:EOk e402:=ek0
theorem t403:EOk e403:=ek0
theorem t404:EOk e404:=ek0
theorem t405:EOk e405:=ek0
theorem t406:EOk e406:=ek0
theorem t407:EOk e407:=ek0
theorem t408:EOk e408:=ek0
theorem t409:EOk e409:=ek0
theorem t410:EOk e410:=ek0
theorem t411:EOk e411:=ek0
theorem t412:EOk e412:=ek0
theorem t413:OOk e413:=ok2 [e27,e26,e352] ⟨t27,t26,t352,trivial⟩ [] trivial [63]
theorem t414:OOk e414:=ok2 [e333,e7,e8,e9,e10,e13,e14,e15,e16,e19,e20,e21,e22,e25,e30,e31,e32,e33,e34,e35,e36,e37,e38,e40,e41,e42,e43,e44,e47,e48,e49,e50,e51,e53,e54,e55,e56,e57,e60,e61,e62,e63,e64,e68,e69,e70,e71,e72,e73,e74,e75,e78,e79,e80,e81,e82,e84,e85,e86,e87,e88,e89,e90,e91,e92,e222,e223,e224,e225,e336,e337,e338,e339,e234,e235,e236,e237,e238,e342,e343,e344,e345,e246,e247,e248,e249,e250,e348,e349,e350,e351,e257,e258,e259,e260,e261,e356,e357,e358,e359,e362,e363,e364,e365,e368,e369,e370,e371,e374,e375,e376,e377,e380,e381,e382,e383,e388,e389,e390,e391,e392,e396,e397,e398,e399,e402,e403,e404,e405,e406,e407,e408,e409,e410,e411,e412] ⟨t333,t7,t8,t9,t10,t13,t14,t15,t16,t19,t20,t21,t22,t25,t30,t31,t32,t33,t34,t35,t36,t37,t38,t40,t41,t42,t43,t44,t47,t48,t49,t50,t51,t53,t54,t55,t56,t57,t60,t61,t62,t63,t64,t68,t69,t70,t71,t72,t73,t74,t75,t78,t79,t80,t81,t82,t84,t85,t86,t87,t88,t89,t90,t91,t92,t222,t223,t224,t225,t336,t337,t338,t339,t234,t235,t236,t237,t238,t342,t343,t344,t345,t246,t247,t248,t249,t250,t348,t349,t350,t351,t257,t258,t259,t260,t261,t356,t357,t358,t359,t362,t363,t364,t365,t368,t369,t370,t371,t374,t375,t376,t377,t380,t381,t382,t383,t388,t389,t390,t391,t392,t396,t397,t398,t399,t402,t403,t404,t405,t406,t407,t408,t409,t410,t411,t412,trivial⟩ [e6,e12,e18,e24,e29,e39,e46,e52,e59,e66,e67,e77,e83,e335,e227,e341,e239,e347,e353,e355,e361,e367,e373,e379,e385,e387,e393,e395,e401,e413] ⟨t6,t12,t18,t24,t29,t39,t46,t52,t59,t66,t67,t77,t83,t335,t227,t341,t239,t347,t353,t355,t361,t367,t373,t379,t385,t387,t393,t395,t401,t413,trivial⟩ [623,20,9,32,30,44,42,56,49,68,61,102,78,89,100,121,119,107,137,131,156,154,142,172,170,183,213,200,211,188,229,223,245,239,264,262,261,276,269,300,287,298,281,331,311,316,329,305,369,342,347,352,367,336,384,381,382,374,375,399,396,397,389,390,411,404,435,422,433,416,466,446,451,464,440,504,477,482,487,502,471,516,514,530,528,521,522,554,551,552,535,566,559,584,581,582,571,621,594,605,619,618]
end Go.Lyc.T
