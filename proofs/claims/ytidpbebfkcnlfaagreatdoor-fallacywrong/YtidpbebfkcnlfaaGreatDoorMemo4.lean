/-
  Calls, run in the kernel. No conditions: each stands by itself.
-/
import Derived.Test.YtidpbebfkcnlfaaGreatDoorMemo3
set_option linter.all false
noncomputable section
namespace Go.Lyc.T
open Go.Lyc
variable [Tok] [TokOk]
set_option maxRecDepth 1000000
set_option maxHeartbeats 4000000
theorem t283:EOk e283:=ek0
theorem t284:EOk e284:=ek [e250,e252,e29,e282,e283] ⟨t250,t252,t29,t282,t283,trivial⟩
theorem t285:EOk e285:=ek [e63,e251,e255] ⟨t63,t251,t255,trivial⟩
theorem t286:EOk e286:=ek [e62,e28,e251,e269] ⟨t62,t28,t251,t269,trivial⟩
theorem t287:EOk e287:=ek [e63,e65,e285,e258,e260,e262,e264,e266,e268,e270,e286,e159,e48,e36,e35,e53,e163,e166,e271,e167,e272,e41,e273,e274,e34,e275,e170,e171,e276,e59,e277,e172,e173,e174,e175,e176,e177,e178,e179,e180,e181,e182,e183,e184,e185,e186,e187,e188,e189,e190,e191,e192,e193,e194,e195,e196,e197] ⟨t63,t65,t285,t258,t260,t262,t264,t266,t268,t270,t286,t159,t48,t36,t35,t53,t163,t166,t271,t167,t272,t41,t273,t274,t34,t275,t170,t171,t276,t59,t277,t172,t173,t174,t175,t176,t177,t178,t179,t180,t181,t182,t183,t184,t185,t186,t187,t188,t189,t190,t191,t192,t193,t194,t195,t196,t197,trivial⟩
theorem t288:EOk e288:=ek [e23,e252,e29,e287,e215] ⟨t23,t252,t29,t287,t215,trivial⟩
theorem t289:EOk e289:=ek0
theorem t290:EOk e290:=ek0
theorem t291:EOk e291:=ek [e290] ⟨t290,trivial⟩
theorem t292:EOk e292:=ek [e289,e2,e4,e6,e8,e10,e11,e13,e14,e16,e18,e19,e21,e22,e120,e291,e122,e118] ⟨t289,t2,t4,t6,t8,t10,t11,t13,t14,t16,t18,t19,t21,t22,t120,t291,t122,t118,trivial⟩
theorem t293:EOk e293:=ek0
theorem t294:EOk e294:=ek [e293] ⟨t293,trivial⟩
theorem t295:EOk e295:=ek0
theorem t296:EOk e296:=ek [e295] ⟨t295,trivial⟩
theorem t297:EOk e297:=ek0
theorem t298:EOk e298:=ek0
theorem t299:EOk e299:=ek [e119,e290,e297,e298] ⟨t119,t290,t297,t298,trivial⟩
theorem t300:EOk e300:=ek0
theorem t301:EOk e301:=ek0
theorem t302:EOk e302:=ek [e121,e119,e301,e297] ⟨t121,t119,t301,t297,trivial⟩
theorem t303:EOk e303:=ek0
theorem t304:EOk e304:=ek [e117,e121,e303,e301] ⟨t117,t121,t303,t301,trivial⟩
theorem t305:EOk e305:=ek [e9,e117,e290,e43,e303,e298] ⟨t9,t117,t290,t43,t303,t298,trivial⟩
theorem t306:EOk e306:=ek [e289,e33,e34,e35,e36,e37,e38,e40,e41,e42,e44,e45,e47,e48,e49,e52,e53,e54,e55,e56,e58,e59,e60,e61,e62,e299,e178,e300,e302,e179,e304,e177,e305] ⟨t289,t33,t34,t35,t36,t37,t38,t40,t41,t42,t44,t45,t47,t48,t49,t52,t53,t54,t55,t56,t58,t59,t60,t61,t62,t299,t178,t300,t302,t179,t304,t177,t305,trivial⟩
theorem t307:EOk e307:=ek0
theorem t308:EOk e308:=ek [e306,e295,e307] ⟨t306,t295,t307,trivial⟩
theorem t309:EOk e309:=ek0
theorem t310:EOk e310:=ek [e306,e293,e309] ⟨t306,t293,t309,trivial⟩
theorem t311:EOk e311:=ek [e71,e1,e293,e3,e295] ⟨t71,t1,t293,t3,t295,trivial⟩
theorem t312:EOk e312:=ek [e37,e295,e293,e311] ⟨t37,t295,t293,t311,trivial⟩
theorem t313:EOk e313:=ek [e71,e1,e293,e5,e295] ⟨t71,t1,t293,t5,t295,trivial⟩
theorem t314:EOk e314:=ek [e38,e295,e293,e313] ⟨t38,t295,t293,t313,trivial⟩
theorem t315:EOk e315:=ek [e71,e3,e293,e7,e295] ⟨t71,t3,t293,t7,t295,trivial⟩
theorem t316:EOk e316:=ek [e40,e295,e293,e315] ⟨t40,t295,t293,t315,trivial⟩
theorem t317:EOk e317:=ek [e71,e5,e293,e7,e295] ⟨t71,t5,t293,t7,t295,trivial⟩
theorem t318:EOk e318:=ek [e42,e295,e293,e317] ⟨t42,t295,t293,t317,trivial⟩
theorem t319:EOk e319:=ek [e71,e5,e293,e12,e295] ⟨t71,t5,t293,t12,t295,trivial⟩
theorem t320:EOk e320:=ek [e47,e295,e293,e319] ⟨t47,t295,t293,t319,trivial⟩
theorem t321:EOk e321:=ek [e71,e17,e293,e15,e295] ⟨t71,t17,t293,t15,t295,trivial⟩
theorem t322:EOk e322:=ek [e52,e295,e293,e321] ⟨t52,t295,t293,t321,trivial⟩
theorem t323:EOk e323:=ek [e71,e17,e293,e3,e295] ⟨t71,t17,t293,t3,t295,trivial⟩
theorem t324:EOk e324:=ek [e56,e295,e293,e323] ⟨t56,t295,t293,t323,trivial⟩
theorem t325:EOk e325:=ek [e62,e295,e293,e323] ⟨t62,t295,t293,t323,trivial⟩
theorem t326:EOk e326:=ek0
theorem t327:EOk e327:=ek [e326] ⟨t326,trivial⟩
theorem t328:EOk e328:=ek [e327] ⟨t327,trivial⟩
theorem t329:EOk e329:=ek0
theorem t330:EOk e330:=ek0
theorem t331:EOk e331:=ek0
theorem t332:EOk e332:=ek [e331] ⟨t331,trivial⟩
theorem t333:EOk e333:=ek0
theorem t334:EOk e334:=ek0
theorem t335:EOk e335:=ek [e334] ⟨t334,trivial⟩
theorem t336:EOk e336:=ek0
theorem t337:EOk e337:=ek0
theorem t338:EOk e338:=ek [e71,e290,e293,e119,e295,e328,e329,e330,e332,e333,e335,e336,e337] ⟨t71,t290,t293,t119,t295,t328,t329,t330,t332,t333,t335,t336,t337,trivial⟩
theorem t339:EOk e339:=ek0
theorem t340:EOk e340:=ek0
theorem t341:EOk e341:=ek [e299,e295,e293,e338,e339,e340] ⟨t299,t295,t293,t338,t339,t340,trivial⟩
theorem t342:EOk e342:=ek [e71,e119,e293,e121,e295] ⟨t71,t119,t293,t121,t295,trivial⟩
theorem t343:EOk e343:=ek [e302,e295,e293,e342] ⟨t302,t295,t293,t342,trivial⟩
theorem t344:EOk e344:=ek [e71,e121,e293,e117,e295] ⟨t71,t121,t293,t117,t295,trivial⟩
theorem t345:EOk e345:=ek [e304,e295,e293,e344] ⟨t304,t295,t293,t344,trivial⟩
theorem t346:EOk e346:=ek [e71,e12,e293,e99,e295] ⟨t71,t12,t293,t99,t295,trivial⟩
theorem t347:EOk e347:=ek [e71,e12,e293,e101,e295] ⟨t71,t12,t293,t101,t295,trivial⟩
theorem t348:EOk e348:=ek [e71,e7,e293,e3,e295] ⟨t71,t7,t293,t3,t295,trivial⟩
theorem t349:EOk e349:=ek [e71,e7,e293,e5,e295] ⟨t71,t7,t293,t5,t295,trivial⟩
theorem t350:EOk e350:=ek [e71,e3,e293,e1,e295] ⟨t71,t3,t293,t1,t295,trivial⟩
theorem t351:EOk e351:=ek [e71,e103,e293,e105,e295] ⟨t71,t103,t293,t105,t295,trivial⟩
theorem t352:EOk e352:=ek [e71,e12,e293,e20,e295] ⟨t71,t12,t293,t20,t295,trivial⟩
theorem t353:EOk e353:=ek [e71,e117,e293,e119,e295] ⟨t71,t117,t293,t119,t295,trivial⟩
theorem t354:EOk e354:=ek [e71,e121,e293,e119,e295,e328,e329,e330,e332,e333,e335,e336,e337] ⟨t71,t121,t293,t119,t295,t328,t329,t330,t332,t333,t335,t336,t337,trivial⟩
theorem t355:EOk e355:=ek [e71,e123,e293,e125,e295] ⟨t71,t123,t293,t125,t295,trivial⟩
theorem t356:EOk e356:=ek [e71,e131,e293,e133,e295] ⟨t71,t131,t293,t133,t295,trivial⟩
theorem t357:EOk e357:=ek [e71,e135,e293,e129,e295] ⟨t71,t135,t293,t129,t295,trivial⟩
theorem t358:EOk e358:=ek [e306,e308,e310,e312,e314,e316,e318,e320,e322,e324,e325,e341,e343,e345,e159,e48,e36,e35,e53,e163,e166,e346,e167,e347,e41,e348,e349,e34,e350,e170,e171,e351,e59,e352,e172,e173,e174,e175,e176,e177,e178,e353,e179,e354,e180,e181,e355,e182,e183,e184,e185,e356,e186,e357,e187,e188,e189,e190,e191,e192,e193,e194,e195,e196,e197] ⟨t306,t308,t310,t312,t314,t316,t318,t320,t322,t324,t325,t341,t343,t345,t159,t48,t36,t35,t53,t163,t166,t346,t167,t347,t41,t348,t349,t34,t350,t170,t171,t351,t59,t352,t172,t173,t174,t175,t176,t177,t178,t353,t179,t354,t180,t181,t355,t182,t183,t184,t185,t356,t186,t357,t187,t188,t189,t190,t191,t192,t193,t194,t195,t196,t197,trivial⟩
end Go.Lyc.T
