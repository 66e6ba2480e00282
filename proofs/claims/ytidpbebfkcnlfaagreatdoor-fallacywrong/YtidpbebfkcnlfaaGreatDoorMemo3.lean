/-
  Calls, run in the kernel. No conditions: each stands by itself.
-/
import Derived.Test.YtidpbebfkcnlfaaGreatDoorMemo2
set_option linter.all false
noncomputable section
namespace Go.Lyc.T
open Go.Lyc
variable [Tok] [TokOk]
set_option maxRecDepth 1000000
set_option maxHeartbeats 4000000
theorem t203:EOk e203:=ek [e23,e27,e25,e29,e202,e199] ⟨t23,t27,t25,t29,t202,t199,trivial⟩
theorem t204:EOk e204:=ek0
theorem t205:EOk e205:=ek [e204] ⟨t204,trivial⟩
theorem t206:EOk e206:=ek0
theorem t207:EOk e207:=ek [e63,e204,e206] ⟨t63,t204,t206,trivial⟩
theorem t208:EOk e208:=ek [e71,e3,e204,e5,e28,e1] ⟨t71,t3,t204,t5,t28,t1,trivial⟩
theorem t209:EOk e209:=ek [e33,e28,e204,e208] ⟨t33,t28,t204,t208,trivial⟩
theorem t210:EOk e210:=ek [e71,e3,e28,e5,e204,e1] ⟨t71,t3,t28,t5,t204,t1,trivial⟩
theorem t211:EOk e211:=ek [e33,e28,e204,e210] ⟨t33,t28,t204,t210,trivial⟩
theorem t212:EOk e212:=ek [e71,e12,e204,e3,e28,e5,e160] ⟨t71,t12,t204,t3,t28,t5,t160,trivial⟩
theorem t213:EOk e213:=ek [e49,e28,e204,e212] ⟨t49,t28,t204,t212,trivial⟩
theorem t214:EOk e214:=ek [e63,e65,e207,e209,e211,e213] ⟨t63,t65,t207,t209,t211,t213,trivial⟩
theorem t215:EOk e215:=ek0
theorem t216:EOk e216:=ek [e23,e205,e29,e214,e215] ⟨t23,t205,t29,t214,t215,trivial⟩
theorem t217:EOk e217:=ek0
theorem t218:EOk e218:=ek [e217] ⟨t217,trivial⟩
theorem t219:EOk e219:=ek0
theorem t220:EOk e220:=ek [e219] ⟨t219,trivial⟩
theorem t221:EOk e221:=ek0
theorem t222:EOk e222:=ek [e63,e219,e221] ⟨t63,t219,t221,trivial⟩
theorem t223:EOk e223:=ek0
theorem t224:EOk e224:=ek [e63,e217,e223] ⟨t63,t217,t223,trivial⟩
theorem t225:EOk e225:=ek [e71,e1,e217,e3,e219] ⟨t71,t1,t217,t3,t219,trivial⟩
theorem t226:EOk e226:=ek [e37,e219,e217,e225] ⟨t37,t219,t217,t225,trivial⟩
theorem t227:EOk e227:=ek [e71,e1,e217,e5,e219] ⟨t71,t1,t217,t5,t219,trivial⟩
theorem t228:EOk e228:=ek [e38,e219,e217,e227] ⟨t38,t219,t217,t227,trivial⟩
theorem t229:EOk e229:=ek [e71,e3,e217,e7,e219] ⟨t71,t3,t217,t7,t219,trivial⟩
theorem t230:EOk e230:=ek [e40,e219,e217,e229] ⟨t40,t219,t217,t229,trivial⟩
theorem t231:EOk e231:=ek [e71,e5,e217,e7,e219] ⟨t71,t5,t217,t7,t219,trivial⟩
theorem t232:EOk e232:=ek [e42,e219,e217,e231] ⟨t42,t219,t217,t231,trivial⟩
theorem t233:EOk e233:=ek [e71,e5,e217,e12,e219] ⟨t71,t5,t217,t12,t219,trivial⟩
theorem t234:EOk e234:=ek [e47,e219,e217,e233] ⟨t47,t219,t217,t233,trivial⟩
theorem t235:EOk e235:=ek [e71,e17,e217,e15,e219] ⟨t71,t17,t217,t15,t219,trivial⟩
theorem t236:EOk e236:=ek [e52,e219,e217,e235] ⟨t52,t219,t217,t235,trivial⟩
theorem t237:EOk e237:=ek [e71,e17,e217,e3,e219] ⟨t71,t17,t217,t3,t219,trivial⟩
theorem t238:EOk e238:=ek [e56,e219,e217,e237] ⟨t56,t219,t217,t237,trivial⟩
theorem t239:EOk e239:=ek [e62,e219,e217,e237] ⟨t62,t219,t217,t237,trivial⟩
theorem t240:EOk e240:=ek [e71,e12,e217,e99,e219] ⟨t71,t12,t217,t99,t219,trivial⟩
theorem t241:EOk e241:=ek [e71,e12,e217,e101,e219] ⟨t71,t12,t217,t101,t219,trivial⟩
theorem t242:EOk e242:=ek [e71,e7,e217,e3,e219] ⟨t71,t7,t217,t3,t219,trivial⟩
theorem t243:EOk e243:=ek [e71,e7,e217,e5,e219] ⟨t71,t7,t217,t5,t219,trivial⟩
theorem t244:EOk e244:=ek [e71,e3,e217,e1,e219] ⟨t71,t3,t217,t1,t219,trivial⟩
theorem t245:EOk e245:=ek [e71,e103,e217,e105,e219] ⟨t71,t103,t217,t105,t219,trivial⟩
theorem t246:EOk e246:=ek [e71,e12,e217,e20,e219] ⟨t71,t12,t217,t20,t219,trivial⟩
theorem t247:EOk e247:=ek [e63,e222,e224,e226,e228,e230,e232,e234,e236,e238,e239,e159,e48,e36,e35,e53,e163,e166,e240,e167,e241,e41,e242,e243,e34,e244,e170,e171,e245,e59,e246,e172,e173,e174,e175,e176,e177,e178,e179,e180,e181,e182,e183,e184,e185,e186,e187,e188,e189,e190,e191,e192,e193,e194,e195,e196,e197] ⟨t63,t222,t224,t226,t228,t230,t232,t234,t236,t238,t239,t159,t48,t36,t35,t53,t163,t166,t240,t167,t241,t41,t242,t243,t34,t244,t170,t171,t245,t59,t246,t172,t173,t174,t175,t176,t177,t178,t179,t180,t181,t182,t183,t184,t185,t186,t187,t188,t189,t190,t191,t192,t193,t194,t195,t196,t197,trivial⟩
theorem t248:EOk e248:=ek [e23,e218,e220,e247,e215] ⟨t23,t218,t220,t247,t215,trivial⟩
theorem t249:EOk e249:=ek0
theorem t250:EOk e250:=ek [e249,e2,e4,e6,e8,e10,e11,e13,e14,e16,e18,e19,e21,e22] ⟨t249,t2,t4,t6,t8,t10,t11,t13,t14,t16,t18,t19,t21,t22,trivial⟩
theorem t251:EOk e251:=ek0
theorem t252:EOk e252:=ek [e251] ⟨t251,trivial⟩
theorem t253:EOk e253:=ek [e249,e33,e34,e35,e36,e37,e38,e40,e41,e42,e44,e45,e47,e48,e49,e52,e53,e54,e55,e56,e58,e59,e60,e61] ⟨t249,t33,t34,t35,t36,t37,t38,t40,t41,t42,t44,t45,t47,t48,t49,t52,t53,t54,t55,t56,t58,t59,t60,t61,trivial⟩
theorem t254:EOk e254:=ek [e253,e28,e64] ⟨t253,t28,t64,trivial⟩
theorem t255:EOk e255:=ek0
theorem t256:EOk e256:=ek [e253,e251,e255] ⟨t253,t251,t255,trivial⟩
theorem t257:EOk e257:=ek [e71,e1,e251,e3,e28] ⟨t71,t1,t251,t3,t28,trivial⟩
theorem t258:EOk e258:=ek [e37,e28,e251,e257] ⟨t37,t28,t251,t257,trivial⟩
theorem t259:EOk e259:=ek [e71,e1,e251,e5,e28] ⟨t71,t1,t251,t5,t28,trivial⟩
theorem t260:EOk e260:=ek [e38,e28,e251,e259] ⟨t38,t28,t251,t259,trivial⟩
theorem t261:EOk e261:=ek [e71,e3,e251,e7,e28] ⟨t71,t3,t251,t7,t28,trivial⟩
theorem t262:EOk e262:=ek [e40,e28,e251,e261] ⟨t40,t28,t251,t261,trivial⟩
theorem t263:EOk e263:=ek [e71,e5,e251,e7,e28] ⟨t71,t5,t251,t7,t28,trivial⟩
theorem t264:EOk e264:=ek [e42,e28,e251,e263] ⟨t42,t28,t251,t263,trivial⟩
theorem t265:EOk e265:=ek [e71,e5,e251,e12,e28] ⟨t71,t5,t251,t12,t28,trivial⟩
theorem t266:EOk e266:=ek [e47,e28,e251,e265] ⟨t47,t28,t251,t265,trivial⟩
theorem t267:EOk e267:=ek [e71,e17,e251,e15,e28] ⟨t71,t17,t251,t15,t28,trivial⟩
theorem t268:EOk e268:=ek [e52,e28,e251,e267] ⟨t52,t28,t251,t267,trivial⟩
theorem t269:EOk e269:=ek [e71,e17,e251,e3,e28] ⟨t71,t17,t251,t3,t28,trivial⟩
theorem t270:EOk e270:=ek [e56,e28,e251,e269] ⟨t56,t28,t251,t269,trivial⟩
theorem t271:EOk e271:=ek [e71,e12,e251,e99,e28] ⟨t71,t12,t251,t99,t28,trivial⟩
theorem t272:EOk e272:=ek [e71,e12,e251,e101,e28] ⟨t71,t12,t251,t101,t28,trivial⟩
theorem t273:EOk e273:=ek [e71,e7,e251,e3,e28] ⟨t71,t7,t251,t3,t28,trivial⟩
theorem t274:EOk e274:=ek [e71,e7,e251,e5,e28] ⟨t71,t7,t251,t5,t28,trivial⟩
theorem t275:EOk e275:=ek [e71,e3,e251,e1,e28] ⟨t71,t3,t251,t1,t28,trivial⟩
theorem t276:EOk e276:=ek [e71,e103,e251,e105,e28] ⟨t71,t103,t251,t105,t28,trivial⟩
theorem t277:EOk e277:=ek [e71,e12,e251,e20,e28] ⟨t71,t12,t251,t20,t28,trivial⟩
theorem t278:EOk e278:=ek [e71,e107,e251,e12,e28] ⟨t71,t107,t251,t12,t28,trivial⟩
theorem t279:EOk e279:=ek [e71,e103,e251,e109,e28] ⟨t71,t103,t251,t109,t28,trivial⟩
theorem t280:EOk e280:=ek [e71,e111,e251,e3,e28,e160] ⟨t71,t111,t251,t3,t28,t160,trivial⟩
theorem t281:EOk e281:=ek [e71,e115,e251,e3,e28] ⟨t71,t115,t251,t3,t28,trivial⟩
theorem t282:EOk e282:=ek [e253,e254,e256,e258,e260,e262,e264,e266,e268,e270,e159,e48,e36,e35,e53,e163,e166,e271,e167,e272,e41,e273,e274,e34,e275,e170,e171,e276,e59,e277,e172,e278,e173,e279,e174,e280,e175,e176,e281,e177,e178,e179,e180,e181,e182,e183,e184,e185,e186,e187,e188,e189,e190,e191,e192,e193,e194,e195,e196,e197] ⟨t253,t254,t256,t258,t260,t262,t264,t266,t268,t270,t159,t48,t36,t35,t53,t163,t166,t271,t167,t272,t41,t273,t274,t34,t275,t170,t171,t276,t59,t277,t172,t278,t173,t279,t174,t280,t175,t176,t281,t177,t178,t179,t180,t181,t182,t183,t184,t185,t186,t187,t188,t189,t190,t191,t192,t193,t194,t195,t196,t197,trivial⟩
end Go.Lyc.T
