/-
  Calls, run in the kernel. No conditions: each stands by itself.
-/
import Derived.Test.YtdlohhnonefolaaGreatDoorMemo1
set_option linter.all false
noncomputable section
namespace Go.Lyc.T
open Go.Lyc
variable [Tok] [TokOk]
set_option maxRecDepth 1000000
set_option maxHeartbeats 4000000
theorem t206:EOk e206:=ek [e152,e163,e203,e1,e205,e159] ⟨t152,t163,t203,t1,t205,t159,trivial⟩
theorem t207:EOk e207:=ek0
theorem t208:EOk e208:=ek0
theorem t209:EOk e209:=ek [e2,e204,e167] ⟨t2,t204,t167,trivial⟩
theorem t210:EOk e210:=ek [e169,e152,e209,e1,e165,e203] ⟨t169,t152,t209,t1,t165,t203,trivial⟩
theorem t211:EOk e211:=ek0
theorem t212:EOk e212:=ek [e2] ⟨t2,trivial⟩
theorem t213:EOk e213:=ek [e175,e169,e212,e1,e209,e165] ⟨t175,t169,t212,t1,t209,t165,trivial⟩
theorem t214:EOk e214:=ek0
theorem t215:EOk e215:=ek [e28,e175,e163,e125,e26,e212,e1,e205,e159] ⟨t28,t175,t163,t125,t26,t212,t1,t205,t159,trivial⟩
theorem t216:EOk e216:=ek [e150,e115,e116,e117,e118,e119,e120,e122,e123,e124,e126,e127,e129,e130,e131,e134,e135,e136,e137,e138,e140,e141,e142,e143,e144,e206,e207,e208,e210,e211,e213,e214,e215] ⟨t150,t115,t116,t117,t118,t119,t120,t122,t123,t124,t126,t127,t129,t130,t131,t134,t135,t136,t137,t138,t140,t141,t142,t143,t144,t206,t207,t208,t210,t211,t213,t214,t215,trivial⟩
theorem t217:EOk e217:=ek0
theorem t218:EOk e218:=ek0
theorem t219:EOk e219:=ek [e218] ⟨t218,trivial⟩
theorem t220:EOk e220:=ek [e218] ⟨t218,trivial⟩
theorem t221:OOk e221:=ok2 [e219,e218,e220] ⟨t219,t218,t220,trivial⟩ [] trivial [65]
theorem t222:EOk e222:=ek0
theorem t223:EOk e223:=ek0
theorem t224:EOk e224:=ek0
theorem t225:EOk e225:=ek0
theorem t226:EOk e226:=ek [e218] ⟨t218,trivial⟩
theorem t227:OOk e227:=ok2 [e219,e218,e226] ⟨t219,t218,t226,trivial⟩ [] trivial []
theorem t228:EOk e228:=ek0
theorem t229:EOk e229:=ek0
theorem t230:EOk e230:=ek0
theorem t231:EOk e231:=ek0
theorem t232:EOk e232:=ek [e1] ⟨t1,trivial⟩
theorem t233:OOk e233:=ok2 [e2,e1,e232] ⟨t2,t1,t232,trivial⟩ [] trivial [65]
theorem t234:EOk e234:=ek0
theorem t235:EOk e235:=ek0
theorem t236:EOk e236:=ek0
theorem t237:EOk e237:=ek0
theorem t238:EOk e238:=ek0
theorem t239:OOk e239:=ok2 [e219,e218,e226] ⟨t219,t218,t226,trivial⟩ [] trivial []
theorem t240:EOk e240:=ek0
theorem t241:EOk e241:=ek0
theorem t242:EOk e242:=ek0
theorem t243:EOk e243:=ek0
theorem t244:EOk e244:=ek [e3] ⟨t3,trivial⟩
theorem t245:OOk e245:=ok2 [e4,e3,e244] ⟨t4,t3,t244,trivial⟩ [] trivial [65]
theorem t246:EOk e246:=ek0
theorem t247:EOk e247:=ek0
theorem t248:EOk e248:=ek0
theorem t249:EOk e249:=ek0
theorem t250:EOk e250:=ek0
theorem t251:EOk e251:=ek0
theorem t252:EOk e252:=ek0
theorem t253:EOk e253:=ek0
theorem t254:EOk e254:=ek0
theorem t255:EOk e255:=ek [e26] ⟨t26,trivial⟩
theorem t256:OOk e256:=ok2 [e27,e26,e255] ⟨t27,t26,t255,trivial⟩ [] trivial [65]
theorem t257:EOk e257:=ek0
theorem t258:EOk e258:=ek0
theorem t259:EOk e259:=ek0
theorem t260:EOk e260:=ek0
theorem t261:EOk e261:=ek0
theorem t262:EOk e262:=ek [e1] ⟨t1,trivial⟩
theorem t263:OOk e263:=ok2 [e2,e1,e262] ⟨t2,t1,t262,trivial⟩ [] trivial [65]
theorem t264:EOk e264:=ek0
theorem t265:EOk e265:=ek0
theorem t266:EOk e266:=ek0
theorem t267:EOk e267:=ek0
theorem t268:EOk e268:=ek [e1] ⟨t1,trivial⟩
theorem t269:OOk e269:=ok2 [e2,e1,e268] ⟨t2,t1,t268,trivial⟩ [] trivial [95,94,93]
theorem t270:EOk e270:=ek0
theorem t271:EOk e271:=ek0
theorem t272:EOk e272:=ek0
theorem t273:EOk e273:=ek0
theorem t274:OOk e274:=ok2 [e217,e7,e8,e9,e10,e13,e14,e15,e16,e19,e20,e21,e22,e25,e30,e31,e32,e33,e34,e35,e36,e37,e38,e40,e41,e42,e43,e44,e47,e48,e49,e50,e51,e53,e54,e55,e56,e57,e60,e61,e62,e63,e64,e68,e69,e70,e71,e72,e73,e74,e75,e78,e79,e80,e81,e82,e84,e85,e86,e87,e88,e89,e90,e91,e92,e222,e223,e224,e225,e228,e229,e230,e231,e234,e235,e236,e237,e238,e240,e241,e242,e243,e246,e247,e248,e249,e250,e251,e252,e253,e254,e257,e258,e259,e260,e261,e264,e265,e266,e267,e270,e271,e272,e273] ⟨t217,t7,t8,t9,t10,t13,t14,t15,t16,t19,t20,t21,t22,t25,t30,t31,t32,t33,t34,t35,t36,t37,t38,t40,t41,t42,t43,t44,t47,t48,t49,t50,t51,t53,t54,t55,t56,t57,t60,t61,t62,t63,t64,t68,t69,t70,t71,t72,t73,t74,t75,t78,t79,t80,t81,t82,t84,t85,t86,t87,t88,t89,t90,t91,t92,t222,t223,t224,t225,t228,t229,t230,t231,t234,t235,t236,t237,t238,t240,t241,t242,t243,t246,t247,t248,t249,t250,t251,t252,t253,t254,t257,t258,t259,t260,t261,t264,t265,t266,t267,t270,t271,t272,t273,trivial⟩ [e6,e12,e18,e24,e29,e39,e46,e52,e59,e66,e67,e77,e83,e221,e227,e233,e239,e245,e256,e263,e269] ⟨t6,t12,t18,t24,t29,t39,t46,t52,t59,t66,t67,t77,t83,t221,t227,t233,t239,t245,t256,t263,t269,trivial⟩ [401,20,9,32,30,44,42,56,49,68,61,102,78,89,100,121,119,107,137,131,156,154,142,172,170,183,213,200,211,188,229,223,245,239,264,262,261,276,269,300,287,298,281,331,311,316,329,305,369,342,347,352,367,336,384,380,381,382,374,399,397,389,390,391]
theorem t275:EOk e275:=ek [e97,e96] ⟨t97,t96,trivial⟩
theorem t276:EOk e276:=ek [e275] ⟨t275,trivial⟩
theorem t277:EOk e277:=ek [e97,e276] ⟨t97,t276,trivial⟩
theorem t278:EOk e278:=ek [e97,e103] ⟨t97,t103,trivial⟩
theorem t279:EOk e279:=ek [e97,e105] ⟨t97,t105,trivial⟩
theorem t280:EOk e280:=ek [e104] ⟨t104,trivial⟩
theorem t281:EOk e281:=ek [e97,e280] ⟨t97,t280,trivial⟩
theorem t282:EOk e282:=ek [e98,e99,e104] ⟨t98,t99,t104,trivial⟩
theorem t283:EOk e283:=ek [e97,e110] ⟨t97,t110,trivial⟩
theorem t284:EOk e284:=ek [e283] ⟨t283,trivial⟩
theorem t285:EOk e285:=ek [e97,e284] ⟨t97,t284,trivial⟩
theorem t286:EOk e286:=ek [e97,e103] ⟨t97,t103,trivial⟩
theorem t287:EOk e287:=ek [e96,e98,e99,e101,e102,e103,e104,e105,e106,e107,e108,e109,e110,e275,e277,e278,e279,e100,e281,e282,e285,e286] ⟨t96,t98,t99,t101,t102,t103,t104,t105,t106,t107,t108,t109,t110,t275,t277,t278,t279,t100,t281,t282,t285,t286,trivial⟩
theorem t288:EOk e288:=ek [e219] ⟨t219,trivial⟩
theorem t289:EOk e289:=ek [e219] ⟨t219,trivial⟩
theorem t290:EOk e290:=ek [e220,e226,e288,e218,e289] ⟨t220,t226,t288,t218,t289,trivial⟩
theorem t291:EOk e291:=ek0
theorem t292:EOk e292:=ek0
theorem t293:EOk e293:=ek [e2] ⟨t2,trivial⟩
theorem t294:EOk e294:=ek [e220,e232,e226,e11,e288,e218,e293,e1,e289,e113] ⟨t220,t232,t226,t11,t288,t218,t293,t1,t289,t113,trivial⟩
theorem t295:EOk e295:=ek0
theorem t296:EOk e296:=ek [e4] ⟨t4,trivial⟩
theorem t297:EOk e297:=ek [e220,e232,e244,e226,e11,e17,e288,e218,e293,e1,e296,e3,e289,e113,e114] ⟨t220,t232,t244,t226,t11,t17,t288,t218,t293,t1,t296,t3,t289,t113,t114,trivial⟩
theorem t298:EOk e298:=ek0
theorem t299:EOk e299:=ek [e27] ⟨t27,trivial⟩
theorem t300:EOk e300:=ek [e220,e232,e244,e255,e226,e11,e17,e28,e288,e218,e293,e1,e296,e3,e299,e26,e289,e113,e114,e125] ⟨t220,t232,t244,t255,t226,t11,t17,t28,t288,t218,t293,t1,t296,t3,t299,t26,t289,t113,t114,t125,trivial⟩
theorem t301:EOk e301:=ek0
theorem t302:EOk e302:=ek [e2] ⟨t2,trivial⟩
theorem t303:EOk e303:=ek [e2] ⟨t2,trivial⟩
theorem t304:EOk e304:=ek [e262,e268,e302,e1,e303] ⟨t262,t268,t302,t1,t303,trivial⟩
theorem t305:EOk e305:=ek0
theorem t306:EOk e306:=ek0
theorem t307:EOk e307:=ek [e268,e262,e303,e1,e302] ⟨t268,t262,t303,t1,t302,trivial⟩
theorem t308:EOk e308:=ek [e217,e115,e116,e117,e118,e119,e120,e122,e123,e124,e126,e127,e129,e130,e131,e134,e135,e136,e137,e138,e140,e141,e142,e143,e144,e290,e291,e292,e294,e295,e297,e298,e300,e301,e304,e305,e306,e307] ⟨t217,t115,t116,t117,t118,t119,t120,t122,t123,t124,t126,t127,t129,t130,t131,t134,t135,t136,t137,t138,t140,t141,t142,t143,t144,t290,t291,t292,t294,t295,t297,t298,t300,t301,t304,t305,t306,t307,trivial⟩
theorem t309:OOk e309:=ok2 [e217,e7,e8,e9,e10,e13,e14,e15,e16,e19,e20,e21,e22,e25,e30,e31,e32,e33,e34,e35,e36,e37,e38,e40,e41,e42,e43,e44,e47,e48,e49,e50,e51,e53,e54,e55,e56,e57,e60,e61,e62,e63,e64,e68,e69,e70,e71,e72,e73,e74,e75,e78,e79,e80,e81,e82,e84,e85,e86,e87,e88,e89,e90,e91,e92,e222,e223,e224,e225,e228,e229,e230,e231,e234,e235,e236,e237,e238,e240,e241,e242,e243,e246,e247,e248,e249,e250,e251,e252,e253,e254,e257,e258,e259,e260,e261,e264,e265,e266,e267,e270,e271,e272,e273] ⟨t217,t7,t8,t9,t10,t13,t14,t15,t16,t19,t20,t21,t22,t25,t30,t31,t32,t33,t34,t35,t36,t37,t38,t40,t41,t42,t43,t44,t47,t48,t49,t50,t51,t53,t54,t55,t56,t57,t60,t61,t62,t63,t64,t68,t69,t70,t71,t72,t73,t74,t75,t78,t79,t80,t81,t82,t84,t85,t86,t87,t88,t89,t90,t91,t92,t222,t223,t224,t225,t228,t229,t230,t231,t234,t235,t236,t237,t238,t240,t241,t242,t243,t246,t247,t248,t249,t250,t251,t252,t253,t254,t257,t258,t259,t260,t261,t264,t265,t266,t267,t270,t271,t272,t273,trivial⟩ [e6,e12,e18,e24,e29,e39,e46,e52,e59,e66,e67,e77,e83,e221,e227,e233,e239,e245,e256,e263,e269] ⟨t6,t12,t18,t24,t29,t39,t46,t52,t59,t66,t67,t77,t83,t221,t227,t233,t239,t245,t256,t263,t269,trivial⟩ [414,21,10,33,31,45,43,57,50,69,62,103,79,90,101,122,120,108,138,132,157,155,143,173,171,184,214,201,212,189,230,224,246,240,265,263,262,277,270,301,288,299,282,332,312,317,330,306,370,343,348,353,368,337,385,381,382,383,375,400,398,390,391,392,412,410]
end Go.Lyc.T
