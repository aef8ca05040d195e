import Derived.Test.YtafekjglclnegaaGreatDoorProg
import Derived.Test.YtafekjglclnegaaGreatDoorP12
set_option linter.all false
namespace Go.Ev
open Go Go.Proofs
abbrev te (t d:TypeInfo):TE:=⟨t,d.desc,false,false⟩
abbrev tnQ (t d:TypeInfo) (l r:Tb TE):Tb TE:=.node (some (te t d)) l r
abbrev tlQ (t d:TypeInfo):Tb TE:=.node (some (te t d)) .nil .nil
abbrev fnQ (f:Func) (l r:Tb Func):Tb Func:=.node (some f) l r
abbrev flQ (f:Func):Tb Func:=.node (some f) .nil .nil
section
open Tryz
noncomputable def tyTab:Tb TE:=
 (tnQ t0 t0 (tnQ t1 t1 (tnQ t3 t3 (tnQ t7 t7 (tnQ t15 t15 (tnQ t31 t30 (tnQ t63 t63 (tnQ t127 t127 (tlQ t255 t255) (.node (some ⟨t383,t383.desc,false,true⟩) .nil .nil)) (tnQ
 t191 t191 (tlQ t319 t319) .nil)) (tnQ t95 t95 (tnQ t159 t159 (tlQ t287 t287) .nil) (tnQ t223 t223 (tlQ t351 t351) .nil))) (tnQ t47 t47 (tnQ t79 t79 (tnQ t143 t143 (tlQ t271 t271)
 .nil) (tnQ t207 t207 (tlQ t335 t335) .nil)) (tnQ t111 t111 (tnQ t175 t175 (tlQ t303 t303) .nil) (tnQ t239 t239 (tlQ t367 t367) .nil)))) (tnQ t23 t22 (tnQ t39 t39 (tnQ t71 t71
 (tnQ t135 t135 (tlQ t263 t263) (.node (some ⟨t391,t391.desc,false,true⟩) .nil .nil)) (tnQ t199 t199 (tlQ t327 t327) .nil)) (tnQ t103 t103 (tnQ t167 t167 (tlQ t295 t295) .nil)
 (tnQ t231 t231 (tlQ t359 t359) .nil))) (tnQ t55 t55 (tnQ t87 t87 (tnQ t151 t151 (tlQ t279 t279) .nil) (tnQ t215 t215 (tlQ t343 t343) .nil)) (tnQ t119 t119 (tnQ t183 t183 (tlQ
 t311 t311) .nil) (tnQ t247 t247 (tlQ t375 t375) .nil))))) (tnQ t11 t9 (.node (some ⟨t19,t18.desc,false,true⟩) (tnQ t35 t34 (tnQ t67 t67 (tnQ t131 t131 (tlQ t259 t259) (tlQ
 t387 t5)) (tnQ t195 t195 (tlQ t323 t323) .nil)) (tnQ t99 t99 (tnQ t163 t163 (tlQ t291 t291) .nil) (tnQ t227 t227 (.node (some ⟨t355,t355.desc,true,false⟩) .nil .nil) .nil)))
 (tnQ t51 t50 (tnQ t83 t83 (tnQ t147 t147 (tlQ t275 t275) .nil) (tnQ t211 t211 (tlQ t339 t339) .nil)) (tnQ t115 t115 (tnQ t179 t179 (tlQ t307 t307) .nil) (tnQ t243 t242 (tlQ t371
 t371) .nil)))) (tnQ t27 t27 (tnQ t43 t43 (tnQ t75 t74 (tnQ t139 t139 (tlQ t267 t267) .nil) (tnQ t203 t203 (tlQ t331 t331) .nil)) (tnQ t107 t107 (tnQ t171 t170 (tlQ t299 t299)
 .nil) (tnQ t235 t235 (tlQ t363 t363) .nil))) (tnQ t59 t59 (tnQ t91 t91 (tnQ t155 t155 (tlQ t283 t283) .nil) (tnQ t219 t219 (tlQ t347 t347) .nil)) (tnQ t123 t123 (tnQ t187 t187
 (tlQ t315 t315) .nil) (tnQ t251 t250 (tlQ t379 t379) .nil)))))) (tnQ t5 t5 (tnQ t9 t9 (tnQ t17 t17 (tnQ t33 t33 (tnQ t65 t65 (tnQ t129 t129 (tlQ t257 t257) (tlQ t385 t385)) (tnQ
 t193 t193 (tlQ t321 t321) .nil)) (tnQ t97 t96 (tnQ t161 t160 (tlQ t289 t289) .nil) (tnQ t225 t225 (tlQ t353 t353) .nil))) (tnQ t49 t49 (tnQ t81 t80 (tnQ t145 t145 (tlQ t273 t273)
 .nil) (tnQ t209 t209 (tlQ t337 t337) .nil)) (tnQ t113 t113 (tnQ t177 t177 (tlQ t305 t305) .nil) (tnQ t241 t241 (tlQ t369 t368) .nil)))) (tnQ t25 t25 (tnQ t41 t40 (tnQ t73 t73
 (tnQ t137 t137 (tlQ t265 t265) (tlQ t393 t393)) (tnQ t201 t201 (tlQ t329 t329) .nil)) (tnQ t105 t105 (tnQ t169 t169 (tlQ t297 t297) .nil) (tnQ t233 t233 (tlQ t361 t361) .nil)))
 (tnQ t57 t57 (tnQ t89 t89 (tnQ t153 t152 (tlQ t281 t281) .nil) (tnQ t217 t217 (tlQ t345 t345) .nil)) (tnQ t121 t121 (tnQ t185 t185 (tlQ t313 t3) .nil) (tnQ t249 t249 (tlQ t377
 t377) .nil))))) (.node (some ⟨t13,t13.desc,false,true⟩) (tnQ t21 t21 (tnQ t37 t37 (tnQ t69 t69 (tnQ t133 t133 (tlQ t261 t261) (tlQ t389 t21)) (tnQ t197 t197 (tlQ t325 t325)
 .nil)) (tnQ t101 t101 (tnQ t165 t165 (tlQ t293 t293) .nil) (tnQ t229 t229 (tlQ t357 t357) .nil))) (tnQ t53 t53 (tnQ t85 t85 (tnQ t149 t149 (tlQ t277 t277) .nil) (tnQ t213 t213
 (tlQ t341 t341) .nil)) (tnQ t117 t117 (tnQ t181 t181 (tlQ t309 t309) .nil) (tnQ t245 t245 (tlQ t373 t373) .nil)))) (tnQ t29 t28 (tnQ t45 t45 (tnQ t77 t76 (tnQ t141 t141 (tlQ t269
 t269) .nil) (tnQ t205 t205 (tlQ t333 t333) .nil)) (tnQ t109 t109 (tnQ t173 t173 (tlQ t301 t301) .nil) (tnQ t237 t237 (tlQ t365 t365) .nil))) (tnQ t61 t61 (tnQ t93 t93 (tnQ t157
 t157 (tlQ t285 t284) .nil) (tnQ t221 t221 (tlQ t349 t349) .nil)) (tnQ t125 t125 (tnQ t189 t189 (tlQ t317 t317) .nil) (tnQ t253 t253 (.node (some ⟨t381,t380.desc,false,true⟩)
 .nil .nil) .nil))))))) (tnQ t2 t2 (tnQ t4 t4 (tnQ t8 t7 (tnQ t16 t16 (tnQ t32 t32 (tnQ t64 t64 (tnQ t128 t128 (tlQ t256 t256) (.node (some ⟨t384,t383.desc,false,true⟩) .nil
 .nil)) (tnQ t192 t192 (tlQ t320 t320) .nil)) (tnQ t96 t96 (tnQ t160 t160 (tlQ t288 t288) .nil) (tnQ t224 t224 (tlQ t352 t352) .nil))) (tnQ t48 t48 (tnQ t80 t80 (tnQ t144 t144
 (tlQ t272 t272) .nil) (tnQ t208 t208 (tlQ t336 t336) .nil)) (tnQ t112 t112 (tnQ t176 t176 (tlQ t304 t304) .nil) (tnQ t240 t240 (tlQ t368 t368) .nil)))) (tnQ t24 t24 (tnQ t40 t40
 (tnQ t72 t72 (tnQ t136 t136 (tlQ t264 t264) (.node (some ⟨t392,t391.desc,false,true⟩) .nil .nil)) (tnQ t200 t200 (tlQ t328 t328) .nil)) (tnQ t104 t104 (tnQ t168 t168 (tlQ t296
 t296) .nil) (tnQ t232 t232 (tlQ t360 t360) .nil))) (tnQ t56 t56 (tnQ t88 t88 (tnQ t152 t152 (tlQ t280 t280) .nil) (tnQ t216 t216 (tlQ t344 t344) .nil)) (tnQ t120 t120 (tnQ t184
 t184 (tlQ t312 t312) .nil) (tnQ t248 t248 (tlQ t376 t376) .nil))))) (tnQ t12 t12 (tnQ t20 t20 (tnQ t36 t36 (tnQ t68 t68 (tnQ t132 t132 (tlQ t260 t260) (tlQ t388 t388)) (tnQ t196
 t196 (tlQ t324 t324) .nil)) (tnQ t100 t100 (tnQ t164 t164 (tlQ t292 t291) .nil) (tnQ t228 t228 (.node (some ⟨t356,t355.desc,true,false⟩) .nil .nil) .nil))) (tnQ t52 t52 (tnQ
 t84 t84 (tnQ t148 t148 (tlQ t276 t276) .nil) (tnQ t212 t212 (tlQ t340 t340) .nil)) (tnQ t116 t116 (tnQ t180 t180 (tlQ t308 t308) .nil) (tnQ t244 t244 (tlQ t372 t372) .nil))))
 (tnQ t28 t28 (tnQ t44 t44 (tnQ t76 t76 (tnQ t140 t140 (tlQ t268 t268) .nil) (tnQ t204 t204 (tlQ t332 t3) .nil)) (tnQ t108 t108 (tnQ t172 t172 (tlQ t300 t300) .nil) (tnQ t236 t236
 (tlQ t364 t363) .nil))) (tnQ t60 t60 (tnQ t92 t92 (tnQ t156 t156 (tlQ t284 t284) .nil) (tnQ t220 t220 (tlQ t348 t348) .nil)) (tnQ t124 t124 (tnQ t188 t188 (tlQ t316 t316) .nil)
 (tnQ t252 t252 (.node (some ⟨t380,t380.desc,false,true⟩) .nil .nil) .nil)))))) (tnQ t6 t5 (tnQ t10 t9 (.node (some ⟨t18,t18.desc,false,true⟩) (tnQ t34 t34 (tnQ t66 t66 (tnQ
 t130 t130 (tlQ t258 t258) (tlQ t386 t5)) (tnQ t194 t194 (tlQ t322 t322) .nil)) (tnQ t98 t98 (tnQ t162 t162 (tlQ t290 t290) .nil) (tnQ t226 t226 (tlQ t354 t354) .nil))) (tnQ t50
 t50 (tnQ t82 t82 (tnQ t146 t146 (tlQ t274 t274) .nil) (tnQ t210 t210 (tlQ t338 t338) .nil)) (tnQ t114 t114 (tnQ t178 t178 (tlQ t306 t306) .nil) (tnQ t242 t242 (tlQ t370 t370)
 .nil)))) (tnQ t26 t25 (tnQ t42 t42 (tnQ t74 t74 (tnQ t138 t138 (tlQ t266 t266) .nil) (tnQ t202 t202 (tlQ t330 t330) .nil)) (tnQ t106 t106 (tnQ t170 t170 (tlQ t298 t298) .nil)
 (tnQ t234 t234 (tlQ t362 t362) .nil))) (tnQ t58 t58 (tnQ t90 t90 (tnQ t154 t154 (tlQ t282 t282) .nil) (tnQ t218 t218 (tlQ t346 t296) .nil)) (tnQ t122 t122 (tnQ t186 t186 (tlQ
 t314 t314) .nil) (tnQ t250 t250 (tlQ t378 t378) .nil))))) (.node (some ⟨t14,t13.desc,false,true⟩) (tnQ t22 t22 (tnQ t38 t37 (tnQ t70 t70 (tnQ t134 t134 (tlQ t262 t262) (tlQ
 t390 t21)) (tnQ t198 t198 (tlQ t326 t326) .nil)) (tnQ t102 t102 (tnQ t166 t166 (tlQ t294 t294) .nil) (tnQ t230 t230 (tlQ t358 t358) .nil))) (tnQ t54 t3 (tnQ t86 t86 (tnQ t150
 t150 (tlQ t278 t278) .nil) (tnQ t214 t214 (tlQ t342 t341) .nil)) (tnQ t118 t118 (tnQ t182 t182 (tlQ t310 t310) .nil) (tnQ t246 t246 (tlQ t374 t374) .nil)))) (tnQ t30 t30 (tnQ t46
 t46 (tnQ t78 t78 (tnQ t142 t142 (tlQ t270 t270) .nil) (tnQ t206 t205 (tlQ t334 t334) .nil)) (tnQ t110 t110 (tnQ t174 t173 (tlQ t302 t302) .nil) (tnQ t238 t238 (tlQ t366 t366)
 .nil))) (tnQ t62 t61 (tnQ t94 t93 (tnQ t158 t158 (tlQ t286 t286) .nil) (tnQ t222 t222 (tlQ t350 t350) .nil)) (tnQ t126 t126 (tnQ t190 t190 (tlQ t318 t318) .nil) (tnQ t254 t254
 (tlQ t382 t382) .nil))))))))
noncomputable def fnTab:Tb Func:=
 (.node none (.node none (fnQ f3 (fnQ f7 (fnQ f15 (fnQ f31 (fnQ f63 (fnQ f127 (flQ f255) .nil) (fnQ f191 (flQ f319) .nil)) (fnQ f95 (fnQ f159 (flQ f287) .nil) (fnQ f223 (flQ f351)
 .nil))) (fnQ f47 (fnQ f79 (fnQ f143 (flQ f271) .nil) (fnQ f207 (flQ f335) .nil)) (fnQ f111 (fnQ f175 (flQ f303) .nil) (flQ f239)))) (fnQ f23 (fnQ f39 (fnQ f71 (fnQ f135 (flQ
 f263) .nil) (fnQ f199 (flQ f327) .nil)) (fnQ f103 (fnQ f167 (flQ f295) .nil) (flQ f231))) (fnQ f55 (fnQ f87 (fnQ f151 (flQ f279) .nil) (fnQ f215 (flQ f343) .nil)) (fnQ f119 (fnQ
 f183 (flQ f311) .nil) (flQ f247))))) (fnQ f11 (fnQ f19 (fnQ f35 (fnQ f67 (fnQ f131 (flQ f259) .nil) (flQ f195)) (fnQ f99 (fnQ f163 (flQ f291) .nil) (flQ f227))) (fnQ f51 (fnQ f83
 (fnQ f147 (flQ f275) .nil) (fnQ f211 (flQ f339) .nil)) (fnQ f115 (fnQ f179 (flQ f307) .nil) (flQ f243)))) (fnQ f27 (fnQ f43 (fnQ f75 (fnQ f139 (flQ f267) .nil) (fnQ f203 (flQ
 f331) .nil)) (fnQ f107 (fnQ f171 (flQ f299) .nil) (flQ f235))) (fnQ f59 (fnQ f91 (fnQ f155 (flQ f283) .nil) (fnQ f219 (flQ f347) .nil)) (fnQ f123 (fnQ f187 (flQ f315) .nil) (flQ
 f251)))))) (fnQ f5 (fnQ f9 (fnQ f17 (fnQ f33 (fnQ f65 (fnQ f129 (flQ f257) (flQ f385)) (fnQ f193 (flQ f321) .nil)) (fnQ f97 (fnQ f161 (flQ f289) .nil) (fnQ f225 (flQ f353)
 .nil))) (fnQ f49 (fnQ f81 (fnQ f145 (flQ f273) .nil) (fnQ f209 (flQ f337) .nil)) (fnQ f113 (fnQ f177 (flQ f305) .nil) (flQ f241)))) (fnQ f25 (fnQ f41 (fnQ f73 (fnQ f137 (flQ
 f265) .nil) (fnQ f201 (flQ f329) .nil)) (fnQ f105 (fnQ f169 (flQ f297) .nil) (flQ f233))) (fnQ f57 (fnQ f89 (fnQ f153 (flQ f281) .nil) (fnQ f217 (flQ f345) .nil)) (fnQ f121 (fnQ
 f185 (flQ f313) .nil) (flQ f249))))) (fnQ f13 (fnQ f21 (fnQ f37 (fnQ f69 (fnQ f133 (flQ f261) .nil) (fnQ f197 (flQ f325) .nil)) (fnQ f101 (fnQ f165 (flQ f293) .nil) (flQ f229)))
 (fnQ f53 (fnQ f85 (fnQ f149 (flQ f277) .nil) (fnQ f213 (flQ f341) .nil)) (fnQ f117 (fnQ f181 (flQ f309) .nil) (flQ f245)))) (fnQ f29 (fnQ f45 (fnQ f77 (fnQ f141 (flQ f269) .nil)
 (fnQ f205 (flQ f333) .nil)) (fnQ f109 (fnQ f173 (flQ f301) .nil) (flQ f237))) (fnQ f61 (fnQ f93 (fnQ f157 (flQ f285) .nil) (fnQ f221 (flQ f349) .nil)) (fnQ f125 (fnQ f189 (flQ
 f317) .nil) (flQ f253))))))) (fnQ f2 (fnQ f4 (fnQ f8 (fnQ f16 (fnQ f32 (fnQ f64 (fnQ f128 (flQ f256) .nil) (fnQ f192 (flQ f320) .nil)) (fnQ f96 (fnQ f160 (flQ f288) .nil) (fnQ
 f224 (flQ f352) .nil))) (fnQ f48 (fnQ f80 (fnQ f144 (flQ f272) .nil) (fnQ f208 (flQ f336) .nil)) (fnQ f112 (fnQ f176 (flQ f304) .nil) (flQ f240)))) (fnQ f24 (fnQ f40 (fnQ f72
 (fnQ f136 (flQ f264) .nil) (fnQ f200 (flQ f328) .nil)) (fnQ f104 (fnQ f168 (flQ f296) .nil) (flQ f232))) (fnQ f56 (fnQ f88 (fnQ f152 (flQ f280) .nil) (fnQ f216 (flQ f344) .nil))
 (fnQ f120 (fnQ f184 (flQ f312) .nil) (flQ f248))))) (fnQ f12 (fnQ f20 (fnQ f36 (fnQ f68 (fnQ f132 (flQ f260) .nil) (fnQ f196 (flQ f324) .nil)) (fnQ f100 (fnQ f164 (flQ f292)
 .nil) (flQ f228))) (fnQ f52 (fnQ f84 (fnQ f148 (flQ f276) .nil) (fnQ f212 (flQ f340) .nil)) (fnQ f116 (fnQ f180 (flQ f308) .nil) (flQ f244)))) (fnQ f28 (fnQ f44 (fnQ f76 (fnQ
 f140 (flQ f268) .nil) (fnQ f204 (flQ f332) .nil)) (fnQ f108 (fnQ f172 (flQ f300) .nil) (flQ f236))) (fnQ f60 (fnQ f92 (fnQ f156 (flQ f284) .nil) (fnQ f220 (flQ f348) .nil)) (fnQ
 f124 (fnQ f188 (flQ f316) .nil) (flQ f252)))))) (fnQ f6 (fnQ f10 (fnQ f18 (fnQ f34 (fnQ f66 (fnQ f130 (flQ f258) .nil) (fnQ f194 (flQ f322) .nil)) (fnQ f98 (fnQ f162 (flQ f290)
 .nil) (flQ f226))) (fnQ f50 (fnQ f82 (fnQ f146 (flQ f274) .nil) (fnQ f210 (flQ f338) .nil)) (fnQ f114 (fnQ f178 (flQ f306) .nil) (flQ f242)))) (fnQ f26 (fnQ f42 (fnQ f74 (fnQ
 f138 (flQ f266) .nil) (fnQ f202 (flQ f330) .nil)) (fnQ f106 (fnQ f170 (flQ f298) .nil) (flQ f234))) (fnQ f58 (fnQ f90 (flQ f154) (fnQ f218 (flQ f346) .nil)) (fnQ f122 (fnQ f186
 (flQ f314) .nil) (flQ f250))))) (fnQ f14 (fnQ f22 (fnQ f38 (fnQ f70 (fnQ f134 (flQ f262) .nil) (fnQ f198 (flQ f326) .nil)) (fnQ f102 (fnQ f166 (flQ f294) .nil) (flQ f230))) (fnQ
 f54 (fnQ f86 (fnQ f150 (flQ f278) .nil) (fnQ f214 (flQ f342) .nil)) (fnQ f118 (fnQ f182 (flQ f310) .nil) (flQ f246)))) (fnQ f30 (fnQ f46 (fnQ f78 (fnQ f142 (flQ f270) .nil) (fnQ
 f206 (flQ f334) .nil)) (fnQ f110 (fnQ f174 (flQ f302) .nil) (flQ f238))) (fnQ f62 (fnQ f94 (fnQ f158 (flQ f286) .nil) (fnQ f222 (flQ f350) .nil)) (fnQ f126 (fnQ f190 (flQ f318)
 .nil) (flQ f254))))))))
end
noncomputable def tab:Tab:=⟨tyTab,fnTab⟩
def TbAll {α:Type} (p:Nat->α->Prop):(Nat->Nat)->Tb α->Prop
 | _,.nil=>True
 | f,.node v l r=>(∀e,v=some e->p (f 0) e)/\TbAll p (fun i=>f (2*i+1)) l/\TbAll p (fun i=>f (2*i+2)) r
theorem TbAll.get {α:Type} {p:Nat->α->Prop}:∀{t:Tb α} {f:Nat->Nat},TbAll p f t->∀i e,t.get i=some e->p (f i) e
 | .nil,f,h,i,e,he=>by cases i<;>cases he
 | .node v l r,f,h,i,e,he=>by
   unfold Tb.get at he
   by_cases h0:i=0
   · subst h0
     simp only [beqT (rfl:(0:Nat)=0),cond_true] at he
     exact h.1 e he
   · rw [beqF h0,cond_false] at he
     rcases Nat.mod_two_eq_zero_or_one i with h2|h2
     · rw [beqF (by omega),cond_false] at he
       have:=TbAll.get h.2.2 _ e he
       rwa [show 2*(i/2-1)+2=i by omega] at this
     · rw [beqT h2,cond_true] at he
       have:=TbAll.get h.2.1 _ e he
       rwa [show 2*(i/2)+1=i by omega] at this
theorem some_all {α:Type} {q:α->Prop} {a:α} (h:q a):∀e,some a=some e->q e:=fun e he=>by cases he;exact h
theorem none_all {α:Type} {q:α->Prop}:∀e,none=some e->q e:=fun e he=>by cases he
theorem info_of {P:Program} {t:TypeId} {i:TypeInfo} (h:P.types[t]? = some i):P.info? t=some i:=by
 have:t<P.types.size:=(Array.getElem?_eq_some_iff.1 h).1
 simp only [Tables.info?,this,if_true,h]
def TyOK (P:Program) (t:Nat) (e:TE):Prop:=P.info? t=some e.i/\P.underlying t=some e.u/\(aggD (some e.u)=true->P.eqGuardType P.depth t=e.guard)/\((structD (some e.u)).isSome=true->P.stoodInHeld t=e.stood)
def FnOK (P:Program) (f:Nat) (fn:Func):Prop:=P.funcs[f]? = some fn/\fn.name ≠ "runtime.NumGoroutine"
theorem txQ {P:Program} {t:Nat} {i:TypeInfo} {d:TypeDesc} {b c:Bool} (h:P.types[t]? = some i) (u:P.underlying t=some d) (a:P.eqGuardType P.depth t=b) (s:P.stoodInHeld t=c):∀e,some (TE.mk i d b c)=some e->TyOK P t e:=
 some_all ⟨info_of h,u,fun _=>a,fun _=>s⟩
theorem tzQ {P:Program} {t:Nat} {i:TypeInfo} {d:TypeDesc} {b c:Bool} (h:P.types[t]? = some i) (u:P.underlying t=some d) (a:P.eqGuardType P.depth t=b) (s:(structD (some d)).isSome=false):∀e,some (TE.mk i d b c)=some e->TyOK P t e:=
 some_all ⟨info_of h,u,fun _=>a,fun e=>absurd (s.symm.trans e) Bool.false_ne_true⟩
theorem tyQ {P:Program} {t:Nat} {i d:TypeInfo} (h:P.types[t]? = some i) (u:P.underlying t=some d.desc) (a:aggD (some d.desc)=false) (s:(structD (some d.desc)).isSome=false):∀e,some (te i d)=some e->TyOK P t e:=
 some_all ⟨info_of h,u,fun e=>absurd (a.symm.trans e) Bool.false_ne_true,fun e=>absurd (s.symm.trans e) Bool.false_ne_true⟩
theorem tfQ {P:Program} {f:Nat} {n:Func} (h:P.funcs[f]? = some n) (hn:n.name ≠ "runtime.NumGoroutine" := by decide):∀e,some n=some e->FnOK P f e:=some_all ⟨h,hn⟩
theorem ttQ:True/\True:=⟨trivial,trivial⟩
section
open Tryz
theorem tyAll:TbAll (TyOK prog) (fun i=>i) tyTab:=
 ⟨tyQ type0 underlying0 rfl rfl,⟨tyQ type1 underlying1 rfl rfl,⟨tyQ type3 underlying3 rfl rfl,⟨txQ type7 underlying7 eqGuardType7 stoodInHeld7,⟨tyQ type15 underlying15 rfl
 rfl,⟨txQ type31 underlying31 eqGuardType31 stoodInHeld31,⟨tyQ type63 underlying63 rfl rfl,⟨tyQ type127 underlying127 rfl rfl,⟨tyQ type255 underlying255 rfl rfl,ttQ⟩,⟨txQ
 type383 underlying383 eqGuardType383 stoodInHeld383,ttQ⟩⟩,⟨tyQ type191 underlying191 rfl rfl,⟨tyQ type319 underlying319 rfl rfl,ttQ⟩,trivial⟩⟩,⟨tyQ type95 underlying95 rfl
 rfl,⟨tyQ type159 underlying159 rfl rfl,⟨tyQ type287 underlying287 rfl rfl,ttQ⟩,trivial⟩,⟨tyQ type223 underlying223 rfl rfl,⟨tyQ type351 underlying351 rfl rfl,ttQ⟩,
 trivial⟩⟩⟩,⟨tyQ type47 underlying47 rfl rfl,⟨tyQ type79 underlying79 rfl rfl,⟨tyQ type143 underlying143 rfl rfl,⟨tyQ type271 underlying271 rfl rfl,ttQ⟩,trivial⟩,⟨tzQ
 type207 underlying207 eqGuardType207 rfl,⟨tyQ type335 underlying335 rfl rfl,ttQ⟩,trivial⟩⟩,⟨tyQ type111 underlying111 rfl rfl,⟨tyQ type175 underlying175 rfl rfl,⟨tyQ
 type303 underlying303 rfl rfl,ttQ⟩,trivial⟩,⟨tyQ type239 underlying239 rfl rfl,⟨tyQ type367 underlying367 rfl rfl,ttQ⟩,trivial⟩⟩⟩⟩,⟨txQ type23 underlying23 eqGuardType23
 stoodInHeld23,⟨tyQ type39 underlying39 rfl rfl,⟨tyQ type71 underlying71 rfl rfl,⟨tyQ type135 underlying135 rfl rfl,⟨tyQ type263 underlying263 rfl rfl,ttQ⟩,⟨txQ type391
 underlying391 eqGuardType391 stoodInHeld391,ttQ⟩⟩,⟨tyQ type199 underlying199 rfl rfl,⟨tyQ type327 underlying327 rfl rfl,ttQ⟩,trivial⟩⟩,⟨tyQ type103 underlying103 rfl rfl,
 ⟨tyQ type167 underlying167 rfl rfl,⟨tyQ type295 underlying295 rfl rfl,ttQ⟩,trivial⟩,⟨tyQ type231 underlying231 rfl rfl,⟨txQ type359 underlying359 eqGuardType359
 stoodInHeld359,ttQ⟩,trivial⟩⟩⟩,⟨tyQ type55 underlying55 rfl rfl,⟨tyQ type87 underlying87 rfl rfl,⟨tyQ type151 underlying151 rfl rfl,⟨tyQ type279 underlying279 rfl rfl,
 ttQ⟩,trivial⟩,⟨tyQ type215 underlying215 rfl rfl,⟨tzQ type343 underlying343 eqGuardType343 rfl,ttQ⟩,trivial⟩⟩,⟨tyQ type119 underlying119 rfl rfl,⟨tyQ type183 underlying183
 rfl rfl,⟨tyQ type311 underlying311 rfl rfl,ttQ⟩,trivial⟩,⟨tyQ type247 underlying247 rfl rfl,⟨tyQ type375 underlying375 rfl rfl,ttQ⟩,trivial⟩⟩⟩⟩⟩,⟨tyQ type11 underlying11
 rfl rfl,⟨txQ type19 underlying19 eqGuardType19 stoodInHeld19,⟨txQ type35 underlying35 eqGuardType35 stoodInHeld35,⟨tyQ type67 underlying67 rfl rfl,⟨tyQ type131 underlying131
 rfl rfl,⟨tyQ type259 underlying259 rfl rfl,ttQ⟩,⟨tyQ type387 underlying387 rfl rfl,ttQ⟩⟩,⟨tyQ type195 underlying195 rfl rfl,⟨tyQ type323 underlying323 rfl rfl,ttQ⟩,
 trivial⟩⟩,⟨tyQ type99 underlying99 rfl rfl,⟨tyQ type163 underlying163 rfl rfl,⟨tzQ type291 underlying291 eqGuardType291 rfl,ttQ⟩,trivial⟩,⟨tyQ type227 underlying227 rfl
 rfl,⟨txQ type355 underlying355 eqGuardType355 stoodInHeld355,ttQ⟩,trivial⟩⟩⟩,⟨txQ type51 underlying51 eqGuardType51 stoodInHeld51,⟨tyQ type83 underlying83 rfl rfl,⟨tyQ
 type147 underlying147 rfl rfl,⟨tyQ type275 underlying275 rfl rfl,ttQ⟩,trivial⟩,⟨tyQ type211 underlying211 rfl rfl,⟨tyQ type339 underlying339 rfl rfl,ttQ⟩,trivial⟩⟩,⟨tyQ
 type115 underlying115 rfl rfl,⟨tyQ type179 underlying179 rfl rfl,⟨tyQ type307 underlying307 rfl rfl,ttQ⟩,trivial⟩,⟨txQ type243 underlying243 eqGuardType243 stoodInHeld243,
 ⟨tzQ type371 underlying371 eqGuardType371 rfl,ttQ⟩,trivial⟩⟩⟩⟩,⟨tyQ type27 underlying27 rfl rfl,⟨tyQ type43 underlying43 rfl rfl,⟨txQ type75 underlying75 eqGuardType75
 stoodInHeld75,⟨tyQ type139 underlying139 rfl rfl,⟨tyQ type267 underlying267 rfl rfl,ttQ⟩,trivial⟩,⟨tyQ type203 underlying203 rfl rfl,⟨tyQ type331 underlying331 rfl rfl,
 ttQ⟩,trivial⟩⟩,⟨tyQ type107 underlying107 rfl rfl,⟨txQ type171 underlying171 eqGuardType171 stoodInHeld171,⟨tyQ type299 underlying299 rfl rfl,ttQ⟩,trivial⟩,⟨tyQ type235
 underlying235 rfl rfl,⟨txQ type363 underlying363 eqGuardType363 stoodInHeld363,ttQ⟩,trivial⟩⟩⟩,⟨tyQ type59 underlying59 rfl rfl,⟨tyQ type91 underlying91 rfl rfl,⟨tyQ
 type155 underlying155 rfl rfl,⟨tyQ type283 underlying283 rfl rfl,ttQ⟩,trivial⟩,⟨tyQ type219 underlying219 rfl rfl,⟨tyQ type347 underlying347 rfl rfl,ttQ⟩,trivial⟩⟩,⟨tyQ
 type123 underlying123 rfl rfl,⟨tyQ type187 underlying187 rfl rfl,⟨tyQ type315 underlying315 rfl rfl,ttQ⟩,trivial⟩,⟨tyQ type251 underlying251 rfl rfl,⟨tzQ type379
 underlying379 eqGuardType379 rfl,ttQ⟩,trivial⟩⟩⟩⟩⟩⟩,⟨tyQ type5 underlying5 rfl rfl,⟨tyQ type9 underlying9 rfl rfl,⟨tyQ type17 underlying17 rfl rfl,⟨tyQ type33 underlying33
 rfl rfl,⟨tyQ type65 underlying65 rfl rfl,⟨tyQ type129 underlying129 rfl rfl,⟨tyQ type257 underlying257 rfl rfl,ttQ⟩,⟨tyQ type385 underlying385 rfl rfl,ttQ⟩⟩,⟨tyQ type193
 underlying193 rfl rfl,⟨tyQ type321 underlying321 rfl rfl,ttQ⟩,trivial⟩⟩,⟨txQ type97 underlying97 eqGuardType97 stoodInHeld97,⟨tyQ type161 underlying161 rfl rfl,⟨tyQ type289
 underlying289 rfl rfl,ttQ⟩,trivial⟩,⟨tyQ type225 underlying225 rfl rfl,⟨tyQ type353 underlying353 rfl rfl,ttQ⟩,trivial⟩⟩⟩,⟨tzQ type49 underlying49 eqGuardType49 rfl,⟨txQ
 type81 underlying81 eqGuardType81 stoodInHeld81,⟨tyQ type145 underlying145 rfl rfl,⟨tyQ type273 underlying273 rfl rfl,ttQ⟩,trivial⟩,⟨tyQ type209 underlying209 rfl rfl,⟨tyQ
 type337 underlying337 rfl rfl,ttQ⟩,trivial⟩⟩,⟨tyQ type113 underlying113 rfl rfl,⟨tyQ type177 underlying177 rfl rfl,⟨tyQ type305 underlying305 rfl rfl,ttQ⟩,trivial⟩,⟨tyQ
 type241 underlying241 rfl rfl,⟨txQ type369 underlying369 eqGuardType369 stoodInHeld369,ttQ⟩,trivial⟩⟩⟩⟩,⟨txQ type25 underlying25 eqGuardType25 stoodInHeld25,⟨txQ type41
 underlying41 eqGuardType41 stoodInHeld41,⟨tyQ type73 underlying73 rfl rfl,⟨tyQ type137 underlying137 rfl rfl,⟨tyQ type265 underlying265 rfl rfl,ttQ⟩,⟨tyQ type393
 underlying393 rfl rfl,ttQ⟩⟩,⟨tyQ type201 underlying201 rfl rfl,⟨tyQ type329 underlying329 rfl rfl,ttQ⟩,trivial⟩⟩,⟨tyQ type105 underlying105 rfl rfl,⟨tyQ type169
 underlying169 rfl rfl,⟨tzQ type297 underlying297 eqGuardType297 rfl,ttQ⟩,trivial⟩,⟨tyQ type233 underlying233 rfl rfl,⟨tyQ type361 underlying361 rfl rfl,ttQ⟩,trivial⟩⟩⟩,
 ⟨tyQ type57 underlying57 rfl rfl,⟨tyQ type89 underlying89 rfl rfl,⟨tyQ type153 underlying153 rfl rfl,⟨tyQ type281 underlying281 rfl rfl,ttQ⟩,trivial⟩,⟨tyQ type217
 underlying217 rfl rfl,⟨tyQ type345 underlying345 rfl rfl,ttQ⟩,trivial⟩⟩,⟨tyQ type121 underlying121 rfl rfl,⟨tzQ type185 underlying185 eqGuardType185 rfl,⟨tyQ type313
 underlying313 rfl rfl,ttQ⟩,trivial⟩,⟨tyQ type249 underlying249 rfl rfl,⟨tzQ type377 underlying377 eqGuardType377 rfl,ttQ⟩,trivial⟩⟩⟩⟩⟩,⟨txQ type13 underlying13
 eqGuardType13 stoodInHeld13,⟨tyQ type21 underlying21 rfl rfl,⟨txQ type37 underlying37 eqGuardType37 stoodInHeld37,⟨tyQ type69 underlying69 rfl rfl,⟨tyQ type133 underlying133
 rfl rfl,⟨tyQ type261 underlying261 rfl rfl,ttQ⟩,⟨tyQ type389 underlying389 rfl rfl,ttQ⟩⟩,⟨tyQ type197 underlying197 rfl rfl,⟨tyQ type325 underlying325 rfl rfl,ttQ⟩,
 trivial⟩⟩,⟨tyQ type101 underlying101 rfl rfl,⟨tyQ type165 underlying165 rfl rfl,⟨tyQ type293 underlying293 rfl rfl,ttQ⟩,trivial⟩,⟨tyQ type229 underlying229 rfl rfl,⟨tyQ
 type357 underlying357 rfl rfl,ttQ⟩,trivial⟩⟩⟩,⟨tyQ type53 underlying53 rfl rfl,⟨tyQ type85 underlying85 rfl rfl,⟨tyQ type149 underlying149 rfl rfl,⟨tyQ type277
 underlying277 rfl rfl,ttQ⟩,trivial⟩,⟨tyQ type213 underlying213 rfl rfl,⟨txQ type341 underlying341 eqGuardType341 stoodInHeld341,ttQ⟩,trivial⟩⟩,⟨tyQ type117 underlying117
 rfl rfl,⟨tyQ type181 underlying181 rfl rfl,⟨tyQ type309 underlying309 rfl rfl,ttQ⟩,trivial⟩,⟨tyQ type245 underlying245 rfl rfl,⟨tyQ type373 underlying373 rfl rfl,ttQ⟩,
 trivial⟩⟩⟩⟩,⟨txQ type29 underlying29 eqGuardType29 stoodInHeld29,⟨tyQ type45 underlying45 rfl rfl,⟨txQ type77 underlying77 eqGuardType77 stoodInHeld77,⟨tyQ type141
 underlying141 rfl rfl,⟨tzQ type269 underlying269 eqGuardType269 rfl,ttQ⟩,trivial⟩,⟨txQ type205 underlying205 eqGuardType205 stoodInHeld205,⟨tyQ type333 underlying333 rfl
 rfl,ttQ⟩,trivial⟩⟩,⟨tyQ type109 underlying109 rfl rfl,⟨txQ type173 underlying173 eqGuardType173 stoodInHeld173,⟨tyQ type301 underlying301 rfl rfl,ttQ⟩,trivial⟩,⟨tyQ
 type237 underlying237 rfl rfl,⟨tzQ type365 underlying365 eqGuardType365 rfl,ttQ⟩,trivial⟩⟩⟩,⟨txQ type61 underlying61 eqGuardType61 stoodInHeld61,⟨txQ type93 underlying93
 eqGuardType93 stoodInHeld93,⟨tyQ type157 underlying157 rfl rfl,⟨tzQ type285 underlying285 eqGuardType285 rfl,ttQ⟩,trivial⟩,⟨tyQ type221 underlying221 rfl rfl,⟨tyQ type349
 underlying349 rfl rfl,ttQ⟩,trivial⟩⟩,⟨tyQ type125 underlying125 rfl rfl,⟨tyQ type189 underlying189 rfl rfl,⟨tyQ type317 underlying317 rfl rfl,ttQ⟩,trivial⟩,⟨tyQ type253
 underlying253 rfl rfl,⟨txQ type381 underlying381 eqGuardType381 stoodInHeld381,ttQ⟩,trivial⟩⟩⟩⟩⟩⟩⟩,⟨tyQ type2 underlying2 rfl rfl,⟨tyQ type4 underlying4 rfl rfl,⟨txQ type8
 underlying8 eqGuardType8 stoodInHeld8,⟨tyQ type16 underlying16 rfl rfl,⟨tyQ type32 underlying32 rfl rfl,⟨tyQ type64 underlying64 rfl rfl,⟨tyQ type128 underlying128 rfl rfl,
 ⟨tyQ type256 underlying256 rfl rfl,ttQ⟩,⟨txQ type384 underlying384 eqGuardType384 stoodInHeld384,ttQ⟩⟩,⟨tyQ type192 underlying192 rfl rfl,⟨tyQ type320 underlying320 rfl rfl,
 ttQ⟩,trivial⟩⟩,⟨txQ type96 underlying96 eqGuardType96 stoodInHeld96,⟨tyQ type160 underlying160 rfl rfl,⟨tyQ type288 underlying288 rfl rfl,ttQ⟩,trivial⟩,⟨tyQ type224
 underlying224 rfl rfl,⟨tyQ type352 underlying352 rfl rfl,ttQ⟩,trivial⟩⟩⟩,⟨tyQ type48 underlying48 rfl rfl,⟨txQ type80 underlying80 eqGuardType80 stoodInHeld80,⟨tyQ type144
 underlying144 rfl rfl,⟨tyQ type272 underlying272 rfl rfl,ttQ⟩,trivial⟩,⟨tyQ type208 underlying208 rfl rfl,⟨tyQ type336 underlying336 rfl rfl,ttQ⟩,trivial⟩⟩,⟨tyQ type112
 underlying112 rfl rfl,⟨tyQ type176 underlying176 rfl rfl,⟨tyQ type304 underlying304 rfl rfl,ttQ⟩,trivial⟩,⟨tyQ type240 underlying240 rfl rfl,⟨txQ type368 underlying368
 eqGuardType368 stoodInHeld368,ttQ⟩,trivial⟩⟩⟩⟩,⟨tzQ type24 underlying24 eqGuardType24 rfl,⟨txQ type40 underlying40 eqGuardType40 stoodInHeld40,⟨tyQ type72 underlying72 rfl
 rfl,⟨tyQ type136 underlying136 rfl rfl,⟨tyQ type264 underlying264 rfl rfl,ttQ⟩,⟨txQ type392 underlying392 eqGuardType392 stoodInHeld392,ttQ⟩⟩,⟨tyQ type200 underlying200 rfl
 rfl,⟨tyQ type328 underlying328 rfl rfl,ttQ⟩,trivial⟩⟩,⟨tyQ type104 underlying104 rfl rfl,⟨tyQ type168 underlying168 rfl rfl,⟨tyQ type296 underlying296 rfl rfl,ttQ⟩,
 trivial⟩,⟨tyQ type232 underlying232 rfl rfl,⟨tyQ type360 underlying360 rfl rfl,ttQ⟩,trivial⟩⟩⟩,⟨tyQ type56 underlying56 rfl rfl,⟨tyQ type88 underlying88 rfl rfl,⟨tyQ
 type152 underlying152 rfl rfl,⟨tyQ type280 underlying280 rfl rfl,ttQ⟩,trivial⟩,⟨tyQ type216 underlying216 rfl rfl,⟨tyQ type344 underlying344 rfl rfl,ttQ⟩,trivial⟩⟩,⟨tyQ
 type120 underlying120 rfl rfl,⟨tyQ type184 underlying184 rfl rfl,⟨tyQ type312 underlying312 rfl rfl,ttQ⟩,trivial⟩,⟨tyQ type248 underlying248 rfl rfl,⟨tzQ type376
 underlying376 eqGuardType376 rfl,ttQ⟩,trivial⟩⟩⟩⟩⟩,⟨tyQ type12 underlying12 rfl rfl,⟨tyQ type20 underlying20 rfl rfl,⟨tyQ type36 underlying36 rfl rfl,⟨tyQ type68
 underlying68 rfl rfl,⟨tyQ type132 underlying132 rfl rfl,⟨tyQ type260 underlying260 rfl rfl,ttQ⟩,⟨tyQ type388 underlying388 rfl rfl,ttQ⟩⟩,⟨tyQ type196 underlying196 rfl rfl,
 ⟨tyQ type324 underlying324 rfl rfl,ttQ⟩,trivial⟩⟩,⟨tyQ type100 underlying100 rfl rfl,⟨tyQ type164 underlying164 rfl rfl,⟨tzQ type292 underlying292 eqGuardType292 rfl,ttQ⟩,
 trivial⟩,⟨tyQ type228 underlying228 rfl rfl,⟨txQ type356 underlying356 eqGuardType356 stoodInHeld356,ttQ⟩,trivial⟩⟩⟩,⟨tyQ type52 underlying52 rfl rfl,⟨tyQ type84
 underlying84 rfl rfl,⟨tyQ type148 underlying148 rfl rfl,⟨tyQ type276 underlying276 rfl rfl,ttQ⟩,trivial⟩,⟨tyQ type212 underlying212 rfl rfl,⟨tzQ type340 underlying340
 eqGuardType340 rfl,ttQ⟩,trivial⟩⟩,⟨tyQ type116 underlying116 rfl rfl,⟨tyQ type180 underlying180 rfl rfl,⟨tyQ type308 underlying308 rfl rfl,ttQ⟩,trivial⟩,⟨tyQ type244
 underlying244 rfl rfl,⟨tyQ type372 underlying372 rfl rfl,ttQ⟩,trivial⟩⟩⟩⟩,⟨txQ type28 underlying28 eqGuardType28 stoodInHeld28,⟨tyQ type44 underlying44 rfl rfl,⟨txQ type76
 underlying76 eqGuardType76 stoodInHeld76,⟨tyQ type140 underlying140 rfl rfl,⟨tyQ type268 underlying268 rfl rfl,ttQ⟩,trivial⟩,⟨tyQ type204 underlying204 rfl rfl,⟨tyQ type332
 underlying332 rfl rfl,ttQ⟩,trivial⟩⟩,⟨tyQ type108 underlying108 rfl rfl,⟨tyQ type172 underlying172 rfl rfl,⟨tyQ type300 underlying300 rfl rfl,ttQ⟩,trivial⟩,⟨tyQ type236
 underlying236 rfl rfl,⟨txQ type364 underlying364 eqGuardType364 stoodInHeld364,ttQ⟩,trivial⟩⟩⟩,⟨tyQ type60 underlying60 rfl rfl,⟨tyQ type92 underlying92 rfl rfl,⟨tyQ
 type156 underlying156 rfl rfl,⟨tzQ type284 underlying284 eqGuardType284 rfl,ttQ⟩,trivial⟩,⟨tyQ type220 underlying220 rfl rfl,⟨tyQ type348 underlying348 rfl rfl,ttQ⟩,
 trivial⟩⟩,⟨tyQ type124 underlying124 rfl rfl,⟨tyQ type188 underlying188 rfl rfl,⟨tyQ type316 underlying316 rfl rfl,ttQ⟩,trivial⟩,⟨tyQ type252 underlying252 rfl rfl,⟨txQ
 type380 underlying380 eqGuardType380 stoodInHeld380,ttQ⟩,trivial⟩⟩⟩⟩⟩⟩,⟨tyQ type6 underlying6 rfl rfl,⟨tyQ type10 underlying10 rfl rfl,⟨txQ type18 underlying18 eqGuardType18
 stoodInHeld18,⟨txQ type34 underlying34 eqGuardType34 stoodInHeld34,⟨tyQ type66 underlying66 rfl rfl,⟨tyQ type130 underlying130 rfl rfl,⟨tyQ type258 underlying258 rfl rfl,
 ttQ⟩,⟨tyQ type386 underlying386 rfl rfl,ttQ⟩⟩,⟨tyQ type194 underlying194 rfl rfl,⟨tyQ type322 underlying322 rfl rfl,ttQ⟩,trivial⟩⟩,⟨tyQ type98 underlying98 rfl rfl,⟨tyQ
 type162 underlying162 rfl rfl,⟨tyQ type290 underlying290 rfl rfl,ttQ⟩,trivial⟩,⟨tyQ type226 underlying226 rfl rfl,⟨tyQ type354 underlying354 rfl rfl,ttQ⟩,trivial⟩⟩⟩,⟨txQ
 type50 underlying50 eqGuardType50 stoodInHeld50,⟨tyQ type82 underlying82 rfl rfl,⟨tyQ type146 underlying146 rfl rfl,⟨tyQ type274 underlying274 rfl rfl,ttQ⟩,trivial⟩,⟨tyQ
 type210 underlying210 rfl rfl,⟨tyQ type338 underlying338 rfl rfl,ttQ⟩,trivial⟩⟩,⟨tyQ type114 underlying114 rfl rfl,⟨tyQ type178 underlying178 rfl rfl,⟨tyQ type306
 underlying306 rfl rfl,ttQ⟩,trivial⟩,⟨txQ type242 underlying242 eqGuardType242 stoodInHeld242,⟨tyQ type370 underlying370 rfl rfl,ttQ⟩,trivial⟩⟩⟩⟩,⟨txQ type26 underlying26
 eqGuardType26 stoodInHeld26,⟨tyQ type42 underlying42 rfl rfl,⟨txQ type74 underlying74 eqGuardType74 stoodInHeld74,⟨tyQ type138 underlying138 rfl rfl,⟨tyQ type266
 underlying266 rfl rfl,ttQ⟩,trivial⟩,⟨tyQ type202 underlying202 rfl rfl,⟨tyQ type330 underlying330 rfl rfl,ttQ⟩,trivial⟩⟩,⟨tyQ type106 underlying106 rfl rfl,⟨txQ type170
 underlying170 eqGuardType170 stoodInHeld170,⟨tyQ type298 underlying298 rfl rfl,ttQ⟩,trivial⟩,⟨tyQ type234 underlying234 rfl rfl,⟨tzQ type362 underlying362 eqGuardType362
 rfl,ttQ⟩,trivial⟩⟩⟩,⟨tyQ type58 underlying58 rfl rfl,⟨tyQ type90 underlying90 rfl rfl,⟨tzQ type154 underlying154 eqGuardType154 rfl,⟨tyQ type282 underlying282 rfl rfl,
 ttQ⟩,trivial⟩,⟨tyQ type218 underlying218 rfl rfl,⟨tyQ type346 underlying346 rfl rfl,ttQ⟩,trivial⟩⟩,⟨tyQ type122 underlying122 rfl rfl,⟨tyQ type186 underlying186 rfl rfl,
 ⟨tyQ type314 underlying314 rfl rfl,ttQ⟩,trivial⟩,⟨tyQ type250 underlying250 rfl rfl,⟨tzQ type378 underlying378 eqGuardType378 rfl,ttQ⟩,trivial⟩⟩⟩⟩⟩,⟨txQ type14
 underlying14 eqGuardType14 stoodInHeld14,⟨txQ type22 underlying22 eqGuardType22 stoodInHeld22,⟨txQ type38 underlying38 eqGuardType38 stoodInHeld38,⟨tyQ type70 underlying70 rfl
 rfl,⟨tyQ type134 underlying134 rfl rfl,⟨tyQ type262 underlying262 rfl rfl,ttQ⟩,⟨tyQ type390 underlying390 rfl rfl,ttQ⟩⟩,⟨tyQ type198 underlying198 rfl rfl,⟨tyQ type326
 underlying326 rfl rfl,ttQ⟩,trivial⟩⟩,⟨tyQ type102 underlying102 rfl rfl,⟨tyQ type166 underlying166 rfl rfl,⟨tyQ type294 underlying294 rfl rfl,ttQ⟩,trivial⟩,⟨tyQ type230
 underlying230 rfl rfl,⟨tyQ type358 underlying358 rfl rfl,ttQ⟩,trivial⟩⟩⟩,⟨tyQ type54 underlying54 rfl rfl,⟨tyQ type86 underlying86 rfl rfl,⟨tyQ type150 underlying150 rfl
 rfl,⟨tyQ type278 underlying278 rfl rfl,ttQ⟩,trivial⟩,⟨tyQ type214 underlying214 rfl rfl,⟨txQ type342 underlying342 eqGuardType342 stoodInHeld342,ttQ⟩,trivial⟩⟩,⟨tyQ
 type118 underlying118 rfl rfl,⟨tyQ type182 underlying182 rfl rfl,⟨tyQ type310 underlying310 rfl rfl,ttQ⟩,trivial⟩,⟨tyQ type246 underlying246 rfl rfl,⟨tyQ type374
 underlying374 rfl rfl,ttQ⟩,trivial⟩⟩⟩⟩,⟨txQ type30 underlying30 eqGuardType30 stoodInHeld30,⟨tyQ type46 underlying46 rfl rfl,⟨tyQ type78 underlying78 rfl rfl,⟨tyQ type142
 underlying142 rfl rfl,⟨tyQ type270 underlying270 rfl rfl,ttQ⟩,trivial⟩,⟨txQ type206 underlying206 eqGuardType206 stoodInHeld206,⟨tyQ type334 underlying334 rfl rfl,ttQ⟩,
 trivial⟩⟩,⟨tyQ type110 underlying110 rfl rfl,⟨txQ type174 underlying174 eqGuardType174 stoodInHeld174,⟨tyQ type302 underlying302 rfl rfl,ttQ⟩,trivial⟩,⟨tzQ type238
 underlying238 eqGuardType238 rfl,⟨tyQ type366 underlying366 rfl rfl,ttQ⟩,trivial⟩⟩⟩,⟨txQ type62 underlying62 eqGuardType62 stoodInHeld62,⟨txQ type94 underlying94
 eqGuardType94 stoodInHeld94,⟨tyQ type158 underlying158 rfl rfl,⟨tyQ type286 underlying286 rfl rfl,ttQ⟩,trivial⟩,⟨tyQ type222 underlying222 rfl rfl,⟨tyQ type350
 underlying350 rfl rfl,ttQ⟩,trivial⟩⟩,⟨tyQ type126 underlying126 rfl rfl,⟨tyQ type190 underlying190 rfl rfl,⟨tyQ type318 underlying318 rfl rfl,ttQ⟩,trivial⟩,⟨tyQ type254
 underlying254 rfl rfl,⟨tzQ type382 underlying382 eqGuardType382 rfl,ttQ⟩,trivial⟩⟩⟩⟩⟩⟩⟩⟩
theorem fnAll:TbAll (FnOK prog) (fun i=>i) fnTab:=
 ⟨none_all,⟨none_all,⟨tfQ func3,⟨tfQ func7,⟨tfQ func15,⟨tfQ func31,⟨tfQ func63,⟨tfQ func127,⟨tfQ func255,ttQ⟩,trivial⟩,⟨tfQ func191,⟨tfQ func319,ttQ⟩,trivial⟩⟩,⟨tfQ
 func95,⟨tfQ func159,⟨tfQ func287,ttQ⟩,trivial⟩,⟨tfQ func223,⟨tfQ func351,ttQ⟩,trivial⟩⟩⟩,⟨tfQ func47,⟨tfQ func79,⟨tfQ func143,⟨tfQ func271,ttQ⟩,trivial⟩,⟨tfQ
 func207,⟨tfQ func335,ttQ⟩,trivial⟩⟩,⟨tfQ func111,⟨tfQ func175,⟨tfQ func303,ttQ⟩,trivial⟩,⟨tfQ func239,ttQ⟩⟩⟩⟩,⟨tfQ func23,⟨tfQ func39,⟨tfQ func71,⟨tfQ func135,⟨tfQ
 func263,ttQ⟩,trivial⟩,⟨tfQ func199,⟨tfQ func327,ttQ⟩,trivial⟩⟩,⟨tfQ func103,⟨tfQ func167,⟨tfQ func295,ttQ⟩,trivial⟩,⟨tfQ func231,ttQ⟩⟩⟩,⟨tfQ func55,⟨tfQ func87,
 ⟨tfQ func151,⟨tfQ func279,ttQ⟩,trivial⟩,⟨tfQ func215,⟨tfQ func343,ttQ⟩,trivial⟩⟩,⟨tfQ func119,⟨tfQ func183,⟨tfQ func311,ttQ⟩,trivial⟩,⟨tfQ func247,ttQ⟩⟩⟩⟩⟩,⟨tfQ
 func11,⟨tfQ func19,⟨tfQ func35,⟨tfQ func67,⟨tfQ func131,⟨tfQ func259,ttQ⟩,trivial⟩,⟨tfQ func195,ttQ⟩⟩,⟨tfQ func99,⟨tfQ func163,⟨tfQ func291,ttQ⟩,trivial⟩,⟨tfQ
 func227,ttQ⟩⟩⟩,⟨tfQ func51,⟨tfQ func83,⟨tfQ func147,⟨tfQ func275,ttQ⟩,trivial⟩,⟨tfQ func211,⟨tfQ func339,ttQ⟩,trivial⟩⟩,⟨tfQ func115,⟨tfQ func179,⟨tfQ func307,
 ttQ⟩,trivial⟩,⟨tfQ func243,ttQ⟩⟩⟩⟩,⟨tfQ func27,⟨tfQ func43,⟨tfQ func75,⟨tfQ func139,⟨tfQ func267,ttQ⟩,trivial⟩,⟨tfQ func203,⟨tfQ func331,ttQ⟩,trivial⟩⟩,⟨tfQ
 func107,⟨tfQ func171,⟨tfQ func299,ttQ⟩,trivial⟩,⟨tfQ func235,ttQ⟩⟩⟩,⟨tfQ func59,⟨tfQ func91,⟨tfQ func155,⟨tfQ func283,ttQ⟩,trivial⟩,⟨tfQ func219,⟨tfQ func347,ttQ⟩,
 trivial⟩⟩,⟨tfQ func123,⟨tfQ func187,⟨tfQ func315,ttQ⟩,trivial⟩,⟨tfQ func251,ttQ⟩⟩⟩⟩⟩⟩,⟨tfQ func5,⟨tfQ func9,⟨tfQ func17,⟨tfQ func33,⟨tfQ func65,⟨tfQ func129,⟨tfQ
 func257,ttQ⟩,⟨tfQ func385,ttQ⟩⟩,⟨tfQ func193,⟨tfQ func321,ttQ⟩,trivial⟩⟩,⟨tfQ func97,⟨tfQ func161,⟨tfQ func289,ttQ⟩,trivial⟩,⟨tfQ func225,⟨tfQ func353,ttQ⟩,
 trivial⟩⟩⟩,⟨tfQ func49,⟨tfQ func81,⟨tfQ func145,⟨tfQ func273,ttQ⟩,trivial⟩,⟨tfQ func209,⟨tfQ func337,ttQ⟩,trivial⟩⟩,⟨tfQ func113,⟨tfQ func177,⟨tfQ func305,ttQ⟩,
 trivial⟩,⟨tfQ func241,ttQ⟩⟩⟩⟩,⟨tfQ func25,⟨tfQ func41,⟨tfQ func73,⟨tfQ func137,⟨tfQ func265,ttQ⟩,trivial⟩,⟨tfQ func201,⟨tfQ func329,ttQ⟩,trivial⟩⟩,⟨tfQ func105,
 ⟨tfQ func169,⟨tfQ func297,ttQ⟩,trivial⟩,⟨tfQ func233,ttQ⟩⟩⟩,⟨tfQ func57,⟨tfQ func89,⟨tfQ func153,⟨tfQ func281,ttQ⟩,trivial⟩,⟨tfQ func217,⟨tfQ func345,ttQ⟩,
 trivial⟩⟩,⟨tfQ func121,⟨tfQ func185,⟨tfQ func313,ttQ⟩,trivial⟩,⟨tfQ func249,ttQ⟩⟩⟩⟩⟩,⟨tfQ func13,⟨tfQ func21,⟨tfQ func37,⟨tfQ func69,⟨tfQ func133,⟨tfQ func261,ttQ⟩,
 trivial⟩,⟨tfQ func197,⟨tfQ func325,ttQ⟩,trivial⟩⟩,⟨tfQ func101,⟨tfQ func165,⟨tfQ func293,ttQ⟩,trivial⟩,⟨tfQ func229,ttQ⟩⟩⟩,⟨tfQ func53,⟨tfQ func85,⟨tfQ func149,
 ⟨tfQ func277,ttQ⟩,trivial⟩,⟨tfQ func213,⟨tfQ func341,ttQ⟩,trivial⟩⟩,⟨tfQ func117,⟨tfQ func181,⟨tfQ func309,ttQ⟩,trivial⟩,⟨tfQ func245,ttQ⟩⟩⟩⟩,⟨tfQ func29,⟨tfQ
 func45,⟨tfQ func77,⟨tfQ func141,⟨tfQ func269,ttQ⟩,trivial⟩,⟨tfQ func205,⟨tfQ func333,ttQ⟩,trivial⟩⟩,⟨tfQ func109,⟨tfQ func173,⟨tfQ func301,ttQ⟩,trivial⟩,⟨tfQ
 func237,ttQ⟩⟩⟩,⟨tfQ func61,⟨tfQ func93,⟨tfQ func157,⟨tfQ func285,ttQ⟩,trivial⟩,⟨tfQ func221,⟨tfQ func349,ttQ⟩,trivial⟩⟩,⟨tfQ func125,⟨tfQ func189,⟨tfQ func317,
 ttQ⟩,trivial⟩,⟨tfQ func253,ttQ⟩⟩⟩⟩⟩⟩⟩,⟨tfQ func2,⟨tfQ func4,⟨tfQ func8,⟨tfQ func16,⟨tfQ func32,⟨tfQ func64,⟨tfQ func128,⟨tfQ func256,ttQ⟩,trivial⟩,⟨tfQ func192,
 ⟨tfQ func320,ttQ⟩,trivial⟩⟩,⟨tfQ func96,⟨tfQ func160,⟨tfQ func288,ttQ⟩,trivial⟩,⟨tfQ func224,⟨tfQ func352,ttQ⟩,trivial⟩⟩⟩,⟨tfQ func48,⟨tfQ func80,⟨tfQ func144,⟨tfQ
 func272,ttQ⟩,trivial⟩,⟨tfQ func208,⟨tfQ func336,ttQ⟩,trivial⟩⟩,⟨tfQ func112,⟨tfQ func176,⟨tfQ func304,ttQ⟩,trivial⟩,⟨tfQ func240,ttQ⟩⟩⟩⟩,⟨tfQ func24,⟨tfQ func40,
 ⟨tfQ func72,⟨tfQ func136,⟨tfQ func264,ttQ⟩,trivial⟩,⟨tfQ func200,⟨tfQ func328,ttQ⟩,trivial⟩⟩,⟨tfQ func104,⟨tfQ func168,⟨tfQ func296,ttQ⟩,trivial⟩,⟨tfQ func232,
 ttQ⟩⟩⟩,⟨tfQ func56,⟨tfQ func88,⟨tfQ func152,⟨tfQ func280,ttQ⟩,trivial⟩,⟨tfQ func216,⟨tfQ func344,ttQ⟩,trivial⟩⟩,⟨tfQ func120,⟨tfQ func184,⟨tfQ func312,ttQ⟩,
 trivial⟩,⟨tfQ func248,ttQ⟩⟩⟩⟩⟩,⟨tfQ func12,⟨tfQ func20,⟨tfQ func36,⟨tfQ func68,⟨tfQ func132,⟨tfQ func260,ttQ⟩,trivial⟩,⟨tfQ func196,⟨tfQ func324,ttQ⟩,trivial⟩⟩,
 ⟨tfQ func100,⟨tfQ func164,⟨tfQ func292,ttQ⟩,trivial⟩,⟨tfQ func228,ttQ⟩⟩⟩,⟨tfQ func52,⟨tfQ func84,⟨tfQ func148,⟨tfQ func276,ttQ⟩,trivial⟩,⟨tfQ func212,⟨tfQ func340,
 ttQ⟩,trivial⟩⟩,⟨tfQ func116,⟨tfQ func180,⟨tfQ func308,ttQ⟩,trivial⟩,⟨tfQ func244,ttQ⟩⟩⟩⟩,⟨tfQ func28,⟨tfQ func44,⟨tfQ func76,⟨tfQ func140,⟨tfQ func268,ttQ⟩,
 trivial⟩,⟨tfQ func204,⟨tfQ func332,ttQ⟩,trivial⟩⟩,⟨tfQ func108,⟨tfQ func172,⟨tfQ func300,ttQ⟩,trivial⟩,⟨tfQ func236,ttQ⟩⟩⟩,⟨tfQ func60,⟨tfQ func92,⟨tfQ func156,
 ⟨tfQ func284,ttQ⟩,trivial⟩,⟨tfQ func220,⟨tfQ func348,ttQ⟩,trivial⟩⟩,⟨tfQ func124,⟨tfQ func188,⟨tfQ func316,ttQ⟩,trivial⟩,⟨tfQ func252,ttQ⟩⟩⟩⟩⟩⟩,⟨tfQ func6,⟨tfQ
 func10,⟨tfQ func18,⟨tfQ func34,⟨tfQ func66,⟨tfQ func130,⟨tfQ func258,ttQ⟩,trivial⟩,⟨tfQ func194,⟨tfQ func322,ttQ⟩,trivial⟩⟩,⟨tfQ func98,⟨tfQ func162,⟨tfQ func290,
 ttQ⟩,trivial⟩,⟨tfQ func226,ttQ⟩⟩⟩,⟨tfQ func50,⟨tfQ func82,⟨tfQ func146,⟨tfQ func274,ttQ⟩,trivial⟩,⟨tfQ func210,⟨tfQ func338,ttQ⟩,trivial⟩⟩,⟨tfQ func114,⟨tfQ
 func178,⟨tfQ func306,ttQ⟩,trivial⟩,⟨tfQ func242,ttQ⟩⟩⟩⟩,⟨tfQ func26,⟨tfQ func42,⟨tfQ func74,⟨tfQ func138,⟨tfQ func266,ttQ⟩,trivial⟩,⟨tfQ func202,⟨tfQ func330,ttQ⟩,
 trivial⟩⟩,⟨tfQ func106,⟨tfQ func170,⟨tfQ func298,ttQ⟩,trivial⟩,⟨tfQ func234,ttQ⟩⟩⟩,⟨tfQ func58,⟨tfQ func90,⟨tfQ func154,ttQ⟩,⟨tfQ func218,⟨tfQ func346,ttQ⟩,
 trivial⟩⟩,⟨tfQ func122,⟨tfQ func186,⟨tfQ func314,ttQ⟩,trivial⟩,⟨tfQ func250,ttQ⟩⟩⟩⟩⟩,⟨tfQ func14,⟨tfQ func22,⟨tfQ func38,⟨tfQ func70,⟨tfQ func134,⟨tfQ func262,ttQ⟩,
 trivial⟩,⟨tfQ func198,⟨tfQ func326,ttQ⟩,trivial⟩⟩,⟨tfQ func102,⟨tfQ func166,⟨tfQ func294,ttQ⟩,trivial⟩,⟨tfQ func230,ttQ⟩⟩⟩,⟨tfQ func54,⟨tfQ func86,⟨tfQ func150,
 ⟨tfQ func278,ttQ⟩,trivial⟩,⟨tfQ func214,⟨tfQ func342,ttQ⟩,trivial⟩⟩,⟨tfQ func118,⟨tfQ func182,⟨tfQ func310,ttQ⟩,trivial⟩,⟨tfQ func246,ttQ⟩⟩⟩⟩,⟨tfQ func30,⟨tfQ
 func46,⟨tfQ func78,⟨tfQ func142,⟨tfQ func270,ttQ⟩,trivial⟩,⟨tfQ func206,⟨tfQ func334,ttQ⟩,trivial⟩⟩,⟨tfQ func110,⟨tfQ func174,⟨tfQ func302,ttQ⟩,trivial⟩,⟨tfQ
 func238,ttQ⟩⟩⟩,⟨tfQ func62,⟨tfQ func94,⟨tfQ func158,⟨tfQ func286,ttQ⟩,trivial⟩,⟨tfQ func222,⟨tfQ func350,ttQ⟩,trivial⟩⟩,⟨tfQ func126,⟨tfQ func190,⟨tfQ func318,
 ttQ⟩,trivial⟩,⟨tfQ func254,ttQ⟩⟩⟩⟩⟩⟩⟩⟩
end
theorem tab_ok:TabOK Tryz.prog tab:=⟨fun t e h=>tyAll.get t e h,fun f fn h=>fnAll.get f fn h⟩
end Go.Ev
