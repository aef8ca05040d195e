import Derived.Test.YtafekjglclnegaaGreatDoorProg
import Derived.Test.YtafekjglclnegaaGreatDoorP11
set_option linter.all false
namespace Go.Ev
open Go Go.Proofs
abbrev te(t d:TypeInfo):TE:=⟨t,d.desc,false,false⟩
abbrev bi(t d:TypeInfo)(l r:Tb TE):Tb TE:=.node (some (te t d)) l r
abbrev cG(t d:TypeInfo):Tb TE:=.node (some (te t d)) .nil .nil
abbrev bx(f:Func)(l r:Tb Func):Tb Func:=.node (some f) l r
abbrev cM(f:Func):Tb Func:=.node (some f) .nil .nil
section
open Tryz
noncomputable def JJ:Tb TE:=
 (bi t0 t0 (bi t1 t1 (bi t3 t3 (bi t7 t7 (bi t15 t15 (bi t31 t30 (bi t63 t63 (bi t127 t127 (cG t255 t255) (.node (some ⟨t383,t383.desc,false,true⟩) .nil .nil)) (bi
 t191 t191 (cG t319 t319) .nil)) (bi t95 t95 (bi t159 t159 (cG t287 t287) .nil) (bi t223 t223 (cG t351 t351) .nil))) (bi t47 t47 (bi t79 t79 (bi t143 t143 (cG t271 t271)
 .nil) (bi t207 t207 (cG t335 t335) .nil)) (bi t111 t111 (bi t175 t175 (cG t303 t303) .nil) (bi t239 t239 (cG t367 t367) .nil)))) (bi t23 t22 (bi t39 t39 (bi t71 t71
 (bi t135 t135 (cG t263 t263) (.node (some ⟨t391,t391.desc,false,true⟩) .nil .nil)) (bi t199 t199 (cG t327 t327) .nil)) (bi t103 t103 (bi t167 t167 (cG t295 t295) .nil)
 (bi t231 t231 (cG t359 t359) .nil))) (bi t55 t55 (bi t87 t87 (bi t151 t151 (cG t279 t279) .nil) (bi t215 t215 (cG t343 t343) .nil)) (bi t119 t119 (bi t183 t183 (cG
 t311 t311) .nil) (bi t247 t247 (cG t375 t375) .nil))))) (bi t11 t9 (.node (some ⟨t19,t18.desc,false,true⟩) (bi t35 t34 (bi t67 t67 (bi t131 t131 (cG t259 t259) (cG
 t387 t5)) (bi t195 t195 (cG t323 t323) .nil)) (bi t99 t99 (bi t163 t163 (cG t291 t291) .nil) (bi t227 t227 (.node (some ⟨t355,t355.desc,true,false⟩) .nil .nil) .nil)))
 (bi t51 t50 (bi t83 t83 (bi t147 t147 (cG t275 t275) .nil) (bi t211 t211 (cG t339 t339) .nil)) (bi t115 t115 (bi t179 t179 (cG t307 t307) .nil) (bi t243 t242 (cG t371
 t371) .nil)))) (bi t27 t27 (bi t43 t43 (bi t75 t74 (bi t139 t139 (cG t267 t267) .nil) (bi t203 t203 (cG t331 t331) .nil)) (bi t107 t107 (bi t171 t170 (cG t299 t299)
 .nil) (bi t235 t235 (cG t363 t363) .nil))) (bi t59 t59 (bi t91 t91 (bi t155 t155 (cG t283 t283) .nil) (bi t219 t219 (cG t347 t347) .nil)) (bi t123 t123 (bi t187 t187
 (cG t315 t315) .nil) (bi t251 t250 (cG t379 t379) .nil)))))) (bi t5 t5 (bi t9 t9 (bi t17 t17 (bi t33 t33 (bi t65 t65 (bi t129 t129 (cG t257 t257) (cG t385 t385)) (bi
 t193 t193 (cG t321 t321) .nil)) (bi t97 t96 (bi t161 t160 (cG t289 t289) .nil) (bi t225 t225 (cG t353 t353) .nil))) (bi t49 t49 (bi t81 t80 (bi t145 t145 (cG t273 t273)
 .nil) (bi t209 t209 (cG t337 t337) .nil)) (bi t113 t113 (bi t177 t177 (cG t305 t305) .nil) (bi t241 t241 (cG t369 t368) .nil)))) (bi t25 t25 (bi t41 t40 (bi t73 t73
 (bi t137 t137 (cG t265 t265) (cG t393 t393)) (bi t201 t201 (cG t329 t329) .nil)) (bi t105 t105 (bi t169 t169 (cG t297 t297) .nil) (bi t233 t233 (cG t361 t361) .nil)))
 (bi t57 t57 (bi t89 t89 (bi t153 t152 (cG t281 t281) .nil) (bi t217 t217 (cG t345 t345) .nil)) (bi t121 t121 (bi t185 t185 (cG t313 t3) .nil) (bi t249 t249 (cG t377
 t377) .nil))))) (.node (some ⟨t13,t13.desc,false,true⟩) (bi t21 t21 (bi t37 t37 (bi t69 t69 (bi t133 t133 (cG t261 t261) (cG t389 t21)) (bi t197 t197 (cG t325 t325)
 .nil)) (bi t101 t101 (bi t165 t165 (cG t293 t293) .nil) (bi t229 t229 (cG t357 t357) .nil))) (bi t53 t53 (bi t85 t85 (bi t149 t149 (cG t277 t277) .nil) (bi t213 t213
 (cG t341 t341) .nil)) (bi t117 t117 (bi t181 t181 (cG t309 t309) .nil) (bi t245 t245 (cG t373 t373) .nil)))) (bi t29 t28 (bi t45 t45 (bi t77 t76 (bi t141 t141 (cG t269
 t269) .nil) (bi t205 t205 (cG t333 t333) .nil)) (bi t109 t109 (bi t173 t173 (cG t301 t301) .nil) (bi t237 t237 (cG t365 t365) .nil))) (bi t61 t61 (bi t93 t93 (bi t157
 t157 (cG t285 t284) .nil) (bi t221 t221 (cG t349 t349) .nil)) (bi t125 t125 (bi t189 t189 (cG t317 t317) .nil) (bi t253 t253 (.node (some ⟨t381,t380.desc,false,true⟩)
 .nil .nil) .nil))))))) (bi t2 t2 (bi t4 t4 (bi t8 t7 (bi t16 t16 (bi t32 t32 (bi t64 t64 (bi t128 t128 (cG t256 t256) (.node (some ⟨t384,t383.desc,false,true⟩) .nil
 .nil)) (bi t192 t192 (cG t320 t320) .nil)) (bi t96 t96 (bi t160 t160 (cG t288 t288) .nil) (bi t224 t224 (cG t352 t352) .nil))) (bi t48 t48 (bi t80 t80 (bi t144 t144
 (cG t272 t272) .nil) (bi t208 t208 (cG t336 t336) .nil)) (bi t112 t112 (bi t176 t176 (cG t304 t304) .nil) (bi t240 t240 (cG t368 t368) .nil)))) (bi t24 t24 (bi t40 t40
 (bi t72 t72 (bi t136 t136 (cG t264 t264) (.node (some ⟨t392,t391.desc,false,true⟩) .nil .nil)) (bi t200 t200 (cG t328 t328) .nil)) (bi t104 t104 (bi t168 t168 (cG t296
 t296) .nil) (bi t232 t232 (cG t360 t360) .nil))) (bi t56 t56 (bi t88 t88 (bi t152 t152 (cG t280 t280) .nil) (bi t216 t216 (cG t344 t344) .nil)) (bi t120 t120 (bi t184
 t184 (cG t312 t312) .nil) (bi t248 t248 (cG t376 t376) .nil))))) (bi t12 t12 (bi t20 t20 (bi t36 t36 (bi t68 t68 (bi t132 t132 (cG t260 t260) (cG t388 t388)) (bi t196
 t196 (cG t324 t324) .nil)) (bi t100 t100 (bi t164 t164 (cG t292 t291) .nil) (bi t228 t228 (.node (some ⟨t356,t355.desc,true,false⟩) .nil .nil) .nil))) (bi t52 t52 (bi
 t84 t84 (bi t148 t148 (cG t276 t276) .nil) (bi t212 t212 (cG t340 t340) .nil)) (bi t116 t116 (bi t180 t180 (cG t308 t308) .nil) (bi t244 t244 (cG t372 t372) .nil))))
 (bi t28 t28 (bi t44 t44 (bi t76 t76 (bi t140 t140 (cG t268 t268) .nil) (bi t204 t204 (cG t332 t3) .nil)) (bi t108 t108 (bi t172 t172 (cG t300 t300) .nil) (bi t236 t236
 (cG t364 t363) .nil))) (bi t60 t60 (bi t92 t92 (bi t156 t156 (cG t284 t284) .nil) (bi t220 t220 (cG t348 t348) .nil)) (bi t124 t124 (bi t188 t188 (cG t316 t316) .nil)
 (bi t252 t252 (.node (some ⟨t380,t380.desc,false,true⟩) .nil .nil) .nil)))))) (bi t6 t5 (bi t10 t9 (.node (some ⟨t18,t18.desc,false,true⟩) (bi t34 t34 (bi t66 t66 (bi
 t130 t130 (cG t258 t258) (cG t386 t5)) (bi t194 t194 (cG t322 t322) .nil)) (bi t98 t98 (bi t162 t162 (cG t290 t290) .nil) (bi t226 t226 (cG t354 t354) .nil))) (bi t50
 t50 (bi t82 t82 (bi t146 t146 (cG t274 t274) .nil) (bi t210 t210 (cG t338 t338) .nil)) (bi t114 t114 (bi t178 t178 (cG t306 t306) .nil) (bi t242 t242 (cG t370 t370)
 .nil)))) (bi t26 t25 (bi t42 t42 (bi t74 t74 (bi t138 t138 (cG t266 t266) .nil) (bi t202 t202 (cG t330 t330) .nil)) (bi t106 t106 (bi t170 t170 (cG t298 t298) .nil)
 (bi t234 t234 (cG t362 t362) .nil))) (bi t58 t58 (bi t90 t90 (bi t154 t154 (cG t282 t282) .nil) (bi t218 t218 (cG t346 t296) .nil)) (bi t122 t122 (bi t186 t186 (cG
 t314 t314) .nil) (bi t250 t250 (cG t378 t378) .nil))))) (.node (some ⟨t14,t13.desc,false,true⟩) (bi t22 t22 (bi t38 t37 (bi t70 t70 (bi t134 t134 (cG t262 t262) (cG
 t390 t21)) (bi t198 t198 (cG t326 t326) .nil)) (bi t102 t102 (bi t166 t166 (cG t294 t294) .nil) (bi t230 t230 (cG t358 t358) .nil))) (bi t54 t3 (bi t86 t86 (bi t150
 t150 (cG t278 t278) .nil) (bi t214 t214 (cG t342 t341) .nil)) (bi t118 t118 (bi t182 t182 (cG t310 t310) .nil) (bi t246 t246 (cG t374 t374) .nil)))) (bi t30 t30 (bi t46
 t46 (bi t78 t78 (bi t142 t142 (cG t270 t270) .nil) (bi t206 t205 (cG t334 t334) .nil)) (bi t110 t110 (bi t174 t173 (cG t302 t302) .nil) (bi t238 t238 (cG t366 t366)
 .nil))) (bi t62 t61 (bi t94 t93 (bi t158 t158 (cG t286 t286) .nil) (bi t222 t222 (cG t350 t350) .nil)) (bi t126 t126 (bi t190 t190 (cG t318 t318) .nil) (bi t254 t254
 (cG t382 t382) .nil))))))))
noncomputable def JL:Tb Func:=
 (.node none (.node none (bx f3 (bx f7 (bx f15 (bx f31 (bx f63 (bx f127 (cM f255) .nil) (bx f191 (cM f319) .nil)) (bx f95 (bx f159 (cM f287) .nil) (bx f223 (cM f351)
 .nil))) (bx f47 (bx f79 (bx f143 (cM f271) .nil) (bx f207 (cM f335) .nil)) (bx f111 (bx f175 (cM f303) .nil) (cM f239)))) (bx f23 (bx f39 (bx f71 (bx f135 (cM
 f263) .nil) (bx f199 (cM f327) .nil)) (bx f103 (bx f167 (cM f295) .nil) (cM f231))) (bx f55 (bx f87 (bx f151 (cM f279) .nil) (bx f215 (cM f343) .nil)) (bx f119 (bx
 f183 (cM f311) .nil) (cM f247))))) (bx f11 (bx f19 (bx f35 (bx f67 (bx f131 (cM f259) .nil) (cM f195)) (bx f99 (bx f163 (cM f291) .nil) (cM f227))) (bx f51 (bx f83
 (bx f147 (cM f275) .nil) (bx f211 (cM f339) .nil)) (bx f115 (bx f179 (cM f307) .nil) (cM f243)))) (bx f27 (bx f43 (bx f75 (bx f139 (cM f267) .nil) (bx f203 (cM
 f331) .nil)) (bx f107 (bx f171 (cM f299) .nil) (cM f235))) (bx f59 (bx f91 (bx f155 (cM f283) .nil) (bx f219 (cM f347) .nil)) (bx f123 (bx f187 (cM f315) .nil) (cM
 f251)))))) (bx f5 (bx f9 (bx f17 (bx f33 (bx f65 (bx f129 (cM f257) (cM f385)) (bx f193 (cM f321) .nil)) (bx f97 (bx f161 (cM f289) .nil) (bx f225 (cM f353)
 .nil))) (bx f49 (bx f81 (bx f145 (cM f273) .nil) (bx f209 (cM f337) .nil)) (bx f113 (bx f177 (cM f305) .nil) (cM f241)))) (bx f25 (bx f41 (bx f73 (bx f137 (cM
 f265) .nil) (bx f201 (cM f329) .nil)) (bx f105 (bx f169 (cM f297) .nil) (cM f233))) (bx f57 (bx f89 (bx f153 (cM f281) .nil) (bx f217 (cM f345) .nil)) (bx f121 (bx
 f185 (cM f313) .nil) (cM f249))))) (bx f13 (bx f21 (bx f37 (bx f69 (bx f133 (cM f261) .nil) (bx f197 (cM f325) .nil)) (bx f101 (bx f165 (cM f293) .nil) (cM f229)))
 (bx f53 (bx f85 (bx f149 (cM f277) .nil) (bx f213 (cM f341) .nil)) (bx f117 (bx f181 (cM f309) .nil) (cM f245)))) (bx f29 (bx f45 (bx f77 (bx f141 (cM f269) .nil)
 (bx f205 (cM f333) .nil)) (bx f109 (bx f173 (cM f301) .nil) (cM f237))) (bx f61 (bx f93 (bx f157 (cM f285) .nil) (bx f221 (cM f349) .nil)) (bx f125 (bx f189 (cM
 f317) .nil) (cM f253))))))) (bx f2 (bx f4 (bx f8 (bx f16 (bx f32 (bx f64 (bx f128 (cM f256) .nil) (bx f192 (cM f320) .nil)) (bx f96 (bx f160 (cM f288) .nil) (bx
 f224 (cM f352) .nil))) (bx f48 (bx f80 (bx f144 (cM f272) .nil) (bx f208 (cM f336) .nil)) (bx f112 (bx f176 (cM f304) .nil) (cM f240)))) (bx f24 (bx f40 (bx f72
 (bx f136 (cM f264) .nil) (bx f200 (cM f328) .nil)) (bx f104 (bx f168 (cM f296) .nil) (cM f232))) (bx f56 (bx f88 (bx f152 (cM f280) .nil) (bx f216 (cM f344) .nil))
 (bx f120 (bx f184 (cM f312) .nil) (cM f248))))) (bx f12 (bx f20 (bx f36 (bx f68 (bx f132 (cM f260) .nil) (bx f196 (cM f324) .nil)) (bx f100 (bx f164 (cM f292)
 .nil) (cM f228))) (bx f52 (bx f84 (bx f148 (cM f276) .nil) (bx f212 (cM f340) .nil)) (bx f116 (bx f180 (cM f308) .nil) (cM f244)))) (bx f28 (bx f44 (bx f76 (bx
 f140 (cM f268) .nil) (bx f204 (cM f332) .nil)) (bx f108 (bx f172 (cM f300) .nil) (cM f236))) (bx f60 (bx f92 (bx f156 (cM f284) .nil) (bx f220 (cM f348) .nil)) (bx
 f124 (bx f188 (cM f316) .nil) (cM f252)))))) (bx f6 (bx f10 (bx f18 (bx f34 (bx f66 (bx f130 (cM f258) .nil) (bx f194 (cM f322) .nil)) (bx f98 (bx f162 (cM f290)
 .nil) (cM f226))) (bx f50 (bx f82 (bx f146 (cM f274) .nil) (bx f210 (cM f338) .nil)) (bx f114 (bx f178 (cM f306) .nil) (cM f242)))) (bx f26 (bx f42 (bx f74 (bx
 f138 (cM f266) .nil) (bx f202 (cM f330) .nil)) (bx f106 (bx f170 (cM f298) .nil) (cM f234))) (bx f58 (bx f90 (cM f154) (bx f218 (cM f346) .nil)) (bx f122 (bx f186
 (cM f314) .nil) (cM f250))))) (bx f14 (bx f22 (bx f38 (bx f70 (bx f134 (cM f262) .nil) (bx f198 (cM f326) .nil)) (bx f102 (bx f166 (cM f294) .nil) (cM f230))) (bx
 f54 (bx f86 (bx f150 (cM f278) .nil) (bx f214 (cM f342) .nil)) (bx f118 (bx f182 (cM f310) .nil) (cM f246)))) (bx f30 (bx f46 (bx f78 (bx f142 (cM f270) .nil) (bx
 f206 (cM f334) .nil)) (bx f110 (bx f174 (cM f302) .nil) (cM f238))) (bx f62 (bx f94 (bx f158 (cM f286) .nil) (bx f222 (cM f350) .nil)) (bx f126 (bx f190 (cM f318)
 .nil) (cM f254))))))))
end
noncomputable def tab:eA:=⟨JJ,JL⟩
def i6{α:Type}(p:Nat->α->Prop):(Nat->Nat)->Tb α->Prop
 | _,.nil=>True
 | f,.node v l r=>(∀e,v=some e->p (f 0) e)/\i6 p (λi=>f (2*i+1)) l/\i6 p (λi=>f (2*i+2)) r
theorem i6.get{α:Type}{p:Nat->α->Prop}:∀{t:Tb α} {f:Nat->Nat},i6 p f t->∀i e,t.get i=some e->p (f i) e
 | .nil,f,h,i,e,he=>by cases i<;>cases he
 | .node v l r,f,h,i,e,he=>by
   unfold Tb.get at he
   by_cases h0:i=0
   · subst h0
     simp only[dI (rfl:(0:Nat)=0),cond_true]at he
     exact h.1 e he
   · rw[iH h0,cond_false]at he
     rcases Nat.mod_two_eq_zero_or_one i with h2|h2
     · rw[iH (by omega),cond_false]at he
       have:=i6.get h.2.2 _ e he
       rwa [show 2*(i/2-1)+2=i by omega]at this
     · rw[dI h2,cond_true]at he
       have:=i6.get h.2.1 _ e he
       rwa [show 2*(i/2)+1=i by omega]at this
theorem a_{α:Type}{q:α->Prop}{a:α}(h:q a):∀e,some a=some e->q e:=λe he=>by cases he;exact h
theorem ai{α:Type}{q:α->Prop}:∀e,none=some e->q e:=λe he=>by cases he
theorem wF{P:Program}{t:TypeId}{i:TypeInfo}(h:P.types[t]? = some i):P.info? t=some i:=by
 have:t<P.types.size:=(Array.getElem?_eq_some_iff.1 h).1
 simp only[Tables.info?,this,if_true,h]
def H3(P:Program)(t:Nat)(e:TE):Prop:=P.info? t=some e.i/\P.underlying t=some e.u/\(rt (some e.u)=true->P.eqGuardType P.depth t=e.guard)/\((kk (some e.u)).isSome=true->P.stoodInHeld t=e.stood)
def Qx(P:Program)(f:Nat)(fn:Func):Prop:=P.funcs[f]? = some fn/\fn.name ≠ "runtime.NumGoroutine"
theorem gG{P:Program}{t:Nat}{i:TypeInfo}{d:TypeDesc}{b c:Bool}(h:P.types[t]? = some i)(u:P.underlying t=some d)(a:P.eqGuardType P.depth t=b)(s:P.stoodInHeld t=c):∀e,some (TE.mk i d b c)=some e->H3 P t e:=
 a_ ⟨wF h,u,λ_=>a,λ_=>s⟩
theorem s7{P:Program}{t:Nat}{i:TypeInfo}{d:TypeDesc}{b c:Bool}(h:P.types[t]? = some i)(u:P.underlying t=some d)(a:P.eqGuardType P.depth t=b)(s:(kk (some d)).isSome=false):∀e,some (TE.mk i d b c)=some e->H3 P t e:=
 a_ ⟨wF h,u,λ_=>a,λe=>absurd (s.symm.trans e) Bool.false_ne_true⟩
theorem aU{P:Program}{t:Nat}{i d:TypeInfo}(h:P.types[t]? = some i)(u:P.underlying t=some d.desc)(a:rt (some d.desc)=false)(s:(kk (some d.desc)).isSome=false):∀e,some (te i d)=some e->H3 P t e:=
 a_ ⟨wF h,u,λe=>absurd (a.symm.trans e) Bool.false_ne_true,λe=>absurd (s.symm.trans e) Bool.false_ne_true⟩
theorem aP{P:Program}{f:Nat}{n:Func}(h:P.funcs[f]? = some n)(hn:n.name ≠ "runtime.NumGoroutine" := by decide):∀e,some n=some e->Qx P f e:=a_ ⟨h,hn⟩
theorem bf:True/\True:=⟨trivial,trivial⟩
section
open Tryz
theorem QK:i6 (H3 prog) (λi=>i) JJ:=
 ⟨aU type0 underlying0 rfl rfl,⟨aU type1 underlying1 rfl rfl,⟨aU type3 underlying3 rfl rfl,⟨gG type7 underlying7 eqGuardType7 stoodInHeld7,⟨aU type15 underlying15 rfl
 rfl,⟨gG type31 underlying31 eqGuardType31 stoodInHeld31,⟨aU type63 underlying63 rfl rfl,⟨aU type127 underlying127 rfl rfl,⟨aU type255 underlying255 rfl rfl,bf⟩,⟨gG
 type383 underlying383 eqGuardType383 stoodInHeld383,bf⟩⟩,⟨aU type191 underlying191 rfl rfl,⟨aU type319 underlying319 rfl rfl,bf⟩,trivial⟩⟩,⟨aU type95 underlying95 rfl
 rfl,⟨aU type159 underlying159 rfl rfl,⟨aU type287 underlying287 rfl rfl,bf⟩,trivial⟩,⟨aU type223 underlying223 rfl rfl,⟨aU type351 underlying351 rfl rfl,bf⟩,
 trivial⟩⟩⟩,⟨aU type47 underlying47 rfl rfl,⟨aU type79 underlying79 rfl rfl,⟨aU type143 underlying143 rfl rfl,⟨aU type271 underlying271 rfl rfl,bf⟩,trivial⟩,⟨s7
 type207 underlying207 eqGuardType207 rfl,⟨aU type335 underlying335 rfl rfl,bf⟩,trivial⟩⟩,⟨aU type111 underlying111 rfl rfl,⟨aU type175 underlying175 rfl rfl,⟨aU
 type303 underlying303 rfl rfl,bf⟩,trivial⟩,⟨aU type239 underlying239 rfl rfl,⟨aU type367 underlying367 rfl rfl,bf⟩,trivial⟩⟩⟩⟩,⟨gG type23 underlying23 eqGuardType23
 stoodInHeld23,⟨aU type39 underlying39 rfl rfl,⟨aU type71 underlying71 rfl rfl,⟨aU type135 underlying135 rfl rfl,⟨aU type263 underlying263 rfl rfl,bf⟩,⟨gG type391
 underlying391 eqGuardType391 stoodInHeld391,bf⟩⟩,⟨aU type199 underlying199 rfl rfl,⟨aU type327 underlying327 rfl rfl,bf⟩,trivial⟩⟩,⟨aU type103 underlying103 rfl rfl,
 ⟨aU type167 underlying167 rfl rfl,⟨aU type295 underlying295 rfl rfl,bf⟩,trivial⟩,⟨aU type231 underlying231 rfl rfl,⟨gG type359 underlying359 eqGuardType359
 stoodInHeld359,bf⟩,trivial⟩⟩⟩,⟨aU type55 underlying55 rfl rfl,⟨aU type87 underlying87 rfl rfl,⟨aU type151 underlying151 rfl rfl,⟨aU type279 underlying279 rfl rfl,
 bf⟩,trivial⟩,⟨aU type215 underlying215 rfl rfl,⟨s7 type343 underlying343 eqGuardType343 rfl,bf⟩,trivial⟩⟩,⟨aU type119 underlying119 rfl rfl,⟨aU type183 underlying183
 rfl rfl,⟨aU type311 underlying311 rfl rfl,bf⟩,trivial⟩,⟨aU type247 underlying247 rfl rfl,⟨aU type375 underlying375 rfl rfl,bf⟩,trivial⟩⟩⟩⟩⟩,⟨aU type11 underlying11
 rfl rfl,⟨gG type19 underlying19 eqGuardType19 stoodInHeld19,⟨gG type35 underlying35 eqGuardType35 stoodInHeld35,⟨aU type67 underlying67 rfl rfl,⟨aU type131 underlying131
 rfl rfl,⟨aU type259 underlying259 rfl rfl,bf⟩,⟨aU type387 underlying387 rfl rfl,bf⟩⟩,⟨aU type195 underlying195 rfl rfl,⟨aU type323 underlying323 rfl rfl,bf⟩,
 trivial⟩⟩,⟨aU type99 underlying99 rfl rfl,⟨aU type163 underlying163 rfl rfl,⟨s7 type291 underlying291 eqGuardType291 rfl,bf⟩,trivial⟩,⟨aU type227 underlying227 rfl
 rfl,⟨gG type355 underlying355 eqGuardType355 stoodInHeld355,bf⟩,trivial⟩⟩⟩,⟨gG type51 underlying51 eqGuardType51 stoodInHeld51,⟨aU type83 underlying83 rfl rfl,⟨aU
 type147 underlying147 rfl rfl,⟨aU type275 underlying275 rfl rfl,bf⟩,trivial⟩,⟨aU type211 underlying211 rfl rfl,⟨aU type339 underlying339 rfl rfl,bf⟩,trivial⟩⟩,⟨aU
 type115 underlying115 rfl rfl,⟨aU type179 underlying179 rfl rfl,⟨aU type307 underlying307 rfl rfl,bf⟩,trivial⟩,⟨gG type243 underlying243 eqGuardType243 stoodInHeld243,
 ⟨s7 type371 underlying371 eqGuardType371 rfl,bf⟩,trivial⟩⟩⟩⟩,⟨aU type27 underlying27 rfl rfl,⟨aU type43 underlying43 rfl rfl,⟨gG type75 underlying75 eqGuardType75
 stoodInHeld75,⟨aU type139 underlying139 rfl rfl,⟨aU type267 underlying267 rfl rfl,bf⟩,trivial⟩,⟨aU type203 underlying203 rfl rfl,⟨aU type331 underlying331 rfl rfl,
 bf⟩,trivial⟩⟩,⟨aU type107 underlying107 rfl rfl,⟨gG type171 underlying171 eqGuardType171 stoodInHeld171,⟨aU type299 underlying299 rfl rfl,bf⟩,trivial⟩,⟨aU type235
 underlying235 rfl rfl,⟨gG type363 underlying363 eqGuardType363 stoodInHeld363,bf⟩,trivial⟩⟩⟩,⟨aU type59 underlying59 rfl rfl,⟨aU type91 underlying91 rfl rfl,⟨aU
 type155 underlying155 rfl rfl,⟨aU type283 underlying283 rfl rfl,bf⟩,trivial⟩,⟨aU type219 underlying219 rfl rfl,⟨aU type347 underlying347 rfl rfl,bf⟩,trivial⟩⟩,⟨aU
 type123 underlying123 rfl rfl,⟨aU type187 underlying187 rfl rfl,⟨aU type315 underlying315 rfl rfl,bf⟩,trivial⟩,⟨aU type251 underlying251 rfl rfl,⟨s7 type379
 underlying379 eqGuardType379 rfl,bf⟩,trivial⟩⟩⟩⟩⟩⟩,⟨aU type5 underlying5 rfl rfl,⟨aU type9 underlying9 rfl rfl,⟨aU type17 underlying17 rfl rfl,⟨aU type33 underlying33
 rfl rfl,⟨aU type65 underlying65 rfl rfl,⟨aU type129 underlying129 rfl rfl,⟨aU type257 underlying257 rfl rfl,bf⟩,⟨aU type385 underlying385 rfl rfl,bf⟩⟩,⟨aU type193
 underlying193 rfl rfl,⟨aU type321 underlying321 rfl rfl,bf⟩,trivial⟩⟩,⟨gG type97 underlying97 eqGuardType97 stoodInHeld97,⟨aU type161 underlying161 rfl rfl,⟨aU type289
 underlying289 rfl rfl,bf⟩,trivial⟩,⟨aU type225 underlying225 rfl rfl,⟨aU type353 underlying353 rfl rfl,bf⟩,trivial⟩⟩⟩,⟨s7 type49 underlying49 eqGuardType49 rfl,⟨gG
 type81 underlying81 eqGuardType81 stoodInHeld81,⟨aU type145 underlying145 rfl rfl,⟨aU type273 underlying273 rfl rfl,bf⟩,trivial⟩,⟨aU type209 underlying209 rfl rfl,⟨aU
 type337 underlying337 rfl rfl,bf⟩,trivial⟩⟩,⟨aU type113 underlying113 rfl rfl,⟨aU type177 underlying177 rfl rfl,⟨aU type305 underlying305 rfl rfl,bf⟩,trivial⟩,⟨aU
 type241 underlying241 rfl rfl,⟨gG type369 underlying369 eqGuardType369 stoodInHeld369,bf⟩,trivial⟩⟩⟩⟩,⟨gG type25 underlying25 eqGuardType25 stoodInHeld25,⟨gG type41
 underlying41 eqGuardType41 stoodInHeld41,⟨aU type73 underlying73 rfl rfl,⟨aU type137 underlying137 rfl rfl,⟨aU type265 underlying265 rfl rfl,bf⟩,⟨aU type393
 underlying393 rfl rfl,bf⟩⟩,⟨aU type201 underlying201 rfl rfl,⟨aU type329 underlying329 rfl rfl,bf⟩,trivial⟩⟩,⟨aU type105 underlying105 rfl rfl,⟨aU type169
 underlying169 rfl rfl,⟨s7 type297 underlying297 eqGuardType297 rfl,bf⟩,trivial⟩,⟨aU type233 underlying233 rfl rfl,⟨aU type361 underlying361 rfl rfl,bf⟩,trivial⟩⟩⟩,
 ⟨aU type57 underlying57 rfl rfl,⟨aU type89 underlying89 rfl rfl,⟨aU type153 underlying153 rfl rfl,⟨aU type281 underlying281 rfl rfl,bf⟩,trivial⟩,⟨aU type217
 underlying217 rfl rfl,⟨aU type345 underlying345 rfl rfl,bf⟩,trivial⟩⟩,⟨aU type121 underlying121 rfl rfl,⟨s7 type185 underlying185 eqGuardType185 rfl,⟨aU type313
 underlying313 rfl rfl,bf⟩,trivial⟩,⟨aU type249 underlying249 rfl rfl,⟨s7 type377 underlying377 eqGuardType377 rfl,bf⟩,trivial⟩⟩⟩⟩⟩,⟨gG type13 underlying13
 eqGuardType13 stoodInHeld13,⟨aU type21 underlying21 rfl rfl,⟨gG type37 underlying37 eqGuardType37 stoodInHeld37,⟨aU type69 underlying69 rfl rfl,⟨aU type133 underlying133
 rfl rfl,⟨aU type261 underlying261 rfl rfl,bf⟩,⟨aU type389 underlying389 rfl rfl,bf⟩⟩,⟨aU type197 underlying197 rfl rfl,⟨aU type325 underlying325 rfl rfl,bf⟩,
 trivial⟩⟩,⟨aU type101 underlying101 rfl rfl,⟨aU type165 underlying165 rfl rfl,⟨aU type293 underlying293 rfl rfl,bf⟩,trivial⟩,⟨aU type229 underlying229 rfl rfl,⟨aU
 type357 underlying357 rfl rfl,bf⟩,trivial⟩⟩⟩,⟨aU type53 underlying53 rfl rfl,⟨aU type85 underlying85 rfl rfl,⟨aU type149 underlying149 rfl rfl,⟨aU type277
 underlying277 rfl rfl,bf⟩,trivial⟩,⟨aU type213 underlying213 rfl rfl,⟨gG type341 underlying341 eqGuardType341 stoodInHeld341,bf⟩,trivial⟩⟩,⟨aU type117 underlying117
 rfl rfl,⟨aU type181 underlying181 rfl rfl,⟨aU type309 underlying309 rfl rfl,bf⟩,trivial⟩,⟨aU type245 underlying245 rfl rfl,⟨aU type373 underlying373 rfl rfl,bf⟩,
 trivial⟩⟩⟩⟩,⟨gG type29 underlying29 eqGuardType29 stoodInHeld29,⟨aU type45 underlying45 rfl rfl,⟨gG type77 underlying77 eqGuardType77 stoodInHeld77,⟨aU type141
 underlying141 rfl rfl,⟨s7 type269 underlying269 eqGuardType269 rfl,bf⟩,trivial⟩,⟨gG type205 underlying205 eqGuardType205 stoodInHeld205,⟨aU type333 underlying333 rfl
 rfl,bf⟩,trivial⟩⟩,⟨aU type109 underlying109 rfl rfl,⟨gG type173 underlying173 eqGuardType173 stoodInHeld173,⟨aU type301 underlying301 rfl rfl,bf⟩,trivial⟩,⟨aU
 type237 underlying237 rfl rfl,⟨s7 type365 underlying365 eqGuardType365 rfl,bf⟩,trivial⟩⟩⟩,⟨gG type61 underlying61 eqGuardType61 stoodInHeld61,⟨gG type93 underlying93
 eqGuardType93 stoodInHeld93,⟨aU type157 underlying157 rfl rfl,⟨s7 type285 underlying285 eqGuardType285 rfl,bf⟩,trivial⟩,⟨aU type221 underlying221 rfl rfl,⟨aU type349
 underlying349 rfl rfl,bf⟩,trivial⟩⟩,⟨aU type125 underlying125 rfl rfl,⟨aU type189 underlying189 rfl rfl,⟨aU type317 underlying317 rfl rfl,bf⟩,trivial⟩,⟨aU type253
 underlying253 rfl rfl,⟨gG type381 underlying381 eqGuardType381 stoodInHeld381,bf⟩,trivial⟩⟩⟩⟩⟩⟩⟩,⟨aU type2 underlying2 rfl rfl,⟨aU type4 underlying4 rfl rfl,⟨gG type8
 underlying8 eqGuardType8 stoodInHeld8,⟨aU type16 underlying16 rfl rfl,⟨aU type32 underlying32 rfl rfl,⟨aU type64 underlying64 rfl rfl,⟨aU type128 underlying128 rfl rfl,
 ⟨aU type256 underlying256 rfl rfl,bf⟩,⟨gG type384 underlying384 eqGuardType384 stoodInHeld384,bf⟩⟩,⟨aU type192 underlying192 rfl rfl,⟨aU type320 underlying320 rfl rfl,
 bf⟩,trivial⟩⟩,⟨gG type96 underlying96 eqGuardType96 stoodInHeld96,⟨aU type160 underlying160 rfl rfl,⟨aU type288 underlying288 rfl rfl,bf⟩,trivial⟩,⟨aU type224
 underlying224 rfl rfl,⟨aU type352 underlying352 rfl rfl,bf⟩,trivial⟩⟩⟩,⟨aU type48 underlying48 rfl rfl,⟨gG type80 underlying80 eqGuardType80 stoodInHeld80,⟨aU type144
 underlying144 rfl rfl,⟨aU type272 underlying272 rfl rfl,bf⟩,trivial⟩,⟨aU type208 underlying208 rfl rfl,⟨aU type336 underlying336 rfl rfl,bf⟩,trivial⟩⟩,⟨aU type112
 underlying112 rfl rfl,⟨aU type176 underlying176 rfl rfl,⟨aU type304 underlying304 rfl rfl,bf⟩,trivial⟩,⟨aU type240 underlying240 rfl rfl,⟨gG type368 underlying368
 eqGuardType368 stoodInHeld368,bf⟩,trivial⟩⟩⟩⟩,⟨s7 type24 underlying24 eqGuardType24 rfl,⟨gG type40 underlying40 eqGuardType40 stoodInHeld40,⟨aU type72 underlying72 rfl
 rfl,⟨aU type136 underlying136 rfl rfl,⟨aU type264 underlying264 rfl rfl,bf⟩,⟨gG type392 underlying392 eqGuardType392 stoodInHeld392,bf⟩⟩,⟨aU type200 underlying200 rfl
 rfl,⟨aU type328 underlying328 rfl rfl,bf⟩,trivial⟩⟩,⟨aU type104 underlying104 rfl rfl,⟨aU type168 underlying168 rfl rfl,⟨aU type296 underlying296 rfl rfl,bf⟩,
 trivial⟩,⟨aU type232 underlying232 rfl rfl,⟨aU type360 underlying360 rfl rfl,bf⟩,trivial⟩⟩⟩,⟨aU type56 underlying56 rfl rfl,⟨aU type88 underlying88 rfl rfl,⟨aU
 type152 underlying152 rfl rfl,⟨aU type280 underlying280 rfl rfl,bf⟩,trivial⟩,⟨aU type216 underlying216 rfl rfl,⟨aU type344 underlying344 rfl rfl,bf⟩,trivial⟩⟩,⟨aU
 type120 underlying120 rfl rfl,⟨aU type184 underlying184 rfl rfl,⟨aU type312 underlying312 rfl rfl,bf⟩,trivial⟩,⟨aU type248 underlying248 rfl rfl,⟨s7 type376
 underlying376 eqGuardType376 rfl,bf⟩,trivial⟩⟩⟩⟩⟩,⟨aU type12 underlying12 rfl rfl,⟨aU type20 underlying20 rfl rfl,⟨aU type36 underlying36 rfl rfl,⟨aU type68
 underlying68 rfl rfl,⟨aU type132 underlying132 rfl rfl,⟨aU type260 underlying260 rfl rfl,bf⟩,⟨aU type388 underlying388 rfl rfl,bf⟩⟩,⟨aU type196 underlying196 rfl rfl,
 ⟨aU type324 underlying324 rfl rfl,bf⟩,trivial⟩⟩,⟨aU type100 underlying100 rfl rfl,⟨aU type164 underlying164 rfl rfl,⟨s7 type292 underlying292 eqGuardType292 rfl,bf⟩,
 trivial⟩,⟨aU type228 underlying228 rfl rfl,⟨gG type356 underlying356 eqGuardType356 stoodInHeld356,bf⟩,trivial⟩⟩⟩,⟨aU type52 underlying52 rfl rfl,⟨aU type84
 underlying84 rfl rfl,⟨aU type148 underlying148 rfl rfl,⟨aU type276 underlying276 rfl rfl,bf⟩,trivial⟩,⟨aU type212 underlying212 rfl rfl,⟨s7 type340 underlying340
 eqGuardType340 rfl,bf⟩,trivial⟩⟩,⟨aU type116 underlying116 rfl rfl,⟨aU type180 underlying180 rfl rfl,⟨aU type308 underlying308 rfl rfl,bf⟩,trivial⟩,⟨aU type244
 underlying244 rfl rfl,⟨aU type372 underlying372 rfl rfl,bf⟩,trivial⟩⟩⟩⟩,⟨gG type28 underlying28 eqGuardType28 stoodInHeld28,⟨aU type44 underlying44 rfl rfl,⟨gG type76
 underlying76 eqGuardType76 stoodInHeld76,⟨aU type140 underlying140 rfl rfl,⟨aU type268 underlying268 rfl rfl,bf⟩,trivial⟩,⟨aU type204 underlying204 rfl rfl,⟨aU type332
 underlying332 rfl rfl,bf⟩,trivial⟩⟩,⟨aU type108 underlying108 rfl rfl,⟨aU type172 underlying172 rfl rfl,⟨aU type300 underlying300 rfl rfl,bf⟩,trivial⟩,⟨aU type236
 underlying236 rfl rfl,⟨gG type364 underlying364 eqGuardType364 stoodInHeld364,bf⟩,trivial⟩⟩⟩,⟨aU type60 underlying60 rfl rfl,⟨aU type92 underlying92 rfl rfl,⟨aU
 type156 underlying156 rfl rfl,⟨s7 type284 underlying284 eqGuardType284 rfl,bf⟩,trivial⟩,⟨aU type220 underlying220 rfl rfl,⟨aU type348 underlying348 rfl rfl,bf⟩,
 trivial⟩⟩,⟨aU type124 underlying124 rfl rfl,⟨aU type188 underlying188 rfl rfl,⟨aU type316 underlying316 rfl rfl,bf⟩,trivial⟩,⟨aU type252 underlying252 rfl rfl,⟨gG
 type380 underlying380 eqGuardType380 stoodInHeld380,bf⟩,trivial⟩⟩⟩⟩⟩⟩,⟨aU type6 underlying6 rfl rfl,⟨aU type10 underlying10 rfl rfl,⟨gG type18 underlying18 eqGuardType18
 stoodInHeld18,⟨gG type34 underlying34 eqGuardType34 stoodInHeld34,⟨aU type66 underlying66 rfl rfl,⟨aU type130 underlying130 rfl rfl,⟨aU type258 underlying258 rfl rfl,
 bf⟩,⟨aU type386 underlying386 rfl rfl,bf⟩⟩,⟨aU type194 underlying194 rfl rfl,⟨aU type322 underlying322 rfl rfl,bf⟩,trivial⟩⟩,⟨aU type98 underlying98 rfl rfl,⟨aU
 type162 underlying162 rfl rfl,⟨aU type290 underlying290 rfl rfl,bf⟩,trivial⟩,⟨aU type226 underlying226 rfl rfl,⟨aU type354 underlying354 rfl rfl,bf⟩,trivial⟩⟩⟩,⟨gG
 type50 underlying50 eqGuardType50 stoodInHeld50,⟨aU type82 underlying82 rfl rfl,⟨aU type146 underlying146 rfl rfl,⟨aU type274 underlying274 rfl rfl,bf⟩,trivial⟩,⟨aU
 type210 underlying210 rfl rfl,⟨aU type338 underlying338 rfl rfl,bf⟩,trivial⟩⟩,⟨aU type114 underlying114 rfl rfl,⟨aU type178 underlying178 rfl rfl,⟨aU type306
 underlying306 rfl rfl,bf⟩,trivial⟩,⟨gG type242 underlying242 eqGuardType242 stoodInHeld242,⟨aU type370 underlying370 rfl rfl,bf⟩,trivial⟩⟩⟩⟩,⟨gG type26 underlying26
 eqGuardType26 stoodInHeld26,⟨aU type42 underlying42 rfl rfl,⟨gG type74 underlying74 eqGuardType74 stoodInHeld74,⟨aU type138 underlying138 rfl rfl,⟨aU type266
 underlying266 rfl rfl,bf⟩,trivial⟩,⟨aU type202 underlying202 rfl rfl,⟨aU type330 underlying330 rfl rfl,bf⟩,trivial⟩⟩,⟨aU type106 underlying106 rfl rfl,⟨gG type170
 underlying170 eqGuardType170 stoodInHeld170,⟨aU type298 underlying298 rfl rfl,bf⟩,trivial⟩,⟨aU type234 underlying234 rfl rfl,⟨s7 type362 underlying362 eqGuardType362
 rfl,bf⟩,trivial⟩⟩⟩,⟨aU type58 underlying58 rfl rfl,⟨aU type90 underlying90 rfl rfl,⟨s7 type154 underlying154 eqGuardType154 rfl,⟨aU type282 underlying282 rfl rfl,
 bf⟩,trivial⟩,⟨aU type218 underlying218 rfl rfl,⟨aU type346 underlying346 rfl rfl,bf⟩,trivial⟩⟩,⟨aU type122 underlying122 rfl rfl,⟨aU type186 underlying186 rfl rfl,
 ⟨aU type314 underlying314 rfl rfl,bf⟩,trivial⟩,⟨aU type250 underlying250 rfl rfl,⟨s7 type378 underlying378 eqGuardType378 rfl,bf⟩,trivial⟩⟩⟩⟩⟩,⟨gG type14
 underlying14 eqGuardType14 stoodInHeld14,⟨gG type22 underlying22 eqGuardType22 stoodInHeld22,⟨gG type38 underlying38 eqGuardType38 stoodInHeld38,⟨aU type70 underlying70 rfl
 rfl,⟨aU type134 underlying134 rfl rfl,⟨aU type262 underlying262 rfl rfl,bf⟩,⟨aU type390 underlying390 rfl rfl,bf⟩⟩,⟨aU type198 underlying198 rfl rfl,⟨aU type326
 underlying326 rfl rfl,bf⟩,trivial⟩⟩,⟨aU type102 underlying102 rfl rfl,⟨aU type166 underlying166 rfl rfl,⟨aU type294 underlying294 rfl rfl,bf⟩,trivial⟩,⟨aU type230
 underlying230 rfl rfl,⟨aU type358 underlying358 rfl rfl,bf⟩,trivial⟩⟩⟩,⟨aU type54 underlying54 rfl rfl,⟨aU type86 underlying86 rfl rfl,⟨aU type150 underlying150 rfl
 rfl,⟨aU type278 underlying278 rfl rfl,bf⟩,trivial⟩,⟨aU type214 underlying214 rfl rfl,⟨gG type342 underlying342 eqGuardType342 stoodInHeld342,bf⟩,trivial⟩⟩,⟨aU
 type118 underlying118 rfl rfl,⟨aU type182 underlying182 rfl rfl,⟨aU type310 underlying310 rfl rfl,bf⟩,trivial⟩,⟨aU type246 underlying246 rfl rfl,⟨aU type374
 underlying374 rfl rfl,bf⟩,trivial⟩⟩⟩⟩,⟨gG type30 underlying30 eqGuardType30 stoodInHeld30,⟨aU type46 underlying46 rfl rfl,⟨aU type78 underlying78 rfl rfl,⟨aU type142
 underlying142 rfl rfl,⟨aU type270 underlying270 rfl rfl,bf⟩,trivial⟩,⟨gG type206 underlying206 eqGuardType206 stoodInHeld206,⟨aU type334 underlying334 rfl rfl,bf⟩,
 trivial⟩⟩,⟨aU type110 underlying110 rfl rfl,⟨gG type174 underlying174 eqGuardType174 stoodInHeld174,⟨aU type302 underlying302 rfl rfl,bf⟩,trivial⟩,⟨s7 type238
 underlying238 eqGuardType238 rfl,⟨aU type366 underlying366 rfl rfl,bf⟩,trivial⟩⟩⟩,⟨gG type62 underlying62 eqGuardType62 stoodInHeld62,⟨gG type94 underlying94
 eqGuardType94 stoodInHeld94,⟨aU type158 underlying158 rfl rfl,⟨aU type286 underlying286 rfl rfl,bf⟩,trivial⟩,⟨aU type222 underlying222 rfl rfl,⟨aU type350
 underlying350 rfl rfl,bf⟩,trivial⟩⟩,⟨aU type126 underlying126 rfl rfl,⟨aU type190 underlying190 rfl rfl,⟨aU type318 underlying318 rfl rfl,bf⟩,trivial⟩,⟨aU type254
 underlying254 rfl rfl,⟨s7 type382 underlying382 eqGuardType382 rfl,bf⟩,trivial⟩⟩⟩⟩⟩⟩⟩⟩
theorem Ox:i6 (Qx prog) (λi=>i) JL:=
 ⟨ai,⟨ai,⟨aP func3,⟨aP func7,⟨aP func15,⟨aP func31,⟨aP func63,⟨aP func127,⟨aP func255,bf⟩,trivial⟩,⟨aP func191,⟨aP func319,bf⟩,trivial⟩⟩,⟨aP
 func95,⟨aP func159,⟨aP func287,bf⟩,trivial⟩,⟨aP func223,⟨aP func351,bf⟩,trivial⟩⟩⟩,⟨aP func47,⟨aP func79,⟨aP func143,⟨aP func271,bf⟩,trivial⟩,⟨aP
 func207,⟨aP func335,bf⟩,trivial⟩⟩,⟨aP func111,⟨aP func175,⟨aP func303,bf⟩,trivial⟩,⟨aP func239,bf⟩⟩⟩⟩,⟨aP func23,⟨aP func39,⟨aP func71,⟨aP func135,⟨aP
 func263,bf⟩,trivial⟩,⟨aP func199,⟨aP func327,bf⟩,trivial⟩⟩,⟨aP func103,⟨aP func167,⟨aP func295,bf⟩,trivial⟩,⟨aP func231,bf⟩⟩⟩,⟨aP func55,⟨aP func87,
 ⟨aP func151,⟨aP func279,bf⟩,trivial⟩,⟨aP func215,⟨aP func343,bf⟩,trivial⟩⟩,⟨aP func119,⟨aP func183,⟨aP func311,bf⟩,trivial⟩,⟨aP func247,bf⟩⟩⟩⟩⟩,⟨aP
 func11,⟨aP func19,⟨aP func35,⟨aP func67,⟨aP func131,⟨aP func259,bf⟩,trivial⟩,⟨aP func195,bf⟩⟩,⟨aP func99,⟨aP func163,⟨aP func291,bf⟩,trivial⟩,⟨aP
 func227,bf⟩⟩⟩,⟨aP func51,⟨aP func83,⟨aP func147,⟨aP func275,bf⟩,trivial⟩,⟨aP func211,⟨aP func339,bf⟩,trivial⟩⟩,⟨aP func115,⟨aP func179,⟨aP func307,
 bf⟩,trivial⟩,⟨aP func243,bf⟩⟩⟩⟩,⟨aP func27,⟨aP func43,⟨aP func75,⟨aP func139,⟨aP func267,bf⟩,trivial⟩,⟨aP func203,⟨aP func331,bf⟩,trivial⟩⟩,⟨aP
 func107,⟨aP func171,⟨aP func299,bf⟩,trivial⟩,⟨aP func235,bf⟩⟩⟩,⟨aP func59,⟨aP func91,⟨aP func155,⟨aP func283,bf⟩,trivial⟩,⟨aP func219,⟨aP func347,bf⟩,
 trivial⟩⟩,⟨aP func123,⟨aP func187,⟨aP func315,bf⟩,trivial⟩,⟨aP func251,bf⟩⟩⟩⟩⟩⟩,⟨aP func5,⟨aP func9,⟨aP func17,⟨aP func33,⟨aP func65,⟨aP func129,⟨aP
 func257,bf⟩,⟨aP func385,bf⟩⟩,⟨aP func193,⟨aP func321,bf⟩,trivial⟩⟩,⟨aP func97,⟨aP func161,⟨aP func289,bf⟩,trivial⟩,⟨aP func225,⟨aP func353,bf⟩,
 trivial⟩⟩⟩,⟨aP func49,⟨aP func81,⟨aP func145,⟨aP func273,bf⟩,trivial⟩,⟨aP func209,⟨aP func337,bf⟩,trivial⟩⟩,⟨aP func113,⟨aP func177,⟨aP func305,bf⟩,
 trivial⟩,⟨aP func241,bf⟩⟩⟩⟩,⟨aP func25,⟨aP func41,⟨aP func73,⟨aP func137,⟨aP func265,bf⟩,trivial⟩,⟨aP func201,⟨aP func329,bf⟩,trivial⟩⟩,⟨aP func105,
 ⟨aP func169,⟨aP func297,bf⟩,trivial⟩,⟨aP func233,bf⟩⟩⟩,⟨aP func57,⟨aP func89,⟨aP func153,⟨aP func281,bf⟩,trivial⟩,⟨aP func217,⟨aP func345,bf⟩,
 trivial⟩⟩,⟨aP func121,⟨aP func185,⟨aP func313,bf⟩,trivial⟩,⟨aP func249,bf⟩⟩⟩⟩⟩,⟨aP func13,⟨aP func21,⟨aP func37,⟨aP func69,⟨aP func133,⟨aP func261,bf⟩,
 trivial⟩,⟨aP func197,⟨aP func325,bf⟩,trivial⟩⟩,⟨aP func101,⟨aP func165,⟨aP func293,bf⟩,trivial⟩,⟨aP func229,bf⟩⟩⟩,⟨aP func53,⟨aP func85,⟨aP func149,
 ⟨aP func277,bf⟩,trivial⟩,⟨aP func213,⟨aP func341,bf⟩,trivial⟩⟩,⟨aP func117,⟨aP func181,⟨aP func309,bf⟩,trivial⟩,⟨aP func245,bf⟩⟩⟩⟩,⟨aP func29,⟨aP
 func45,⟨aP func77,⟨aP func141,⟨aP func269,bf⟩,trivial⟩,⟨aP func205,⟨aP func333,bf⟩,trivial⟩⟩,⟨aP func109,⟨aP func173,⟨aP func301,bf⟩,trivial⟩,⟨aP
 func237,bf⟩⟩⟩,⟨aP func61,⟨aP func93,⟨aP func157,⟨aP func285,bf⟩,trivial⟩,⟨aP func221,⟨aP func349,bf⟩,trivial⟩⟩,⟨aP func125,⟨aP func189,⟨aP func317,
 bf⟩,trivial⟩,⟨aP func253,bf⟩⟩⟩⟩⟩⟩⟩,⟨aP func2,⟨aP func4,⟨aP func8,⟨aP func16,⟨aP func32,⟨aP func64,⟨aP func128,⟨aP func256,bf⟩,trivial⟩,⟨aP func192,
 ⟨aP func320,bf⟩,trivial⟩⟩,⟨aP func96,⟨aP func160,⟨aP func288,bf⟩,trivial⟩,⟨aP func224,⟨aP func352,bf⟩,trivial⟩⟩⟩,⟨aP func48,⟨aP func80,⟨aP func144,⟨aP
 func272,bf⟩,trivial⟩,⟨aP func208,⟨aP func336,bf⟩,trivial⟩⟩,⟨aP func112,⟨aP func176,⟨aP func304,bf⟩,trivial⟩,⟨aP func240,bf⟩⟩⟩⟩,⟨aP func24,⟨aP func40,
 ⟨aP func72,⟨aP func136,⟨aP func264,bf⟩,trivial⟩,⟨aP func200,⟨aP func328,bf⟩,trivial⟩⟩,⟨aP func104,⟨aP func168,⟨aP func296,bf⟩,trivial⟩,⟨aP func232,
 bf⟩⟩⟩,⟨aP func56,⟨aP func88,⟨aP func152,⟨aP func280,bf⟩,trivial⟩,⟨aP func216,⟨aP func344,bf⟩,trivial⟩⟩,⟨aP func120,⟨aP func184,⟨aP func312,bf⟩,
 trivial⟩,⟨aP func248,bf⟩⟩⟩⟩⟩,⟨aP func12,⟨aP func20,⟨aP func36,⟨aP func68,⟨aP func132,⟨aP func260,bf⟩,trivial⟩,⟨aP func196,⟨aP func324,bf⟩,trivial⟩⟩,
 ⟨aP func100,⟨aP func164,⟨aP func292,bf⟩,trivial⟩,⟨aP func228,bf⟩⟩⟩,⟨aP func52,⟨aP func84,⟨aP func148,⟨aP func276,bf⟩,trivial⟩,⟨aP func212,⟨aP func340,
 bf⟩,trivial⟩⟩,⟨aP func116,⟨aP func180,⟨aP func308,bf⟩,trivial⟩,⟨aP func244,bf⟩⟩⟩⟩,⟨aP func28,⟨aP func44,⟨aP func76,⟨aP func140,⟨aP func268,bf⟩,
 trivial⟩,⟨aP func204,⟨aP func332,bf⟩,trivial⟩⟩,⟨aP func108,⟨aP func172,⟨aP func300,bf⟩,trivial⟩,⟨aP func236,bf⟩⟩⟩,⟨aP func60,⟨aP func92,⟨aP func156,
 ⟨aP func284,bf⟩,trivial⟩,⟨aP func220,⟨aP func348,bf⟩,trivial⟩⟩,⟨aP func124,⟨aP func188,⟨aP func316,bf⟩,trivial⟩,⟨aP func252,bf⟩⟩⟩⟩⟩⟩,⟨aP func6,⟨aP
 func10,⟨aP func18,⟨aP func34,⟨aP func66,⟨aP func130,⟨aP func258,bf⟩,trivial⟩,⟨aP func194,⟨aP func322,bf⟩,trivial⟩⟩,⟨aP func98,⟨aP func162,⟨aP func290,
 bf⟩,trivial⟩,⟨aP func226,bf⟩⟩⟩,⟨aP func50,⟨aP func82,⟨aP func146,⟨aP func274,bf⟩,trivial⟩,⟨aP func210,⟨aP func338,bf⟩,trivial⟩⟩,⟨aP func114,⟨aP
 func178,⟨aP func306,bf⟩,trivial⟩,⟨aP func242,bf⟩⟩⟩⟩,⟨aP func26,⟨aP func42,⟨aP func74,⟨aP func138,⟨aP func266,bf⟩,trivial⟩,⟨aP func202,⟨aP func330,bf⟩,
 trivial⟩⟩,⟨aP func106,⟨aP func170,⟨aP func298,bf⟩,trivial⟩,⟨aP func234,bf⟩⟩⟩,⟨aP func58,⟨aP func90,⟨aP func154,bf⟩,⟨aP func218,⟨aP func346,bf⟩,
 trivial⟩⟩,⟨aP func122,⟨aP func186,⟨aP func314,bf⟩,trivial⟩,⟨aP func250,bf⟩⟩⟩⟩⟩,⟨aP func14,⟨aP func22,⟨aP func38,⟨aP func70,⟨aP func134,⟨aP func262,bf⟩,
 trivial⟩,⟨aP func198,⟨aP func326,bf⟩,trivial⟩⟩,⟨aP func102,⟨aP func166,⟨aP func294,bf⟩,trivial⟩,⟨aP func230,bf⟩⟩⟩,⟨aP func54,⟨aP func86,⟨aP func150,
 ⟨aP func278,bf⟩,trivial⟩,⟨aP func214,⟨aP func342,bf⟩,trivial⟩⟩,⟨aP func118,⟨aP func182,⟨aP func310,bf⟩,trivial⟩,⟨aP func246,bf⟩⟩⟩⟩,⟨aP func30,⟨aP
 func46,⟨aP func78,⟨aP func142,⟨aP func270,bf⟩,trivial⟩,⟨aP func206,⟨aP func334,bf⟩,trivial⟩⟩,⟨aP func110,⟨aP func174,⟨aP func302,bf⟩,trivial⟩,⟨aP
 func238,bf⟩⟩⟩,⟨aP func62,⟨aP func94,⟨aP func158,⟨aP func286,bf⟩,trivial⟩,⟨aP func222,⟨aP func350,bf⟩,trivial⟩⟩,⟨aP func126,⟨aP func190,⟨aP func318,
 bf⟩,trivial⟩,⟨aP func254,bf⟩⟩⟩⟩⟩⟩⟩⟩
end
theorem Mo:eE Tryz.prog tab:=⟨λt e h=>QK.get t e h,λf fn h=>Ox.get f fn h⟩
end Go.Ev
