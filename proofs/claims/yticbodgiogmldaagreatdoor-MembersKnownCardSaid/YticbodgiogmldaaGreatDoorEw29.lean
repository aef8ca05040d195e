/- The tables of the program, and that they are right. -/
import Derived.Test.YticbodgiogmldaaGreatDoorProg
import Derived.Test.YticbodgiogmldaaGreatDoorEw28
set_option linter.all false
namespace Go.Ev
open Go Go.Proofs
abbrev te (t d : TypeInfo) : TE := ⟨t, d.desc, false, false⟩
abbrev tnQ (t d : TypeInfo) (l r : Tb TE) : Tb TE := .node (some (te t d)) l r
abbrev tlQ (t d : TypeInfo) : Tb TE := .node (some (te t d)) .nil .nil
abbrev fnQ (f : Func) (l r : Tb Func) : Tb Func := .node (some f) l r
abbrev flQ (f : Func) : Tb Func := .node (some f) .nil .nil
section
open Tryz
noncomputable def tyTab : Tb TE :=
  (tnQ t0 t0 (tnQ t1 t1 (tnQ t3 t3 (tnQ t7 t7 (tnQ t15 t15 (tnQ t31 t31 (tnQ t63 t63 (tnQ t127 t127 (tlQ t255 t255) .nil) (tnQ t191 t191 (tlQ t319 t319) .nil)) (tnQ t95 t95 (tnQ
  t159 t159 (tlQ t287 t287) .nil) (tnQ t223 t223 (tlQ t351 t21) .nil))) (tnQ t47 t46 (tnQ t79 t79 (tnQ t143 t143 (tlQ t271 t271) .nil) (tnQ t207 t207 (tlQ t335 t335) .nil)) (tnQ
  t111 t111 (tnQ t175 t175 (tlQ t303 t303) .nil) (tlQ t239 t239)))) (tnQ t23 t23 (tnQ t39 t3 (tnQ t71 t71 (tnQ t135 t135 (tlQ t263 t263) .nil) (tnQ t199 t199 (tlQ t327 t327) .nil))
  (tnQ t103 t103 (tnQ t167 t167 (tlQ t295 t295) .nil) (tlQ t231 t231))) (tnQ t55 t55 (tnQ t87 t87 (tnQ t151 t151 (tlQ t279 t279) .nil) (tnQ t215 t215 (tlQ t343 t343) .nil)) (tnQ
  t119 t119 (tnQ t183 t183 (tlQ t311 t311) .nil) (tlQ t247 t247))))) (tnQ t11 t9 (.node (some ⟨t19, t18.desc, false, true⟩) (tnQ t35 t35 (tnQ t67 t67 (tnQ t131 t131 (tlQ t259 t259)
  .nil) (tnQ t195 t195 (tlQ t323 t323) .nil)) (tnQ t99 t99 (tnQ t163 t163 (tlQ t291 t291) .nil) (tlQ t227 t227))) (tnQ t51 t51 (tnQ t83 t83 (tnQ t147 t147 (tlQ t275 t275) .nil)
  (tnQ t211 t211 (tlQ t339 t339) .nil)) (tnQ t115 t115 (tnQ t179 t179 (tlQ t307 t307) .nil) (tlQ t243 t243)))) (tnQ t27 t27 (tnQ t43 t43 (tnQ t75 t75 (tnQ t139 t139 (tlQ t267 t267)
  .nil) (tnQ t203 t203 (tlQ t331 t331) .nil)) (tnQ t107 t107 (tnQ t171 t171 (tlQ t299 t299) .nil) (tlQ t235 t235))) (tnQ t59 t59 (tnQ t91 t91 (tnQ t155 t155 (tlQ t283 t3) .nil)
  (tnQ t219 t219 (tlQ t347 t5) .nil)) (tnQ t123 t123 (tnQ t187 t187 (tlQ t315 t315) .nil) (tlQ t251 t251)))))) (tnQ t5 t5 (tnQ t9 t9 (tnQ t17 t17 (tnQ t33 t33 (tnQ t65 t65 (tnQ
  t129 t129 (tlQ t257 t257) .nil) (tnQ t193 t193 (tlQ t321 t320) .nil)) (tnQ t97 t97 (tnQ t161 t161 (tlQ t289 t289) .nil) (tnQ t225 t224 (.node (some ⟨t353, t352.desc, false,
  true⟩) .nil .nil) .nil))) (tnQ t49 t49 (tnQ t81 t81 (tnQ t145 t145 (tlQ t273 t273) .nil) (tnQ t209 t209 (tlQ t337 t337) .nil)) (tnQ t113 t113 (tnQ t177 t177 (tlQ t305 t305) .nil)
  (tlQ t241 t241)))) (tnQ t25 t25 (tnQ t41 t41 (tnQ t73 t73 (tnQ t137 t137 (tlQ t265 t265) .nil) (tnQ t201 t201 (tlQ t329 t328) .nil)) (tnQ t105 t104 (tnQ t169 t169 (tlQ t297 t297)
  .nil) (tlQ t233 t233))) (tnQ t57 t57 (tnQ t89 t89 (tnQ t153 t153 (tlQ t281 t281) .nil) (tnQ t217 t217 (.node (some ⟨t345, t344.desc, false, true⟩) .nil .nil) .nil)) (tnQ t121
  t121 (tnQ t185 t185 (tlQ t313 t313) .nil) (tlQ t249 t249))))) (.node (some ⟨t13, t13.desc, false, true⟩) (tnQ t21 t21 (tnQ t37 t37 (tnQ t69 t69 (tnQ t133 t133 (tlQ t261 t261)
  .nil) (tnQ t197 t197 (tlQ t325 t325) .nil)) (tnQ t101 t101 (tnQ t165 t165 (tlQ t293 t292) .nil) (tlQ t229 t229))) (tnQ t53 t53 (tnQ t85 t85 (tnQ t149 t149 (tlQ t277 t277) .nil)
  (tnQ t213 t213 (.node (some ⟨t341, t341.desc, false, true⟩) .nil .nil) .nil)) (tnQ t117 t117 (tnQ t181 t180 (tlQ t309 t309) .nil) (tlQ t245 t245)))) (tnQ t29 t28 (tnQ t45 t45
  (tnQ t77 t77 (tnQ t141 t141 (tlQ t269 t269) .nil) (tnQ t205 t205 (tlQ t333 t333) .nil)) (tnQ t109 t109 (tnQ t173 t173 (.node (some ⟨t301, t300.desc, true, false⟩) .nil .nil)
  .nil) (tlQ t237 t237))) (tnQ t61 t61 (tnQ t93 t93 (tnQ t157 t157 (tlQ t285 t285) .nil) (tnQ t221 t221 (tlQ t349 t349) .nil)) (tnQ t125 t125 (tnQ t189 t189 (tlQ t317 t317) .nil)
  (tlQ t253 t253))))))) (tnQ t2 t2 (tnQ t4 t4 (tnQ t8 t7 (tnQ t16 t16 (tnQ t32 t31 (tnQ t64 t64 (tnQ t128 t128 (tlQ t256 t256) .nil) (tnQ t192 t192 (tlQ t320 t320) .nil)) (tnQ t96
  t96 (tnQ t160 t160 (tlQ t288 t288) .nil) (tnQ t224 t224 (.node (some ⟨t352, t352.desc, false, true⟩) .nil .nil) .nil))) (tnQ t48 t48 (tnQ t80 t80 (tnQ t144 t144 (tlQ t272 t272)
  .nil) (tnQ t208 t208 (tlQ t336 t336) .nil)) (tnQ t112 t112 (tnQ t176 t176 (tlQ t304 t304) .nil) (tlQ t240 t240)))) (tnQ t24 t23 (tnQ t40 t40 (tnQ t72 t72 (tnQ t136 t136 (tlQ t264
  t264) .nil) (tnQ t200 t200 (tlQ t328 t328) .nil)) (tnQ t104 t104 (tnQ t168 t167 (tlQ t296 t296) .nil) (tlQ t232 t232))) (tnQ t56 t56 (tnQ t88 t88 (tnQ t152 t152 (tlQ t280 t280)
  .nil) (tnQ t216 t216 (.node (some ⟨t344, t344.desc, false, true⟩) .nil .nil) .nil)) (tnQ t120 t120 (tnQ t184 t184 (tlQ t312 t312) .nil) (tlQ t248 t248))))) (tnQ t12 t12 (tnQ t20
  t20 (tnQ t36 t36 (tnQ t68 t68 (tnQ t132 t132 (tlQ t260 t260) .nil) (tnQ t196 t196 (tlQ t324 t324) .nil)) (tnQ t100 t100 (tnQ t164 t164 (tlQ t292 t292) .nil) (tlQ t228 t228)))
  (tnQ t52 t52 (tnQ t84 t84 (tnQ t148 t148 (tlQ t276 t276) .nil) (tnQ t212 t212 (tlQ t340 t340) .nil)) (tnQ t116 t116 (tnQ t180 t180 (tlQ t308 t81) .nil) (tlQ t244 t244)))) (tnQ
  t28 t28 (tnQ t44 t43 (tnQ t76 t76 (tnQ t140 t140 (tlQ t268 t267) .nil) (tnQ t204 t204 (tlQ t332 t332) .nil)) (tnQ t108 t108 (tnQ t172 t172 (.node (some ⟨t300, t300.desc, true,
  false⟩) .nil .nil) .nil) (tlQ t236 t236))) (tnQ t60 t60 (tnQ t92 t92 (tnQ t156 t156 (tlQ t284 t284) .nil) (tnQ t220 t220 (tlQ t348 t5) .nil)) (tnQ t124 t124 (tnQ t188 t188 (tlQ
  t316 t316) .nil) (tlQ t252 t3)))))) (tnQ t6 t5 (tnQ t10 t9 (.node (some ⟨t18, t18.desc, false, true⟩) (tnQ t34 t33 (tnQ t66 t66 (tnQ t130 t130 (tlQ t258 t258) .nil) (tnQ t194
  t194 (tlQ t322 t322) .nil)) (tnQ t98 t98 (tnQ t162 t162 (tlQ t290 t290) .nil) (tnQ t226 t226 (tlQ t354 t354) .nil))) (tnQ t50 t50 (tnQ t82 t82 (tnQ t146 t146 (tlQ t274 t273)
  .nil) (tnQ t210 t210 (tlQ t338 t338) .nil)) (tnQ t114 t114 (tnQ t178 t178 (tlQ t306 t306) .nil) (tlQ t242 t242)))) (tnQ t26 t25 (tnQ t42 t42 (tnQ t74 t74 (tnQ t138 t138 (tlQ t266
  t266) .nil) (tnQ t202 t202 (tlQ t330 t330) .nil)) (tnQ t106 t106 (tnQ t170 t170 (tlQ t298 t298) .nil) (tlQ t234 t234))) (tnQ t58 t58 (tnQ t90 t90 (tnQ t154 t154 (tlQ t282 t282)
  .nil) (tnQ t218 t218 (tlQ t346 t346) .nil)) (tnQ t122 t122 (tnQ t186 t186 (tlQ t314 t314) .nil) (tlQ t250 t250))))) (.node (some ⟨t14, t13.desc, false, true⟩) (tnQ t22 t22 (tnQ
  t38 t5 (tnQ t70 t70 (tnQ t134 t134 (tlQ t262 t262) .nil) (tnQ t198 t198 (tlQ t326 t326) .nil)) (tnQ t102 t102 (tnQ t166 t166 (tlQ t294 t294) .nil) (tlQ t230 t230))) (tnQ t54 t54
  (tnQ t86 t85 (tnQ t150 t149 (tlQ t278 t278) .nil) (tnQ t214 t214 (.node (some ⟨t342, t341.desc, false, true⟩) .nil .nil) .nil)) (tnQ t118 t118 (tnQ t182 t182 (tlQ t310 t310)
  .nil) (tlQ t246 t246)))) (tnQ t30 t30 (tnQ t46 t46 (tnQ t78 t78 (tnQ t142 t141 (tlQ t270 t270) .nil) (tnQ t206 t206 (tlQ t334 t334) .nil)) (tnQ t110 t110 (tnQ t174 t174 (tlQ t302
  t302) .nil) (tlQ t238 t238))) (tnQ t62 t61 (tnQ t94 t94 (tnQ t158 t158 (tlQ t286 t286) .nil) (tnQ t222 t222 (tlQ t350 t21) .nil)) (tnQ t126 t126 (tnQ t190 t190 (tlQ t318 t318)
  .nil) (tlQ t254 t254))))))))
noncomputable def fnTab : Tb Func :=
  (.node none (.node none (fnQ f3 (fnQ f7 (fnQ f15 (fnQ f31 (fnQ f63 (fnQ f127 (flQ f255) .nil) (flQ f191)) (fnQ f95 (fnQ f159 (flQ f287) .nil) (flQ f223))) (fnQ f47 (fnQ f79 (fnQ
  f143 (flQ f271) .nil) (flQ f207)) (fnQ f111 (flQ f175) (flQ f239)))) (fnQ f23 (fnQ f39 (fnQ f71 (fnQ f135 (flQ f263) .nil) (flQ f199)) (fnQ f103 (fnQ f167 (flQ f295) .nil) (flQ
  f231))) (fnQ f55 (fnQ f87 (fnQ f151 (flQ f279) .nil) (flQ f215)) (fnQ f119 (flQ f183) (flQ f247))))) (fnQ f11 (fnQ f19 (fnQ f35 (fnQ f67 (fnQ f131 (flQ f259) .nil) (flQ f195))
  (fnQ f99 (fnQ f163 (flQ f291) .nil) (flQ f227))) (fnQ f51 (fnQ f83 (fnQ f147 (flQ f275) .nil) (flQ f211)) (fnQ f115 (flQ f179) (flQ f243)))) (fnQ f27 (fnQ f43 (fnQ f75 (fnQ f139
  (flQ f267) .nil) (flQ f203)) (fnQ f107 (flQ f171) (flQ f235))) (fnQ f59 (fnQ f91 (fnQ f155 (flQ f283) .nil) (flQ f219)) (fnQ f123 (flQ f187) .nil))))) (fnQ f5 (fnQ f9 (fnQ f17
  (fnQ f33 (fnQ f65 (fnQ f129 (flQ f257) .nil) (flQ f193)) (fnQ f97 (fnQ f161 (flQ f289) .nil) (flQ f225))) (fnQ f49 (fnQ f81 (fnQ f145 (flQ f273) .nil) (flQ f209)) (fnQ f113 (flQ
  f177) (flQ f241)))) (fnQ f25 (fnQ f41 (fnQ f73 (fnQ f137 (flQ f265) .nil) (fnQ f201 (flQ f329) .nil)) (fnQ f105 (fnQ f169 (flQ f297) .nil) (flQ f233))) (fnQ f57 (fnQ f89 (fnQ
  f153 (flQ f281) .nil) (flQ f217)) (fnQ f121 (flQ f185) (flQ f249))))) (fnQ f13 (fnQ f21 (fnQ f37 (fnQ f69 (fnQ f133 (flQ f261) .nil) (flQ f197)) (fnQ f101 (fnQ f165 (flQ f293)
  .nil) (flQ f229))) (fnQ f53 (fnQ f85 (fnQ f149 (flQ f277) .nil) (flQ f213)) (fnQ f117 (flQ f181) (flQ f245)))) (fnQ f29 (fnQ f45 (fnQ f77 (fnQ f141 (flQ f269) .nil) (flQ f205))
  (fnQ f109 (flQ f173) (flQ f237))) (fnQ f61 (fnQ f93 (fnQ f157 (flQ f285) .nil) (flQ f221)) (fnQ f125 (flQ f189) (flQ f253))))))) (fnQ f2 (fnQ f4 (fnQ f8 (fnQ f16 (fnQ f32 (fnQ
  f64 (fnQ f128 (flQ f256) .nil) (flQ f192)) (fnQ f96 (fnQ f160 (flQ f288) .nil) (flQ f224))) (fnQ f48 (fnQ f80 (fnQ f144 (flQ f272) .nil) (flQ f208)) (fnQ f112 (flQ f176) (flQ
  f240)))) (fnQ f24 (fnQ f40 (fnQ f72 (fnQ f136 (flQ f264) .nil) (flQ f200)) (fnQ f104 (fnQ f168 (flQ f296) .nil) (flQ f232))) (fnQ f56 (fnQ f88 (fnQ f152 (flQ f280) .nil) (flQ
  f216)) (fnQ f120 (flQ f184) (flQ f248))))) (fnQ f12 (fnQ f20 (fnQ f36 (fnQ f68 (flQ f132) .nil) (fnQ f100 (fnQ f164 (flQ f292) .nil) (flQ f228))) (fnQ f52 (fnQ f84 (fnQ f148 (flQ
  f276) .nil) (flQ f212)) (fnQ f116 (flQ f180) (flQ f244)))) (fnQ f28 (fnQ f44 (fnQ f76 (fnQ f140 (flQ f268) .nil) (flQ f204)) (fnQ f108 (flQ f172) (flQ f236))) (fnQ f60 (fnQ f92
  (fnQ f156 (flQ f284) .nil) (flQ f220)) (fnQ f124 (flQ f188) (flQ f252)))))) (fnQ f6 (fnQ f10 (fnQ f18 (fnQ f34 (fnQ f66 (fnQ f130 (flQ f258) .nil) (flQ f194)) (fnQ f98 (fnQ f162
  (flQ f290) .nil) (flQ f226))) (fnQ f50 (fnQ f82 (fnQ f146 (flQ f274) .nil) (flQ f210)) (fnQ f114 (flQ f178) (flQ f242)))) (fnQ f26 (fnQ f42 (fnQ f74 (fnQ f138 (flQ f266) .nil)
  (flQ f202)) (fnQ f106 (flQ f170) (flQ f234))) (fnQ f58 (fnQ f90 (fnQ f154 (flQ f282) .nil) (flQ f218)) (fnQ f122 (flQ f186) (flQ f250))))) (fnQ f14 (fnQ f22 (fnQ f38 (fnQ f70
  (fnQ f134 (flQ f262) .nil) (flQ f198)) (fnQ f102 (fnQ f166 (flQ f294) .nil) (flQ f230))) (fnQ f54 (fnQ f86 (fnQ f150 (flQ f278) .nil) (flQ f214)) (fnQ f118 (flQ f182) (flQ
  f246)))) (fnQ f30 (fnQ f46 (fnQ f78 (fnQ f142 (flQ f270) .nil) (flQ f206)) (fnQ f110 (flQ f174) (flQ f238))) (fnQ f62 (fnQ f94 (fnQ f158 (flQ f286) .nil) (flQ f222)) (fnQ f126
  (flQ f190) (flQ f254))))))))
end
noncomputable def tab : Tab := ⟨tyTab, fnTab⟩
/-- Of every entry of a tree, with its number. -/
def TbAll {α : Type} (p : Nat → α → Prop) : (Nat → Nat) → Tb α → Prop
  | _, .nil => True
  | f, .node v l r => (∀ e, v = some e → p (f 0) e) ∧ TbAll p (fun i => f (2 * i + 1)) l ∧ TbAll p (fun i => f (2 * i + 2)) r
theorem TbAll.get {α : Type} {p : Nat → α → Prop} : ∀ {t : Tb α} {f : Nat → Nat}, TbAll p f t → ∀ i e, t.get i = some e → p (f i) e
  | .nil, f, h, i, e, he => by cases i <;> cases he
  | .node v l r, f, h, i, e, he => by
    unfold Tb.get at he
    by_cases h0 : i = 0
    · subst h0
      simp only [beqT (rfl : (0 : Nat) = 0), cond_true] at he
      exact h.1 e he
    · rw [beqF h0, cond_false] at he
      rcases Nat.mod_two_eq_zero_or_one i with h2 | h2
      · rw [beqF (by omega), cond_false] at he
        have := TbAll.get h.2.2 _ e he
        rwa [show 2 * (i / 2 - 1) + 2 = i by omega] at this
      · rw [beqT h2, cond_true] at he
        have := TbAll.get h.2.1 _ e he
        rwa [show 2 * (i / 2) + 1 = i by omega] at this
theorem some_all {α : Type} {q : α → Prop} {a : α} (h : q a) : ∀ e, some a = some e → q e := fun e he => by cases he; exact h
theorem none_all {α : Type} {q : α → Prop} : ∀ e, none = some e → q e := fun e he => by cases he
theorem info_of {P : Program} {t : TypeId} {i : TypeInfo} (h : P.types[t]? = some i) : P.info? t = some i := by
  have : t < P.types.size := (Array.getElem?_eq_some_iff.1 h).1
  simp only [Tables.info?, this, if_true, h]
def TyOK (P : Program) (t : Nat) (e : TE) : Prop := P.info? t = some e.i ∧ P.underlying t = some e.u ∧ (aggD (some e.u) = true → P.eqGuardType P.depth t = e.guard) ∧ ((structD (some e.u)).isSome = true → P.stoodInHeld t = e.stood)
def FnOK (P : Program) (f : Nat) (fn : Func) : Prop := P.funcs[f]? = some fn ∧ fn.name ≠ "runtime.NumGoroutine"
theorem txQ {P : Program} {t : Nat} {i : TypeInfo} {d : TypeDesc} {b c : Bool} (h : P.types[t]? = some i) (u : P.underlying t = some d) (a : P.eqGuardType P.depth t = b) (s : P.stoodInHeld t = c) : ∀ e, some (TE.mk i d b c) = some e → TyOK P t e :=
  some_all ⟨info_of h, u, fun _ => a, fun _ => s⟩
theorem tzQ {P : Program} {t : Nat} {i : TypeInfo} {d : TypeDesc} {b c : Bool} (h : P.types[t]? = some i) (u : P.underlying t = some d) (a : P.eqGuardType P.depth t = b) (s : (structD (some d)).isSome = false) : ∀ e, some (TE.mk i d b c) = some e → TyOK P t e :=
  some_all ⟨info_of h, u, fun _ => a, fun e => absurd (s.symm.trans e) Bool.false_ne_true⟩
theorem tyQ {P : Program} {t : Nat} {i d : TypeInfo} (h : P.types[t]? = some i) (u : P.underlying t = some d.desc) (a : aggD (some d.desc) = false) (s : (structD (some d.desc)).isSome = false) : ∀ e, some (te i d) = some e → TyOK P t e :=
  some_all ⟨info_of h, u, fun e => absurd (a.symm.trans e) Bool.false_ne_true, fun e => absurd (s.symm.trans e) Bool.false_ne_true⟩
theorem tfQ {P : Program} {f : Nat} {n : Func} (h : P.funcs[f]? = some n) (hn : n.name ≠ "runtime.NumGoroutine" := by decide) : ∀ e, some n = some e → FnOK P f e := some_all ⟨h, hn⟩
theorem ttQ : True ∧ True := ⟨trivial, trivial⟩
section
open Tryz
theorem tyAll : TbAll (TyOK prog) (fun i => i) tyTab :=
  ⟨tyQ type0 underlying0 rfl rfl, ⟨tyQ type1 underlying1 rfl rfl, ⟨tyQ type3 underlying3 rfl rfl, ⟨txQ type7 underlying7 eqGuardType7 stoodInHeld7, ⟨tyQ type15 underlying15 rfl
  rfl, ⟨txQ type31 underlying31 eqGuardType31 stoodInHeld31, ⟨tyQ type63 underlying63 rfl rfl, ⟨tyQ type127 underlying127 rfl rfl, ⟨tyQ type255 underlying255 rfl rfl, ttQ⟩,
  trivial⟩, ⟨tyQ type191 underlying191 rfl rfl, ⟨tyQ type319 underlying319 rfl rfl, ttQ⟩, trivial⟩⟩, ⟨tyQ type95 underlying95 rfl rfl, ⟨tyQ type159 underlying159 rfl rfl, ⟨tyQ
  type287 underlying287 rfl rfl, ttQ⟩, trivial⟩, ⟨tyQ type223 underlying223 rfl rfl, ⟨tyQ type351 underlying351 rfl rfl, ttQ⟩, trivial⟩⟩⟩, ⟨txQ type47 underlying47 eqGuardType47
  stoodInHeld47, ⟨tyQ type79 underlying79 rfl rfl, ⟨tzQ type143 underlying143 eqGuardType143 rfl, ⟨tyQ type271 underlying271 rfl rfl, ttQ⟩, trivial⟩, ⟨tyQ type207 underlying207 rfl
  rfl, ⟨tyQ type335 underlying335 rfl rfl, ttQ⟩, trivial⟩⟩, ⟨tyQ type111 underlying111 rfl rfl, ⟨tyQ type175 underlying175 rfl rfl, ⟨tyQ type303 underlying303 rfl rfl, ttQ⟩,
  trivial⟩, ⟨tyQ type239 underlying239 rfl rfl, ttQ⟩⟩⟩⟩, ⟨txQ type23 underlying23 eqGuardType23 stoodInHeld23, ⟨tyQ type39 underlying39 rfl rfl, ⟨tyQ type71 underlying71 rfl rfl,
  ⟨tyQ type135 underlying135 rfl rfl, ⟨tyQ type263 underlying263 rfl rfl, ttQ⟩, trivial⟩, ⟨tyQ type199 underlying199 rfl rfl, ⟨tzQ type327 underlying327 eqGuardType327 rfl, ttQ⟩,
  trivial⟩⟩, ⟨tyQ type103 underlying103 rfl rfl, ⟨txQ type167 underlying167 eqGuardType167 stoodInHeld167, ⟨tyQ type295 underlying295 rfl rfl, ttQ⟩, trivial⟩, ⟨tyQ type231
  underlying231 rfl rfl, ttQ⟩⟩⟩, ⟨tyQ type55 underlying55 rfl rfl, ⟨tyQ type87 underlying87 rfl rfl, ⟨tyQ type151 underlying151 rfl rfl, ⟨tyQ type279 underlying279 rfl rfl, ttQ⟩,
  trivial⟩, ⟨tyQ type215 underlying215 rfl rfl, ⟨tzQ type343 underlying343 eqGuardType343 rfl, ttQ⟩, trivial⟩⟩, ⟨tyQ type119 underlying119 rfl rfl, ⟨tyQ type183 underlying183 rfl
  rfl, ⟨tyQ type311 underlying311 rfl rfl, ttQ⟩, trivial⟩, ⟨tyQ type247 underlying247 rfl rfl, ttQ⟩⟩⟩⟩⟩, ⟨tyQ type11 underlying11 rfl rfl, ⟨txQ type19 underlying19 eqGuardType19
  stoodInHeld19, ⟨tyQ type35 underlying35 rfl rfl, ⟨tyQ type67 underlying67 rfl rfl, ⟨tyQ type131 underlying131 rfl rfl, ⟨tyQ type259 underlying259 rfl rfl, ttQ⟩, trivial⟩, ⟨tyQ
  type195 underlying195 rfl rfl, ⟨tyQ type323 underlying323 rfl rfl, ttQ⟩, trivial⟩⟩, ⟨tyQ type99 underlying99 rfl rfl, ⟨tyQ type163 underlying163 rfl rfl, ⟨tyQ type291
  underlying291 rfl rfl, ttQ⟩, trivial⟩, ⟨tyQ type227 underlying227 rfl rfl, ttQ⟩⟩⟩, ⟨tyQ type51 underlying51 rfl rfl, ⟨tyQ type83 underlying83 rfl rfl, ⟨tyQ type147 underlying147
  rfl rfl, ⟨tyQ type275 underlying275 rfl rfl, ttQ⟩, trivial⟩, ⟨tzQ type211 underlying211 eqGuardType211 rfl, ⟨tzQ type339 underlying339 eqGuardType339 rfl, ttQ⟩, trivial⟩⟩, ⟨tyQ
  type115 underlying115 rfl rfl, ⟨tyQ type179 underlying179 rfl rfl, ⟨tyQ type307 underlying307 rfl rfl, ttQ⟩, trivial⟩, ⟨tyQ type243 underlying243 rfl rfl, ttQ⟩⟩⟩⟩, ⟨tyQ type27
  underlying27 rfl rfl, ⟨txQ type43 underlying43 eqGuardType43 stoodInHeld43, ⟨tyQ type75 underlying75 rfl rfl, ⟨tyQ type139 underlying139 rfl rfl, ⟨tzQ type267 underlying267
  eqGuardType267 rfl, ttQ⟩, trivial⟩, ⟨tyQ type203 underlying203 rfl rfl, ⟨tzQ type331 underlying331 eqGuardType331 rfl, ttQ⟩, trivial⟩⟩, ⟨tyQ type107 underlying107 rfl rfl, ⟨tyQ
  type171 underlying171 rfl rfl, ⟨tyQ type299 underlying299 rfl rfl, ttQ⟩, trivial⟩, ⟨tyQ type235 underlying235 rfl rfl, ttQ⟩⟩⟩, ⟨tyQ type59 underlying59 rfl rfl, ⟨tyQ type91
  underlying91 rfl rfl, ⟨tyQ type155 underlying155 rfl rfl, ⟨tyQ type283 underlying283 rfl rfl, ttQ⟩, trivial⟩, ⟨tyQ type219 underlying219 rfl rfl, ⟨tyQ type347 underlying347 rfl
  rfl, ttQ⟩, trivial⟩⟩, ⟨tyQ type123 underlying123 rfl rfl, ⟨tyQ type187 underlying187 rfl rfl, ⟨txQ type315 underlying315 eqGuardType315 stoodInHeld315, ttQ⟩, trivial⟩, ⟨tzQ
  type251 underlying251 eqGuardType251 rfl, ttQ⟩⟩⟩⟩⟩⟩, ⟨tyQ type5 underlying5 rfl rfl, ⟨tyQ type9 underlying9 rfl rfl, ⟨tyQ type17 underlying17 rfl rfl, ⟨txQ type33 underlying33
  eqGuardType33 stoodInHeld33, ⟨tyQ type65 underlying65 rfl rfl, ⟨tyQ type129 underlying129 rfl rfl, ⟨tyQ type257 underlying257 rfl rfl, ttQ⟩, trivial⟩, ⟨tyQ type193 underlying193
  rfl rfl, ⟨txQ type321 underlying321 eqGuardType321 stoodInHeld321, ttQ⟩, trivial⟩⟩, ⟨tyQ type97 underlying97 rfl rfl, ⟨tyQ type161 underlying161 rfl rfl, ⟨tyQ type289
  underlying289 rfl rfl, ttQ⟩, trivial⟩, ⟨txQ type225 underlying225 eqGuardType225 stoodInHeld225, ⟨txQ type353 underlying353 eqGuardType353 stoodInHeld353, ttQ⟩, trivial⟩⟩⟩, ⟨tyQ
  type49 underlying49 rfl rfl, ⟨tyQ type81 underlying81 rfl rfl, ⟨tyQ type145 underlying145 rfl rfl, ⟨tzQ type273 underlying273 eqGuardType273 rfl, ttQ⟩, trivial⟩, ⟨tzQ type209
  underlying209 eqGuardType209 rfl, ⟨tzQ type337 underlying337 eqGuardType337 rfl, ttQ⟩, trivial⟩⟩, ⟨tyQ type113 underlying113 rfl rfl, ⟨tyQ type177 underlying177 rfl rfl, ⟨tyQ
  type305 underlying305 rfl rfl, ttQ⟩, trivial⟩, ⟨tyQ type241 underlying241 rfl rfl, ttQ⟩⟩⟩⟩, ⟨txQ type25 underlying25 eqGuardType25 stoodInHeld25, ⟨tyQ type41 underlying41 rfl
  rfl, ⟨tyQ type73 underlying73 rfl rfl, ⟨tyQ type137 underlying137 rfl rfl, ⟨tyQ type265 underlying265 rfl rfl, ttQ⟩, trivial⟩, ⟨tyQ type201 underlying201 rfl rfl, ⟨txQ type329
  underlying329 eqGuardType329 stoodInHeld329, ttQ⟩, trivial⟩⟩, ⟨txQ type105 underlying105 eqGuardType105 stoodInHeld105, ⟨tzQ type169 underlying169 eqGuardType169 rfl, ⟨tyQ
  type297 underlying297 rfl rfl, ttQ⟩, trivial⟩, ⟨tyQ type233 underlying233 rfl rfl, ttQ⟩⟩⟩, ⟨tyQ type57 underlying57 rfl rfl, ⟨tyQ type89 underlying89 rfl rfl, ⟨tyQ type153
  underlying153 rfl rfl, ⟨tyQ type281 underlying281 rfl rfl, ttQ⟩, trivial⟩, ⟨tyQ type217 underlying217 rfl rfl, ⟨txQ type345 underlying345 eqGuardType345 stoodInHeld345, ttQ⟩,
  trivial⟩⟩, ⟨tyQ type121 underlying121 rfl rfl, ⟨tyQ type185 underlying185 rfl rfl, ⟨tyQ type313 underlying313 rfl rfl, ttQ⟩, trivial⟩, ⟨tyQ type249 underlying249 rfl rfl,
  ttQ⟩⟩⟩⟩⟩, ⟨txQ type13 underlying13 eqGuardType13 stoodInHeld13, ⟨tyQ type21 underlying21 rfl rfl, ⟨tyQ type37 underlying37 rfl rfl, ⟨tyQ type69 underlying69 rfl rfl, ⟨tyQ type133
  underlying133 rfl rfl, ⟨tyQ type261 underlying261 rfl rfl, ttQ⟩, trivial⟩, ⟨tyQ type197 underlying197 rfl rfl, ⟨tyQ type325 underlying325 rfl rfl, ttQ⟩, trivial⟩⟩, ⟨tyQ type101
  underlying101 rfl rfl, ⟨tyQ type165 underlying165 rfl rfl, ⟨txQ type293 underlying293 eqGuardType293 stoodInHeld293, ttQ⟩, trivial⟩, ⟨tyQ type229 underlying229 rfl rfl, ttQ⟩⟩⟩,
  ⟨tyQ type53 underlying53 rfl rfl, ⟨txQ type85 underlying85 eqGuardType85 stoodInHeld85, ⟨tyQ type149 underlying149 rfl rfl, ⟨tzQ type277 underlying277 eqGuardType277 rfl, ttQ⟩,
  trivial⟩, ⟨tyQ type213 underlying213 rfl rfl, ⟨txQ type341 underlying341 eqGuardType341 stoodInHeld341, ttQ⟩, trivial⟩⟩, ⟨tyQ type117 underlying117 rfl rfl, ⟨tyQ type181
  underlying181 rfl rfl, ⟨tyQ type309 underlying309 rfl rfl, ttQ⟩, trivial⟩, ⟨tyQ type245 underlying245 rfl rfl, ttQ⟩⟩⟩⟩, ⟨txQ type29 underlying29 eqGuardType29 stoodInHeld29, ⟨tyQ
  type45 underlying45 rfl rfl, ⟨tyQ type77 underlying77 rfl rfl, ⟨tyQ type141 underlying141 rfl rfl, ⟨tyQ type269 underlying269 rfl rfl, ttQ⟩, trivial⟩, ⟨tyQ type205 underlying205
  rfl rfl, ⟨tyQ type333 underlying333 rfl rfl, ttQ⟩, trivial⟩⟩, ⟨tyQ type109 underlying109 rfl rfl, ⟨tyQ type173 underlying173 rfl rfl, ⟨txQ type301 underlying301 eqGuardType301
  stoodInHeld301, ttQ⟩, trivial⟩, ⟨tyQ type237 underlying237 rfl rfl, ttQ⟩⟩⟩, ⟨txQ type61 underlying61 eqGuardType61 stoodInHeld61, ⟨tyQ type93 underlying93 rfl rfl, ⟨tyQ type157
  underlying157 rfl rfl, ⟨tyQ type285 underlying285 rfl rfl, ttQ⟩, trivial⟩, ⟨tyQ type221 underlying221 rfl rfl, ⟨tyQ type349 underlying349 rfl rfl, ttQ⟩, trivial⟩⟩, ⟨tyQ type125
  underlying125 rfl rfl, ⟨tyQ type189 underlying189 rfl rfl, ⟨tyQ type317 underlying317 rfl rfl, ttQ⟩, trivial⟩, ⟨tyQ type253 underlying253 rfl rfl, ttQ⟩⟩⟩⟩⟩⟩⟩, ⟨tyQ type2
  underlying2 rfl rfl, ⟨tyQ type4 underlying4 rfl rfl, ⟨txQ type8 underlying8 eqGuardType8 stoodInHeld8, ⟨tyQ type16 underlying16 rfl rfl, ⟨txQ type32 underlying32 eqGuardType32
  stoodInHeld32, ⟨tyQ type64 underlying64 rfl rfl, ⟨tyQ type128 underlying128 rfl rfl, ⟨tyQ type256 underlying256 rfl rfl, ttQ⟩, trivial⟩, ⟨tyQ type192 underlying192 rfl rfl, ⟨txQ
  type320 underlying320 eqGuardType320 stoodInHeld320, ttQ⟩, trivial⟩⟩, ⟨tyQ type96 underlying96 rfl rfl, ⟨tyQ type160 underlying160 rfl rfl, ⟨tyQ type288 underlying288 rfl rfl,
  ttQ⟩, trivial⟩, ⟨txQ type224 underlying224 eqGuardType224 stoodInHeld224, ⟨txQ type352 underlying352 eqGuardType352 stoodInHeld352, ttQ⟩, trivial⟩⟩⟩, ⟨tyQ type48 underlying48 rfl
  rfl, ⟨tyQ type80 underlying80 rfl rfl, ⟨tyQ type144 underlying144 rfl rfl, ⟨tyQ type272 underlying272 rfl rfl, ttQ⟩, trivial⟩, ⟨tyQ type208 underlying208 rfl rfl, ⟨tzQ type336
  underlying336 eqGuardType336 rfl, ttQ⟩, trivial⟩⟩, ⟨tyQ type112 underlying112 rfl rfl, ⟨tyQ type176 underlying176 rfl rfl, ⟨tyQ type304 underlying304 rfl rfl, ttQ⟩, trivial⟩,
  ⟨tyQ type240 underlying240 rfl rfl, ttQ⟩⟩⟩⟩, ⟨txQ type24 underlying24 eqGuardType24 stoodInHeld24, ⟨tyQ type40 underlying40 rfl rfl, ⟨tyQ type72 underlying72 rfl rfl, ⟨tyQ
  type136 underlying136 rfl rfl, ⟨tyQ type264 underlying264 rfl rfl, ttQ⟩, trivial⟩, ⟨tyQ type200 underlying200 rfl rfl, ⟨txQ type328 underlying328 eqGuardType328 stoodInHeld328,
  ttQ⟩, trivial⟩⟩, ⟨txQ type104 underlying104 eqGuardType104 stoodInHeld104, ⟨txQ type168 underlying168 eqGuardType168 stoodInHeld168, ⟨tyQ type296 underlying296 rfl rfl, ttQ⟩,
  trivial⟩, ⟨tyQ type232 underlying232 rfl rfl, ttQ⟩⟩⟩, ⟨tyQ type56 underlying56 rfl rfl, ⟨tyQ type88 underlying88 rfl rfl, ⟨tyQ type152 underlying152 rfl rfl, ⟨tyQ type280
  underlying280 rfl rfl, ttQ⟩, trivial⟩, ⟨tyQ type216 underlying216 rfl rfl, ⟨txQ type344 underlying344 eqGuardType344 stoodInHeld344, ttQ⟩, trivial⟩⟩, ⟨tyQ type120 underlying120
  rfl rfl, ⟨tyQ type184 underlying184 rfl rfl, ⟨tyQ type312 underlying312 rfl rfl, ttQ⟩, trivial⟩, ⟨tyQ type248 underlying248 rfl rfl, ttQ⟩⟩⟩⟩⟩, ⟨tyQ type12 underlying12 rfl rfl,
  ⟨tyQ type20 underlying20 rfl rfl, ⟨tyQ type36 underlying36 rfl rfl, ⟨tyQ type68 underlying68 rfl rfl, ⟨tyQ type132 underlying132 rfl rfl, ⟨tyQ type260 underlying260 rfl rfl,
  ttQ⟩, trivial⟩, ⟨tyQ type196 underlying196 rfl rfl, ⟨tyQ type324 underlying324 rfl rfl, ttQ⟩, trivial⟩⟩, ⟨tyQ type100 underlying100 rfl rfl, ⟨tyQ type164 underlying164 rfl rfl,
  ⟨txQ type292 underlying292 eqGuardType292 stoodInHeld292, ttQ⟩, trivial⟩, ⟨tyQ type228 underlying228 rfl rfl, ttQ⟩⟩⟩, ⟨tyQ type52 underlying52 rfl rfl, ⟨tyQ type84 underlying84
  rfl rfl, ⟨tyQ type148 underlying148 rfl rfl, ⟨tyQ type276 underlying276 rfl rfl, ttQ⟩, trivial⟩, ⟨tyQ type212 underlying212 rfl rfl, ⟨tyQ type340 underlying340 rfl rfl, ttQ⟩,
  trivial⟩⟩, ⟨tyQ type116 underlying116 rfl rfl, ⟨tyQ type180 underlying180 rfl rfl, ⟨tyQ type308 underlying308 rfl rfl, ttQ⟩, trivial⟩, ⟨tyQ type244 underlying244 rfl rfl,
  ttQ⟩⟩⟩⟩, ⟨txQ type28 underlying28 eqGuardType28 stoodInHeld28, ⟨txQ type44 underlying44 eqGuardType44 stoodInHeld44, ⟨tyQ type76 underlying76 rfl rfl, ⟨tyQ type140 underlying140
  rfl rfl, ⟨tzQ type268 underlying268 eqGuardType268 rfl, ttQ⟩, trivial⟩, ⟨tyQ type204 underlying204 rfl rfl, ⟨tyQ type332 underlying332 rfl rfl, ttQ⟩, trivial⟩⟩, ⟨tyQ type108
  underlying108 rfl rfl, ⟨tyQ type172 underlying172 rfl rfl, ⟨txQ type300 underlying300 eqGuardType300 stoodInHeld300, ttQ⟩, trivial⟩, ⟨tyQ type236 underlying236 rfl rfl, ttQ⟩⟩⟩,
  ⟨tyQ type60 underlying60 rfl rfl, ⟨tyQ type92 underlying92 rfl rfl, ⟨tyQ type156 underlying156 rfl rfl, ⟨tyQ type284 underlying284 rfl rfl, ttQ⟩, trivial⟩, ⟨tzQ type220
  underlying220 eqGuardType220 rfl, ⟨tyQ type348 underlying348 rfl rfl, ttQ⟩, trivial⟩⟩, ⟨tyQ type124 underlying124 rfl rfl, ⟨tyQ type188 underlying188 rfl rfl, ⟨tyQ type316
  underlying316 rfl rfl, ttQ⟩, trivial⟩, ⟨tyQ type252 underlying252 rfl rfl, ttQ⟩⟩⟩⟩⟩⟩, ⟨tyQ type6 underlying6 rfl rfl, ⟨tyQ type10 underlying10 rfl rfl, ⟨txQ type18 underlying18
  eqGuardType18 stoodInHeld18, ⟨txQ type34 underlying34 eqGuardType34 stoodInHeld34, ⟨tyQ type66 underlying66 rfl rfl, ⟨tyQ type130 underlying130 rfl rfl, ⟨tyQ type258
  underlying258 rfl rfl, ttQ⟩, trivial⟩, ⟨tyQ type194 underlying194 rfl rfl, ⟨tyQ type322 underlying322 rfl rfl, ttQ⟩, trivial⟩⟩, ⟨tyQ type98 underlying98 rfl rfl, ⟨tyQ type162
  underlying162 rfl rfl, ⟨tyQ type290 underlying290 rfl rfl, ttQ⟩, trivial⟩, ⟨tyQ type226 underlying226 rfl rfl, ⟨tyQ type354 underlying354 rfl rfl, ttQ⟩, trivial⟩⟩⟩, ⟨tyQ type50
  underlying50 rfl rfl, ⟨tyQ type82 underlying82 rfl rfl, ⟨tyQ type146 underlying146 rfl rfl, ⟨tzQ type274 underlying274 eqGuardType274 rfl, ttQ⟩, trivial⟩, ⟨tyQ type210
  underlying210 rfl rfl, ⟨tzQ type338 underlying338 eqGuardType338 rfl, ttQ⟩, trivial⟩⟩, ⟨tyQ type114 underlying114 rfl rfl, ⟨tyQ type178 underlying178 rfl rfl, ⟨tyQ type306
  underlying306 rfl rfl, ttQ⟩, trivial⟩, ⟨tyQ type242 underlying242 rfl rfl, ttQ⟩⟩⟩⟩, ⟨txQ type26 underlying26 eqGuardType26 stoodInHeld26, ⟨tyQ type42 underlying42 rfl rfl, ⟨tyQ
  type74 underlying74 rfl rfl, ⟨tyQ type138 underlying138 rfl rfl, ⟨tyQ type266 underlying266 rfl rfl, ttQ⟩, trivial⟩, ⟨tyQ type202 underlying202 rfl rfl, ⟨tzQ type330
  underlying330 eqGuardType330 rfl, ttQ⟩, trivial⟩⟩, ⟨tyQ type106 underlying106 rfl rfl, ⟨tyQ type170 underlying170 rfl rfl, ⟨tyQ type298 underlying298 rfl rfl, ttQ⟩, trivial⟩,
  ⟨tyQ type234 underlying234 rfl rfl, ttQ⟩⟩⟩, ⟨tyQ type58 underlying58 rfl rfl, ⟨tyQ type90 underlying90 rfl rfl, ⟨tyQ type154 underlying154 rfl rfl, ⟨tyQ type282 underlying282 rfl
  rfl, ttQ⟩, trivial⟩, ⟨tyQ type218 underlying218 rfl rfl, ⟨tyQ type346 underlying346 rfl rfl, ttQ⟩, trivial⟩⟩, ⟨tyQ type122 underlying122 rfl rfl, ⟨tyQ type186 underlying186 rfl
  rfl, ⟨tyQ type314 underlying314 rfl rfl, ttQ⟩, trivial⟩, ⟨tyQ type250 underlying250 rfl rfl, ttQ⟩⟩⟩⟩⟩, ⟨txQ type14 underlying14 eqGuardType14 stoodInHeld14, ⟨tyQ type22
  underlying22 rfl rfl, ⟨tyQ type38 underlying38 rfl rfl, ⟨tyQ type70 underlying70 rfl rfl, ⟨tyQ type134 underlying134 rfl rfl, ⟨tyQ type262 underlying262 rfl rfl, ttQ⟩, trivial⟩,
  ⟨tyQ type198 underlying198 rfl rfl, ⟨tyQ type326 underlying326 rfl rfl, ttQ⟩, trivial⟩⟩, ⟨tyQ type102 underlying102 rfl rfl, ⟨tyQ type166 underlying166 rfl rfl, ⟨tzQ type294
  underlying294 eqGuardType294 rfl, ttQ⟩, trivial⟩, ⟨tyQ type230 underlying230 rfl rfl, ttQ⟩⟩⟩, ⟨tyQ type54 underlying54 rfl rfl, ⟨txQ type86 underlying86 eqGuardType86
  stoodInHeld86, ⟨tyQ type150 underlying150 rfl rfl, ⟨tyQ type278 underlying278 rfl rfl, ttQ⟩, trivial⟩, ⟨tyQ type214 underlying214 rfl rfl, ⟨txQ type342 underlying342
  eqGuardType342 stoodInHeld342, ttQ⟩, trivial⟩⟩, ⟨tyQ type118 underlying118 rfl rfl, ⟨tyQ type182 underlying182 rfl rfl, ⟨tyQ type310 underlying310 rfl rfl, ttQ⟩, trivial⟩, ⟨tyQ
  type246 underlying246 rfl rfl, ttQ⟩⟩⟩⟩, ⟨tzQ type30 underlying30 eqGuardType30 rfl, ⟨txQ type46 underlying46 eqGuardType46 stoodInHeld46, ⟨tyQ type78 underlying78 rfl rfl, ⟨tyQ
  type142 underlying142 rfl rfl, ⟨tyQ type270 underlying270 rfl rfl, ttQ⟩, trivial⟩, ⟨tyQ type206 underlying206 rfl rfl, ⟨tyQ type334 underlying334 rfl rfl, ttQ⟩, trivial⟩⟩, ⟨tyQ
  type110 underlying110 rfl rfl, ⟨tyQ type174 underlying174 rfl rfl, ⟨tyQ type302 underlying302 rfl rfl, ttQ⟩, trivial⟩, ⟨tyQ type238 underlying238 rfl rfl, ttQ⟩⟩⟩, ⟨txQ type62
  underlying62 eqGuardType62 stoodInHeld62, ⟨tyQ type94 underlying94 rfl rfl, ⟨tyQ type158 underlying158 rfl rfl, ⟨tyQ type286 underlying286 rfl rfl, ttQ⟩, trivial⟩, ⟨tyQ type222
  underlying222 rfl rfl, ⟨tyQ type350 underlying350 rfl rfl, ttQ⟩, trivial⟩⟩, ⟨tyQ type126 underlying126 rfl rfl, ⟨tyQ type190 underlying190 rfl rfl, ⟨tyQ type318 underlying318 rfl
  rfl, ttQ⟩, trivial⟩, ⟨tyQ type254 underlying254 rfl rfl, ttQ⟩⟩⟩⟩⟩⟩⟩⟩
theorem fnAll : TbAll (FnOK prog) (fun i => i) fnTab :=
  ⟨none_all, ⟨none_all, ⟨tfQ func3, ⟨tfQ func7, ⟨tfQ func15, ⟨tfQ func31, ⟨tfQ func63, ⟨tfQ func127, ⟨tfQ func255, ttQ⟩, trivial⟩, ⟨tfQ func191, ttQ⟩⟩, ⟨tfQ func95, ⟨tfQ func159,
  ⟨tfQ func287, ttQ⟩, trivial⟩, ⟨tfQ func223, ttQ⟩⟩⟩, ⟨tfQ func47, ⟨tfQ func79, ⟨tfQ func143, ⟨tfQ func271, ttQ⟩, trivial⟩, ⟨tfQ func207, ttQ⟩⟩, ⟨tfQ func111, ⟨tfQ func175, ttQ⟩,
  ⟨tfQ func239, ttQ⟩⟩⟩⟩, ⟨tfQ func23, ⟨tfQ func39, ⟨tfQ func71, ⟨tfQ func135, ⟨tfQ func263, ttQ⟩, trivial⟩, ⟨tfQ func199, ttQ⟩⟩, ⟨tfQ func103, ⟨tfQ func167, ⟨tfQ func295, ttQ⟩,
  trivial⟩, ⟨tfQ func231, ttQ⟩⟩⟩, ⟨tfQ func55, ⟨tfQ func87, ⟨tfQ func151, ⟨tfQ func279, ttQ⟩, trivial⟩, ⟨tfQ func215, ttQ⟩⟩, ⟨tfQ func119, ⟨tfQ func183, ttQ⟩, ⟨tfQ func247,
  ttQ⟩⟩⟩⟩⟩, ⟨tfQ func11, ⟨tfQ func19, ⟨tfQ func35, ⟨tfQ func67, ⟨tfQ func131, ⟨tfQ func259, ttQ⟩, trivial⟩, ⟨tfQ func195, ttQ⟩⟩, ⟨tfQ func99, ⟨tfQ func163, ⟨tfQ func291, ttQ⟩,
  trivial⟩, ⟨tfQ func227, ttQ⟩⟩⟩, ⟨tfQ func51, ⟨tfQ func83, ⟨tfQ func147, ⟨tfQ func275, ttQ⟩, trivial⟩, ⟨tfQ func211, ttQ⟩⟩, ⟨tfQ func115, ⟨tfQ func179, ttQ⟩, ⟨tfQ func243,
  ttQ⟩⟩⟩⟩, ⟨tfQ func27, ⟨tfQ func43, ⟨tfQ func75, ⟨tfQ func139, ⟨tfQ func267, ttQ⟩, trivial⟩, ⟨tfQ func203, ttQ⟩⟩, ⟨tfQ func107, ⟨tfQ func171, ttQ⟩, ⟨tfQ func235, ttQ⟩⟩⟩, ⟨tfQ
  func59, ⟨tfQ func91, ⟨tfQ func155, ⟨tfQ func283, ttQ⟩, trivial⟩, ⟨tfQ func219, ttQ⟩⟩, ⟨tfQ func123, ⟨tfQ func187, ttQ⟩, trivial⟩⟩⟩⟩⟩, ⟨tfQ func5, ⟨tfQ func9, ⟨tfQ func17, ⟨tfQ
  func33, ⟨tfQ func65, ⟨tfQ func129, ⟨tfQ func257, ttQ⟩, trivial⟩, ⟨tfQ func193, ttQ⟩⟩, ⟨tfQ func97, ⟨tfQ func161, ⟨tfQ func289, ttQ⟩, trivial⟩, ⟨tfQ func225, ttQ⟩⟩⟩, ⟨tfQ func49,
  ⟨tfQ func81, ⟨tfQ func145, ⟨tfQ func273, ttQ⟩, trivial⟩, ⟨tfQ func209, ttQ⟩⟩, ⟨tfQ func113, ⟨tfQ func177, ttQ⟩, ⟨tfQ func241, ttQ⟩⟩⟩⟩, ⟨tfQ func25, ⟨tfQ func41, ⟨tfQ func73, ⟨tfQ
  func137, ⟨tfQ func265, ttQ⟩, trivial⟩, ⟨tfQ func201, ⟨tfQ func329, ttQ⟩, trivial⟩⟩, ⟨tfQ func105, ⟨tfQ func169, ⟨tfQ func297, ttQ⟩, trivial⟩, ⟨tfQ func233, ttQ⟩⟩⟩, ⟨tfQ func57,
  ⟨tfQ func89, ⟨tfQ func153, ⟨tfQ func281, ttQ⟩, trivial⟩, ⟨tfQ func217, ttQ⟩⟩, ⟨tfQ func121, ⟨tfQ func185, ttQ⟩, ⟨tfQ func249, ttQ⟩⟩⟩⟩⟩, ⟨tfQ func13, ⟨tfQ func21, ⟨tfQ func37,
  ⟨tfQ func69, ⟨tfQ func133, ⟨tfQ func261, ttQ⟩, trivial⟩, ⟨tfQ func197, ttQ⟩⟩, ⟨tfQ func101, ⟨tfQ func165, ⟨tfQ func293, ttQ⟩, trivial⟩, ⟨tfQ func229, ttQ⟩⟩⟩, ⟨tfQ func53, ⟨tfQ
  func85, ⟨tfQ func149, ⟨tfQ func277, ttQ⟩, trivial⟩, ⟨tfQ func213, ttQ⟩⟩, ⟨tfQ func117, ⟨tfQ func181, ttQ⟩, ⟨tfQ func245, ttQ⟩⟩⟩⟩, ⟨tfQ func29, ⟨tfQ func45, ⟨tfQ func77, ⟨tfQ
  func141, ⟨tfQ func269, ttQ⟩, trivial⟩, ⟨tfQ func205, ttQ⟩⟩, ⟨tfQ func109, ⟨tfQ func173, ttQ⟩, ⟨tfQ func237, ttQ⟩⟩⟩, ⟨tfQ func61, ⟨tfQ func93, ⟨tfQ func157, ⟨tfQ func285, ttQ⟩,
  trivial⟩, ⟨tfQ func221, ttQ⟩⟩, ⟨tfQ func125, ⟨tfQ func189, ttQ⟩, ⟨tfQ func253, ttQ⟩⟩⟩⟩⟩⟩⟩, ⟨tfQ func2, ⟨tfQ func4, ⟨tfQ func8, ⟨tfQ func16, ⟨tfQ func32, ⟨tfQ func64, ⟨tfQ
  func128, ⟨tfQ func256, ttQ⟩, trivial⟩, ⟨tfQ func192, ttQ⟩⟩, ⟨tfQ func96, ⟨tfQ func160, ⟨tfQ func288, ttQ⟩, trivial⟩, ⟨tfQ func224, ttQ⟩⟩⟩, ⟨tfQ func48, ⟨tfQ func80, ⟨tfQ func144,
  ⟨tfQ func272, ttQ⟩, trivial⟩, ⟨tfQ func208, ttQ⟩⟩, ⟨tfQ func112, ⟨tfQ func176, ttQ⟩, ⟨tfQ func240, ttQ⟩⟩⟩⟩, ⟨tfQ func24, ⟨tfQ func40, ⟨tfQ func72, ⟨tfQ func136, ⟨tfQ func264,
  ttQ⟩, trivial⟩, ⟨tfQ func200, ttQ⟩⟩, ⟨tfQ func104, ⟨tfQ func168, ⟨tfQ func296, ttQ⟩, trivial⟩, ⟨tfQ func232, ttQ⟩⟩⟩, ⟨tfQ func56, ⟨tfQ func88, ⟨tfQ func152, ⟨tfQ func280, ttQ⟩,
  trivial⟩, ⟨tfQ func216, ttQ⟩⟩, ⟨tfQ func120, ⟨tfQ func184, ttQ⟩, ⟨tfQ func248, ttQ⟩⟩⟩⟩⟩, ⟨tfQ func12, ⟨tfQ func20, ⟨tfQ func36, ⟨tfQ func68, ⟨tfQ func132, ttQ⟩, trivial⟩, ⟨tfQ
  func100, ⟨tfQ func164, ⟨tfQ func292, ttQ⟩, trivial⟩, ⟨tfQ func228, ttQ⟩⟩⟩, ⟨tfQ func52, ⟨tfQ func84, ⟨tfQ func148, ⟨tfQ func276, ttQ⟩, trivial⟩, ⟨tfQ func212, ttQ⟩⟩, ⟨tfQ
  func116, ⟨tfQ func180, ttQ⟩, ⟨tfQ func244, ttQ⟩⟩⟩⟩, ⟨tfQ func28, ⟨tfQ func44, ⟨tfQ func76, ⟨tfQ func140, ⟨tfQ func268, ttQ⟩, trivial⟩, ⟨tfQ func204, ttQ⟩⟩, ⟨tfQ func108, ⟨tfQ
  func172, ttQ⟩, ⟨tfQ func236, ttQ⟩⟩⟩, ⟨tfQ func60, ⟨tfQ func92, ⟨tfQ func156, ⟨tfQ func284, ttQ⟩, trivial⟩, ⟨tfQ func220, ttQ⟩⟩, ⟨tfQ func124, ⟨tfQ func188, ttQ⟩, ⟨tfQ func252,
  ttQ⟩⟩⟩⟩⟩⟩, ⟨tfQ func6, ⟨tfQ func10, ⟨tfQ func18, ⟨tfQ func34, ⟨tfQ func66, ⟨tfQ func130, ⟨tfQ func258, ttQ⟩, trivial⟩, ⟨tfQ func194, ttQ⟩⟩, ⟨tfQ func98, ⟨tfQ func162, ⟨tfQ
  func290, ttQ⟩, trivial⟩, ⟨tfQ func226, ttQ⟩⟩⟩, ⟨tfQ func50, ⟨tfQ func82, ⟨tfQ func146, ⟨tfQ func274, ttQ⟩, trivial⟩, ⟨tfQ func210, ttQ⟩⟩, ⟨tfQ func114, ⟨tfQ func178, ttQ⟩, ⟨tfQ
  func242, ttQ⟩⟩⟩⟩, ⟨tfQ func26, ⟨tfQ func42, ⟨tfQ func74, ⟨tfQ func138, ⟨tfQ func266, ttQ⟩, trivial⟩, ⟨tfQ func202, ttQ⟩⟩, ⟨tfQ func106, ⟨tfQ func170, ttQ⟩, ⟨tfQ func234, ttQ⟩⟩⟩,
  ⟨tfQ func58, ⟨tfQ func90, ⟨tfQ func154, ⟨tfQ func282, ttQ⟩, trivial⟩, ⟨tfQ func218, ttQ⟩⟩, ⟨tfQ func122, ⟨tfQ func186, ttQ⟩, ⟨tfQ func250, ttQ⟩⟩⟩⟩⟩, ⟨tfQ func14, ⟨tfQ func22,
  ⟨tfQ func38, ⟨tfQ func70, ⟨tfQ func134, ⟨tfQ func262, ttQ⟩, trivial⟩, ⟨tfQ func198, ttQ⟩⟩, ⟨tfQ func102, ⟨tfQ func166, ⟨tfQ func294, ttQ⟩, trivial⟩, ⟨tfQ func230, ttQ⟩⟩⟩, ⟨tfQ
  func54, ⟨tfQ func86, ⟨tfQ func150, ⟨tfQ func278, ttQ⟩, trivial⟩, ⟨tfQ func214, ttQ⟩⟩, ⟨tfQ func118, ⟨tfQ func182, ttQ⟩, ⟨tfQ func246, ttQ⟩⟩⟩⟩, ⟨tfQ func30, ⟨tfQ func46, ⟨tfQ
  func78, ⟨tfQ func142, ⟨tfQ func270, ttQ⟩, trivial⟩, ⟨tfQ func206, ttQ⟩⟩, ⟨tfQ func110, ⟨tfQ func174, ttQ⟩, ⟨tfQ func238, ttQ⟩⟩⟩, ⟨tfQ func62, ⟨tfQ func94, ⟨tfQ func158, ⟨tfQ
  func286, ttQ⟩, trivial⟩, ⟨tfQ func222, ttQ⟩⟩, ⟨tfQ func126, ⟨tfQ func190, ttQ⟩, ⟨tfQ func254, ttQ⟩⟩⟩⟩⟩⟩⟩⟩
end
theorem tab_ok : TabOK Tryz.prog tab := ⟨fun t e h => tyAll.get t e h, fun f fn h => fnAll.get f fn h⟩
end Go.Ev
