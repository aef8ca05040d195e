import Derived.Laws.Externs
import Derived.Test.YtcffhjfdlflbgaaGreatDoorP12
set_option linter.all false
open Bool renaming not->ν,and->ξ,true->ο
open Nat renaming beq->π,le_refl->ς
set_option linter.all false
set_option maxRecDepth 100000
set_option maxHeartbeats 4000000
section
namespace Go.Ev
open Go Go.Proofs
abbrev te(t d:TypeInfo):TE:=⟨t,d.desc,false,false⟩
abbrev k3(a:TypeInfo)(l r:Tb TE):Tb TE:=.a0 (some (te a a)) l r
abbrev k1(a:TypeInfo):Tb TE:=k3 a .b0 .b0
abbrev k2(a b:TypeInfo):Tb TE:=k3 a (k1 b) .b0
abbrev k4(a b c d:TypeInfo):Tb TE:=k3 a (k2 b c) (k1 d)
abbrev k5(a b c d e:TypeInfo):Tb TE:=k3 a (k2 b c) (k2 d e)
abbrev h3(a:Func)(l r:Tb Func):Tb Func:=.a0 (some a) l r
abbrev h1(a:Func):Tb Func:=h3 a .b0 .b0
abbrev h2(a b:Func):Tb Func:=h3 a (h1 b) .b0
abbrev h4(a b c d:Func):Tb Func:=h3 a (h2 b c) (h1 d)
abbrev h5(a b c d e:Func):Tb Func:=h3 a (h2 b c) (h2 d e)
section
open Tryz
noncomputable def Kz:Tb TE:=
 (k3 t0 (k3 t1 (k3 t3 (k3 t7 (k3 t15 (k3 t31 (k3 t63 (k3 t127 (k1 t255) (k1 t383)) (k2 t191 t319)) (k3 t95 (.a0 (some (te t159 t158)) (k1 t287) .b0) (k3 t223 (.a0 (some (te t351
 t350)) .b0 .b0) .b0))) (.a0 (some (te t47 t46)) (k3 t79 (k3 t143 (k1 t271) (.a0 (some (te t399 t21)) .b0 .b0)) (k2 t207 t335)) (k3 t111 (k3 t175 (.a0 (some (te t303
 t302)) .b0 .b0) .b0) (k2 t239 t367)))) (k3 t23 (k3 t39 (k3 t71 (k3 t135 (k1 t263) (k1 t391)) (k2 t199 t327)) (k5 t103 t167 t295 t231 t359)) (k3 t55 (k5 t87 t151 t279 t215 t343)
 (k5 t119 t183 t311 t247 t375)))) (.a0 (some (te t11 t9)) (.a0 (some ⟨t19,t18.desc,false,true⟩) (.a0 (some (te t35 t34)) (k3 t67 (k3 t131 (.a0 (some (te t259 t258)) .b0
 .b0) (k1 t387)) (k2 t195 t323)) (k3 t99 (.a0 (some (te t163 t162)) (k1 t291) .b0) (k3 t227 (.a0 (some (te t355 t307)) .b0 .b0) .b0))) (.a0 (some (te t51 t50)) (k5 t83
 t147 t275 t211 t339) (k5 t115 t179 t307 t243 t371))) (.a0 (some (te t27 t26)) (k3 t43 (.a0 (some (te t75 t74)) (k3 t139 (k1 t267) (.a0 (some (te t395 t5)) .b0 .b0)) (k2
 t203 t331)) (k5 t107 t171 t299 t235 t363)) (k3 t59 (k5 t91 t155 t283 t219 t347) (k3 t123 (k2 t187 t315) (.a0 (some (te t251 t250)) (k1 t379) .b0)))))) (k3 t5 (k3 t9 (k3 t17 (k3
 t33 (k3 t65 (k3 t129 (k1 t257) (k1 t385)) (k2 t193 t321)) (k5 t97 t161 t289 t225 t353)) (.a0 (some (te t49 t48)) (k3 t81 (k3 t145 (k1 t273) (.a0 (some ⟨t401,t400.desc,false,
 true⟩) .b0 .b0)) (k2 t209 t337)) (k3 t113 (.a0 (some (te t177 t149)) (k1 t305) .b0) (k2 t241 t369)))) (.a0 (some (te t25 t24)) (k3 t41 (k3 t73 (k3 t137 (k1 t265) (.a0
 (some ⟨t393,t392.desc,false,true⟩) .b0 .b0)) (k2 t201 t329)) (k3 t105 (k3 t169 (.a0 (some (te t297 t296)) .b0 .b0) .b0) (k2 t233 t361))) (k3 t57 (k5 t89 t153 t281 t217
 t345) (k5 t121 t185 t313 t249 t377)))) (.a0 (some ⟨t13,t13.desc,false,true⟩) (k3 t21 (k3 t37 (k3 t69 (k3 t133 (k1 t261) (.a0 (some ⟨t389,t389.desc,false,true⟩) .b0
 .b0)) (k2 t197 t325)) (k5 t101 t165 t293 t229 t357)) (k3 t53 (k3 t85 (k2 t149 t277) (k3 t213 (.a0 (some (te t341 t3)) .b0 .b0) .b0)) (k3 t117 (k2 t181 t309) (k3 t245 (.a0
 (some (te t373 t372)) .b0 .b0) .b0)))) (k3 t29 (k3 t45 (k3 t77 (.a0 (some (te t141 t140)) (k1 t269) (k1 t397)) (k2 t205 t333)) (k3 t109 (k2 t173 t301) (k3 t237 (.a0 (some
 ⟨t365,t364.desc,true,false⟩) .b0 .b0) .b0))) (k3 t61 (k5 t93 t157 t285 t221 t349) (k5 t125 t189 t317 t253 t381)))))) (k3 t2 (k3 t4 (.a0 (some (te t8 t7)) (k3 t16 (.a0
 (some (te t32 t31)) (k3 t64 (k3 t128 (k1 t256) (k1 t384)) (k2 t192 t320)) (k5 t96 t160 t288 t224 t352)) (k3 t48 (.a0 (some (te t80 t79)) (k3 t144 (k1 t272) (.a0 (some ⟨t400,
 t400.desc,false,true⟩) .b0 .b0)) (k2 t208 t336)) (k5 t112 t176 t304 t240 t368))) (k3 t24 (k3 t40 (.a0 (some (te t72 t71)) (k3 t136 (k1 t264) (.a0 (some ⟨t392,t392.desc,
 false,true⟩) .b0 .b0)) (k2 t200 t328)) (k5 t104 t168 t296 t232 t360)) (k3 t56 (k5 t88 t152 t280 t216 t344) (k5 t120 t184 t312 t248 t376)))) (k3 t12 (k3 t20 (k3 t36 (.a0 (some
 (te t68 t67)) (k3 t132 (k1 t260) (k1 t388)) (k3 t196 (.a0 (some (te t324 t3)) .b0 .b0) .b0)) (k5 t100 t164 t292 t228 t356)) (k3 t52 (k5 t84 t148 t276 t212 t340) (k5 t116 t180
 t308 t244 t372))) (k3 t28 (k3 t44 (k3 t76 (k3 t140 (k1 t268) (.a0 (some (te t396 t5)) .b0 .b0)) (k2 t204 t332)) (k3 t108 (k2 t172 t300) (k3 t236 (.a0 (some ⟨t364,t364.desc,
 true,false⟩) .b0 .b0) .b0))) (k3 t60 (k5 t92 t156 t284 t220 t348) (k5 t124 t188 t316 t252 t380))))) (.a0 (some (te t6 t5)) (.a0 (some (te t10 t9)) (.a0 (some ⟨t18,
 t18.desc,false,true⟩) (k3 t34 (k3 t66 (k3 t130 (k1 t258) (k1 t386)) (k2 t194 t322)) (k5 t98 t162 t290 t226 t354)) (k3 t50 (k3 t82 (k3 t146 (k1 t274) (k1 t402)) (k2 t210 t338))
 (k5 t114 t178 t306 t242 t370))) (k3 t26 (k3 t42 (k3 t74 (k3 t138 (k1 t266) (k1 t394)) (.a0 (some (te t202 t201)) (k1 t330) .b0)) (k5 t106 t170 t298 t234 t362)) (k3 t58 (k5 t90
 t154 t282 t218 t346) (k3 t122 (k2 t186 t314) (k3 t250 (.a0 (some (te t378 t377)) .b0 .b0) .b0))))) (.a0 (some ⟨t14,t13.desc,false,true⟩) (k3 t22 (.a0 (some (te t38
 t3)) (.a0 (some (te t70 t69)) (k3 t134 (k1 t262) (.a0 (some ⟨t390,t389.desc,false,true⟩) .b0 .b0)) (k2 t198 t326)) (k5 t102 t166 t294 t230 t358)) (k3 t54 (k3 t86 (.a0
 (some (te t150 t149)) (k1 t278) .b0) (k2 t214 t342)) (k5 t118 t182 t310 t246 t374))) (.a0 (some (te t30 t29)) (k3 t46 (k3 t78 (k3 t142 (k1 t270) (.a0 (some (te t398 t21))
 .b0 .b0)) (k2 t206 t334)) (k5 t110 t174 t302 t238 t366)) (k3 t62 (k5 t94 t158 t286 t222 t350) (k5 t126 t190 t318 t254 t382)))))))
noncomputable def LS:Tb Func:=
 (.a0 none (.a0 none (h3 f3 (h3 f7 (h3 f15 (h3 f31 (h5 f63 f127 f255 f191 f319) (h5 f95 f159 f287 f223 f351)) (h3 f47 (h5 f79 f143 f271 f207 f335) (h5 f111 f175 f303 f239 f367)))
 (h3 f23 (h3 f39 (h5 f71 f135 f263 f199 f327) (h5 f103 f167 f295 f231 f359)) (h3 f55 (h5 f87 f151 f279 f215 f343) (h4 f119 f183 f311 f247)))) (h3 f11 (h3 f19 (h3 f35 (h5 f67 f131
 f259 f195 f323) (h5 f99 f163 f291 f227 f355)) (h3 f51 (h4 f83 f147 f275 f211) (h4 f115 f179 f307 f243))) (h3 f27 (h3 f43 (h5 f75 f139 f267 f203 f331) (h5 f107 f171 f299 f235
 f363)) (h3 f59 (h5 f91 f155 f283 f219 f347) (h4 f123 f187 f315 f251))))) (h3 f5 (h3 f9 (h3 f17 (h3 f33 (h5 f65 f129 f257 f193 f321) (h5 f97 f161 f289 f225 f353)) (h3 f49 (h3 f81
 (h3 f145 (h1 f273) (h1 f401)) (h2 f209 f337)) (h5 f113 f177 f305 f241 f369))) (h3 f25 (h3 f41 (h5 f73 f137 f265 f201 f329) (h5 f105 f169 f297 f233 f361)) (h3 f57 (h5 f89 f153 f281
 f217 f345) (h4 f121 f185 f313 f249)))) (h3 f13 (h3 f21 (h3 f37 (h5 f69 f133 f261 f197 f325) (h5 f101 f165 f293 f229 f357)) (h3 f53 (h5 f85 f149 f277 f213 f341) (h4 f117 f181 f309
 f245))) (h3 f29 (h3 f45 (h5 f77 f141 f269 f205 f333) (h5 f109 f173 f301 f237 f365)) (h3 f61 (h5 f93 f157 f285 f221 f349) (h4 f125 f189 f317 f253)))))) (h3 f2 (h3 f4 (h3 f8 (h3 f16
 (h3 f32 (h5 f64 f128 f256 f192 f320) (h5 f96 f160 f288 f224 f352)) (h3 f48 (h5 f80 f144 f272 f208 f336) (h5 f112 f176 f304 f240 f368))) (h3 f24 (h3 f40 (h5 f72 f136 f264 f200
 f328) (h5 f104 f168 f296 f232 f360)) (h3 f56 (h5 f88 f152 f280 f216 f344) (h4 f120 f184 f312 f248)))) (h3 f12 (h3 f20 (h3 f36 (h5 f68 f132 f260 f196 f324) (h5 f100 f164 f292 f228
 f356)) (h3 f52 (h5 f84 f148 f276 f212 f340) (h4 f116 f180 f308 f244))) (h3 f28 (h3 f44 (h5 f76 f140 f268 f204 f332) (h5 f108 f172 f300 f236 f364)) (h3 f60 (h5 f92 f156 f284 f220
 f348) (h4 f124 f188 f316 f252))))) (h3 f6 (h3 f10 (h3 f18 (h3 f34 (h5 f66 f130 f258 f194 f322) (h5 f98 f162 f290 f226 f354)) (h3 f50 (h5 f82 f146 f274 f210 f338) (h4 f114 f178
 f306 f242))) (h3 f26 (h3 f42 (h5 f74 f138 f266 f202 f330) (h3 f106 (h1 f170) (h2 f234 f362))) (h3 f58 (h5 f90 f154 f282 f218 f346) (h4 f122 f186 f314 f250)))) (h3 f14 (h3 f22 (h3
 f38 (h5 f70 f134 f262 f198 f326) (h5 f102 f166 f294 f230 f358)) (h3 f54 (h5 f86 f150 f278 f214 f342) (h4 f118 f182 f310 f246))) (h3 f30 (h3 f46 (h5 f78 f142 f270 f206 f334) (h5
 f110 f174 f302 f238 f366)) (h3 f62 (h5 f94 f158 f286 f222 f350) (h3 f126 (h1 f190) (h1 f254))))))))
end
noncomputable def tab:fm:=⟨Kz,LS⟩
def nL{α:Type}(p:Nat->α->Prop):(Nat->Nat)->Tb α->Prop
 | _,.b0=>True
 | f,.a0 v l r=>(∀e,v=some e->p (f 0) e)/\nL p (λi=>f (2*i+1)) l/\nL p (λi=>f (2*i+2)) r
theorem nL.a0{α:Type}{p:Nat->α->Prop}:∀{t:Tb α} {f:Nat->Nat},nL p f t->∀i e,t.c0 i=some e->p (f i) e
 | .b0,f,h,i,e,he=>by cases i<;>cases he
 | .a0 v l r,f,h,i,e,he=>by
   unfold Tb.c0 at he;by_cases h0:i=0
   . subst h0;simp only[rY (rfl:(0:Nat)=0),cond_true]at he;exact h.1 e he
   . rw[ic h0,cond_false]at he;rcases Nat.mod_two_eq_zero_or_one i with h2|h2
     . rw[ic δ,cond_false]at he;have:=nL.a0 h.2.2 _ e he
       rwa [show 2*(i/2-1)+2=i by omega]at this
     . rw[rY h2,cond_true]at he;have:=nL.a0 h.2.1 _ e he
       rwa [show 2*(i/2)+1=i by omega]at this
theorem kE{α:Type}{q:α->Prop}{a:α}(h:q a):∀e,some a=some e->q e:=λe he=>by grind
theorem aZ{α:Type}{q:α->Prop}:∀e,none=some e->q e:=λe he=>by grind
theorem NQ{P:Program}{t:TypeId}{i:TypeInfo}(h:P.types[t]? = some i):P.info? t=some i:=by
 grind [Tables.info?]
def zZ{α:Type}:(Nat->Nat)->Tb α->List (Nat×α)
 | _,.b0=>[]
 | f,.a0 v l r=>(match v with|some e=>[(f 0,e)]|none=>[])++(zZ (λi=>f (2*i+1)) l++zZ (λi=>f (2*i+2)) r)
theorem rQ{α:Type}{p:Nat->α->Prop}:∀{t:Tb α} {f:Nat->Nat},(∀x∈zZ f t,p x.1 x.2)->nL p f t
 | .b0,f,h=>trivial
 | .a0 v l r,f,h=>by
   unfold zZ at h;refine⟨λe he=>?_,rQ λx hx=>h x η,rQ λx hx=>h x η⟩;simp_all
theorem xc{α β:Type}{f g:α->β}{l:List α}(h:l.map f=l.map g):∀x∈l,f x=g x:=List.map_inj_left.1 h
noncomputable abbrev kT:List (Nat×TE):=zZ (λi=>i) Kz
noncomputable abbrev kF:List (Nat×Func):=zZ (λi=>i) LS
def RM:kT.map (λx=>Tryz.prog.types[x.1]?)=kT.map λx=>some x.2.i:=ε
def RN:kT.map (λx=>Tryz.prog.underlying x.1)=kT.map λx=>some x.2.u:=ε
theorem RP:kT.map (λx=>bif xN (some x.2.u)then Tryz.prog.eqGuardType Tryz.prog.depth x.1 else x.2.b0)=kT.map λx=>x.2.b0:=ε
theorem RT:kT.map (λx=>bif (pH (some x.2.u)).isSome then Tryz.prog.stoodInHeld x.1 else x.2.a0)=kT.map λx=>x.2.a0:=ε
def RI:kF.map (λx=>Tryz.prog.funcs[x.1]?)=kF.map λx=>some x.2:=ε
theorem RK:kF.all (λx=>!(x.2.name == "runtime.NumGoroutine"))=true:=κ
def Zz(P:Program)(t:Nat)(e:TE):Prop:=P.info? t=some e.i/\P.underlying t=some e.u/\(xN (some e.u)->P.eqGuardType P.depth t=e.b0)/\((pH (some e.u)).isSome->P.stoodInHeld t=e.a0)
def Yg(P:Program)(f:Nat)(fn:Func):Prop:=P.funcs[f]? = some fn/\fn.name ≠ "runtime.NumGoroutine"
theorem Xn:nL (Zz Tryz.prog) (λi=>i) Kz:=rQ λx hx=>by
 refine⟨NQ (xc RM x hx),xc RN x hx,λh=>?_,λh=>?_⟩<;>grind [xc,RP,RT]
theorem UX:nL (Yg Tryz.prog) (λi=>i) LS:=rQ λx hx=>⟨xc RI x hx,by grind [RK]⟩
theorem Qu:fH Tryz.prog tab:=⟨λt e h=>Xn.a0 t e h,λf fn h=>UX.a0 f fn h⟩
def i64(n:Int):AV:=.a .i64 n
def g0:aB:=⟨14,[
 .b,.b,
 .a [i64 4,i64 1,i64 100,i64 (-1),i64 400,i64 1] false none,
 .b,.b,.b,.b,.b,
 .a [.c 11 0 3 (.a 3)] false none,
 .a [.m 376 (.h 13 0)] false (some 1),
 .a [.m 376 (.h 12 0)] false (some 1),
 .a ([3,3,6,3,9,3,12,3,3,3,6,3,9,3,12,3,9,3,12,3,3,3,6,3,1,3,4,3,7,3,10,3,1,4,5,4,9,4,1,6,7,6].map i64) false none,
 .a ([31,28,31,30,31,30,31,31,30,31,30,31].map i64) false none,
 .b],[]⟩
def C0:bg:=⟨[(0,g0)],14⟩
def lend(f:Nat):List Nat:=bif (π f 154 || π f 234 || π f 301 || π f 174)then[0]else bif (π f 148 || π f 149 || π f 150)then[1]else[]
def Im:Nat:=709442905039365863616697548078125043247025809217689273909875832522767945432118871806689452842537057979487309438398464
def canon(f:Nat):Bool:=Nat.testBit Im f
def Tx(a b:Int)(o:aB):Option (AV×aB):=ok (ab (-9223372036854775808) (a+b)&&ab (a+b) 9223372036854775807) (some (.d [IV .i64 (a+b),i64 0],o))
def add:List AV->aB->Option (AV×aB)
 | [.a k a,.a l b],o=>ok (zb k .i64&&zb l .i64) (Tx a b o)
 | _,_=>none
def nz(c:Int):List UInt8->Nat->Int
 | [],_=>-1
 | b::s,k=>bif aa (.ofNat b.toNat) c then .ofNat k else nz c s (k+1)
def XS:List AV->aB->Option (AV×aB)
 | [.e s,.a k (.ofNat c)],o=>ok (zb k .u8&&aS c 256) (some (IV .i64 (nz (.ofNat c) s 0),o))
 | _,_=>none
def XV:List AV->aB->Option (AV×aB)
 | [.e s],o=>ok (Nat.ble s.length 1000000) (some (.e s,o))
 | _,_=>none
def orc(f:Nat)(C:bg)(args:List AV)(o:aB):Option (AV×aB):=
 bif π f 311 then add args o else bif π f 339 then XS args o else bif π f 354 then XV args o else none
def cfg:cL:=⟨11,lend,canon,orc,g0⟩
noncomputable def run(f:Nat)(args:List AV):Option (AV×aB):=aaB tab cfg false (eZ tab cfg 10000) C0 f args ⟨0,[],[]⟩
end Go.Ev
end
section
namespace Go.Proofs.YtcffhjfdlflbgaaGreatDoor
open Go.RowKit
theorem ints_Add1(a b n:Int)(pa pb pn pe:Nat)(w:World)(u:FrameMode)(hn:decide (a<n)=decide (0<b))
 (ca:w.cell? ⟨pa,0,none⟩=some (.int .i64 a)) (cb:w.cell? ⟨pb,0,none⟩=some (.int .i64 b)) (cn:w.cell? ⟨pn,0,none⟩=some (.int .i64 n)) :
 CallsD Tryz.prog 346 #[.pointer (some ⟨pn,0,none⟩),.pointer (some ⟨pa,0,none⟩),.pointer (some ⟨pb,0,none⟩),.pointer (some ⟨pe,0,none⟩)] u w λe u' w'=>u'=u/\(e=.returned (.tuple #[])/\w'=w):=by
 have hd:(!decide (a<n)==decide (0<b))=false:=η
 go_enter_d Tryz.func346,Tryz.ntmps346
 go_wp2;go_end0
 simp
theorem ints_Add(a b:Int)(w:World)(h1 : -9223372036854775808<=a+b)(h2:a+b<=9223372036854775807) :
 Calls Tryz.prog 311 #[.int .i64 a,.int .i64 b] w λe w'=>e=.returned (.tuple #[.int .i64 (a+b),.int .i64 0])/\Below w.heap.size w w':=by
 have hmf:∀(fn:Fn) (first cap:Array Value) (w:World),(Instr.makeFunc fn first cap).run Tryz.prog w=.ok (.func fn first cap) w:=λ_ _ _ _=>rfl;go_enter_defers Tryz.func311,Tryz.ntmps311
 go_wp2
 . have hb:b=0:=by simpa using ‹(b==0)=true›
   refine leaves_cons (f:=346) (args:=#[.pointer (some ⟨w.heap.size+2,0,none⟩),.pointer (some ⟨w.heap.size,0,none⟩),.pointer (some ⟨w.heap.size+1,0,none⟩),.pointer (some ⟨w.heap.size+3,0,none⟩)]) θ (by simp[go_sem]) ?_;refine(ints_Add1 a b a (w.heap.size) (w.heap.size+1) (w.heap.size+2) (w.heap.size+3) _ .returning (by rw[hb];simp) ?_ ?_ ?_).mono ?_
   . go_simp
   . go_simp
   . go_simp
   rintro e u' w'' ⟨rfl,rfl,rfl⟩;exact⟨.tuple #[.int .i64 (a+b),.int .i64 0],by simp[results,Tryz.results311,go_sem,hb],rfl,by(repeat(first|exact Below.refl _ _|assumption|refine balloc ?_ _|refine Below.drew ?_|refine bdrewN ?_ _|(refine bset ?_ (by first|exact ς _|(simp;done)|(simp;omega)) _)|refine bnext ?_ (by assumption)))⟩
 . refine leaves_cons (f:=346) (args:=#[.pointer (some ⟨w.heap.size+2,0,none⟩),.pointer (some ⟨w.heap.size,0,none⟩),.pointer (some ⟨w.heap.size+1,0,none⟩),.pointer (some ⟨w.heap.size+3,0,none⟩)]) θ (by simp[go_sem]) ?_;refine(ints_Add1 a b (a+b) (w.heap.size) (w.heap.size+1) (w.heap.size+2) (w.heap.size+3) _ .returning (by congr 1;apply propext;constructor<;>intro h<;>omega) ?_ ?_ ?_).mono ?_
   . go_simp
   . go_simp
   . go_simp
   rintro e u' w'' ⟨rfl,rfl,rfl⟩;exact⟨.tuple #[.int .i64 (a+b),.int .i64 0],by simp[results,Tryz.results311,go_sem],rfl,by(repeat(first|exact Below.refl _ _|assumption|refine balloc ?_ _|refine Below.drew ?_|refine bdrewN ?_ _|(refine bset ?_ (by first|exact ς _|(simp;done)|(simp;omega)) _)|refine bnext ?_ (by assumption)))⟩
end Go.Proofs.YtcffhjfdlflbgaaGreatDoor
end
section
namespace Go.Proofs
open Go.Shelf
def Tryz.ewLaysM316_ren:Go.Shelf.Ren:=⟨λ|316=>354|n=>n,λ|9=>9|3=>3|4=>4|37=>207|0=>0|127=>375|5=>5|n=>n,λ|n=>n⟩
theorem Tryz.ewLaysM316:Go.Proofs.LaysM.n316 Tryz.prog Tryz.ewLaysM316_ren:={
 mixed:=κ
 f316:=Tryz.func354.trans (congrArg some κ)
 t0:=Tryz.underlying0
 a0:=Tryz.isAgg0
 z0:=Tryz.sizeOf0
 v0:=Tryz.zeroValue0
 t3:=Tryz.underlying3
 a3:=Tryz.isAgg3
 z3:=Tryz.sizeOf3
 v3:=Tryz.zeroValue3
 t4:=Tryz.underlying4
 a4:=Tryz.isAgg4
 z4:=Tryz.sizeOf4
 v4:=Tryz.zeroValue4
 t9:=Tryz.underlying9
 a9:=Tryz.isAgg9
 z9:=Tryz.sizeOf9
 v9:=Tryz.zeroValue9
 t37:=Tryz.underlying207
 a37:=Tryz.isAgg207
 z37:=Tryz.sizeOf207
 v37:=Tryz.zeroValue207
 t127:=Tryz.underlying375
 a127:=Tryz.isAgg375
 z127:=Tryz.sizeOf375
 v127:=Tryz.zeroValue375
 t5:=Tryz.underlying5
 a5:=Tryz.isAgg5
 z5:=Tryz.sizeOf5
 v5:=Tryz.zeroValue5
 i0:=κ
 i3:=κ
 i4:=κ
 i5:=κ
 i9:=κ
 i37:=κ
 i127:=by rfl }
open Go.RowKit in
theorem Tryz.ewClone(s:ByteArray)(w:World)(hlim:s.size<=281474976710656) :
 Calls Tryz.prog 354 #[.string s] w λe w'=>e=.returned (.string s)/\Below w.heap.size w w':=Any.stringslite_Clone Tryz.ewLaysM316 s w hlim
end Go.Proofs
end
section
namespace Go.Ev
open Go Go.Proofs
variable{C:bg}{D:Nat->Prop}{m:Nat->bv}{w:World}{args:List AV}{r:AV×aB}
theorem aaN{cfg:cL}{o:aB}{w':World}(hi:dX cfg D m C o w)(h:RowKit.Below w.heap.size w w'):dw cfg C D m o w D m o w'/\aa9 D w D m w':=by
 refine⟨⟨hi.d0 λj hj hl=>h.block _ ((hi.a0 j hj).a0 hl),λ_ h=>h,λ_ _=>rfl,λ_ h=>.inl h,ς _,h.os,h.tape,h.output,h.size,λk hk _=>h.block k hk,rfl,λi h1 h2=>absurd h1 h2⟩,h.block,λi h1 h2=>absurd h1 h2⟩
theorem r_(c:Nat):∀(s:List UInt8) (k:Nat),nz (.ofNat c) s k=(match(List.range' k s.length).find? (λi=>decide ((s.getD (i-k) 0).toNat=c))with
 | some i=>.ofNat i
 | none=>-1)
 | [],k=>by rfl
 | b::s,k=>by
   rw[nz];simp only[zAd,List.range'_succ,List.find?_cons,Nat.sub_self,List.getD_cons_zero];by_cases e:b.toNat=c
   . simp[aa,e]
   . have:aa (.ofNat b.toNat) (.ofNat c)=false:=ic e;rw[this,cond_false,r_ c s (k+1)];simp only[e,decide_false];have hf:∀l:List Nat,(∀i∈l,k+1<=i)->l.find? (λi=>decide ((s.getD (i-(k+1)) 0).toNat=c))=l.find? (λi=>decide (((b::s).getD (i-k) 0).toNat=c)):=by
      intro l hl;induction l<;>grind [List.getD_cons_succ]
     grind
theorem OF(s:List UInt8)(c:Nat)(hc:c<256)(w:World):(callFunc 339 #[.string ⟨⟨s⟩⟩,.int .u8 (.ofNat c)]).run Tryz.prog w=.ok (.value (.int .i64 (nz (.ofNat c) s 0))) w:=by
 have h1:Extern.findNext Tryz.f339=none:=κ
 have h2:Extern.find Tryz.f339=some Extern.BytealgIndexByte.indexByte:=κ
 have h3:Tryz.f339.body.isNone=true:=κ
 have h4:(Tryz.f339.name == "runtime.NumGoroutine")=false:=κ
 rw[run_callFunc_extern Tryz.func339 h4 h3 h1 h2];have hb:(Extern.Bytes.asByte (.int .u8 (.ofNat c))).run Tryz.prog w=.ok c.toUInt8 w:=rfl;have hx:∀x y,Extern.BytealgIndexByte.indexByte #[x,y]=(do
  let b <-Extern.Bytes.bytesOf x
  let c <-Extern.Bytes.asByte y
  match(List.range b.size).find? (λi=>b[i]! == c)with
  | some i=>pure (Go.goInt i)
  | none=>pure (Go.goInt (-1))):=λ_ _=>rfl
 rw[hx];simp only[Extern.Bytes.bytesOf,Sem.run_bind,Sem.run_pure,Result.andThen_ok,hb];rw[r_];have hf:(List.range (ByteArray.mk ⟨s⟩).size).find? (λi=>(ByteArray.mk ⟨s⟩)[i]! == c.toUInt8)=(List.range' 0 s.length).find? (λi=>decide ((s.getD (i-0) 0).toNat=c)):=by
  rw[<-List.range_eq_range'];show(List.range s.length).find? _=_;have key:∀l:List Nat,(∀i∈l,i<s.length)->l.find? (λi=>(ByteArray.mk ⟨s⟩)[i]! == c.toUInt8)=l.find? (λi=>decide ((s.getD (i-0) 0).toNat=c)):=by
   intro l hl;induction l with
   | nil=>rfl
   | cons x l ih=>
     have hxl:=hl x List.mem_cons_self;have e:((ByteArray.mk ⟨s⟩)[x]! == c.toUInt8)=decide ((s.getD (x-0) 0).toNat=c):=by
      have h1:(ByteArray.mk ⟨s⟩)[x]! = s.getD (x-0) 0:=by
       have:x<(ByteArray.mk ⟨s⟩).size:=hxl;rw[getElem!_pos (ByteArray.mk ⟨s⟩) x this];show s[x]=_;grind
      rw[h1,Bool.eq_iff_iff,beq_iff_eq,zAc];constructor
      . simp_all
      . intro h;rw[<-h];simp
     grind
  grind
 rw[hf];cases(List.range' 0 s.length).find? (λi=>decide ((s.getD (i-0) 0).toNat=c))<;>simp_all [Go.goInt]
theorem x_{f:FuncId}{v:AV}{o:aB}(hi:dX cfg D m C o w)(hv:aC v=[])(hr:(callFunc f (aD m args).toArray).run Tryz.prog w=.ok (.enter f (aD m args).toArray) w)
 (h:Calls Tryz.prog f (aD m args).toArray w λe w'=>e=.returned (aj m v)/\RowKit.Below w.heap.size w w') :
 jV Tryz.prog f (aD m args).toArray w λV w'=>∃D' m',V=aj m' v/\dh D' m' v/\dw cfg C D m o w D' m' o w'/\(hI args (cfg.b0 f)=[]->aa9 D w D' m' w'):=
 .inl ⟨hr,h.mono λe w' ⟨he,hb⟩=>⟨_,he,D,m,rfl,ek hv,(aaN hi hb).1,λ_=>(aaN hi hb).2⟩⟩
theorem RX{o:aB}(h:add args o=some r)(hi:dX cfg D m C o w) :
 jV Tryz.prog 311 (aD m args).toArray w λV w'=>∃D' m',V=aj m' r.1/\dh D' m' r.1/\dw cfg C D m o w D' m' r.2 w'/\(hI args (cfg.b0 311)=[]->aa9 D w D' m' w'):=by
 unfold add at h;split at h
 . rename_i k a l b;simp only[aA,zAa,iv,Tx,zAb,lk]at h;obtain⟨⟨rfl,rfl⟩,⟨h1,h2⟩,rfl⟩:=h;have e1 : -9223372036854775808<=a+b:=by simpa [q5]using h1
   have e2:a+b<=9223372036854775807:=by simpa [q5]using h2
   refine x_ hi (by simp[aC,bw,i64]) ?_ ?_
   . have h4:(Tryz.f311.name == "runtime.NumGoroutine")=false:=ε
     have h5:Tryz.f311.body.isNone=false:=ε
     have h6:¬Tryz.f311.name = "runtime.NumGoroutine" := by simpa using h4
     have h7:¬Tryz.f311.body=none:=λe=>by rw[e]at h5;cases h5
     simp[callFunc,Tryz.func311,h6,h7]
   . have:=Go.Proofs.YtcffhjfdlflbgaaGreatDoor.ints_Add a b w e1 e2;simpa [aD,aj,i64]using this
 . cases h
theorem Ql{o:aB}(h:XV args o=some r)(hi:dX cfg D m C o w) :
 jV Tryz.prog 354 (aD m args).toArray w λV w'=>∃D' m',V=aj m' r.1/\dh D' m' r.1/\dw cfg C D m o w D' m' r.2 w'/\(hI args (cfg.b0 354)=[]->aa9 D w D' m' w'):=by
 unfold XV at h;split at h
 . rename_i s;simp only[aA,zAb,eK]at h;obtain⟨hl,rfl⟩:=h;refine x_ hi (by simp[aC]) ?_ ?_
   . have h4:(Tryz.f354.name == "runtime.NumGoroutine")=false:=ε
     have h5:Tryz.f354.body.isNone=false:=ε
     have h6:¬Tryz.f354.name = "runtime.NumGoroutine" := by simpa using h4
     have h7:¬Tryz.f354.body=none:=λe=>by rw[e]at h5;cases h5
     simp[callFunc,Tryz.func354,h6,h7]
   . have:=Tryz.ewClone ⟨⟨s⟩⟩ w (by show s.length<=_;omega);simpa [aD,aj]using this
 . cases h
theorem Tu{o:aB}(h:XS args o=some r)(hi:dX cfg D m C o w) :
 jV Tryz.prog 339 (aD m args).toArray w λV w'=>∃D' m',V=aj m' r.1/\dh D' m' r.1/\dw cfg C D m o w D' m' r.2 w'/\(hI args (cfg.b0 339)=[]->aa9 D w D' m' w'):=by
 unfold XS at h;split at h
 . rename_i s k c;simp only[aA,zAa,iv,aU,zAb,lk]at h;obtain⟨⟨rfl,hc⟩,rfl⟩:=h;have hrun:=OF s c hc w;refine .inr ⟨.int .i64 (nz (.ofNat c) s 0),w,by grind [aD,aj],D,m,by rfl,ek κ,dw.h0 hi,λ_=>⟨λ_ _=>rfl,λi h1 h2=>absurd h1 h2⟩⟩
 grind
def XP:List Int:=[4,1,100,-1,400,1]
def XQ:List Int:=[31,28,31,30,31,30,31,31,30,31,30,31]
def XU:List Int:=[3,3,6,3,9,3,12,3,3,3,6,3,9,3,12,3,9,3,12,3,3,3,6,3,1,3,4,3,7,3,10,3,1,4,5,4,9,4,1,6,7,6]
structure Pr(w:World):Prop where
 a0:∃b o,w.cell? ⟨5,0,none⟩=some (.slice (some ⟨b,o,none⟩) 3 3)/\∀i v,XP[i]? = some v->w.cell? ⟨b,o+i,none⟩=some (.int .i64 v)
 e0:∀i v,XQ[i]? = some v->w.cell? ⟨1,i,none⟩=some (.int .i64 v)
 b0:∀i v,XU[i]? = some v->w.cell? ⟨2,i,none⟩=some (.int .i64 v)
 f0:∃b o,w.cell? ⟨3,0,none⟩=some (.iface 376 (.pointer (some ⟨b,o,none⟩)))
 d0:∃b o,w.cell? ⟨4,0,none⟩=some (.iface 376 (.pointer (some ⟨b,o,none⟩)))
 g0:∀c e fz,w.heap[3]? = some (.cells c e fz)->c.size=1
 c0:∀c e fz,w.heap[4]? = some (.cells c e fz)->c.size=1
theorem Dc{b:Nat}{v:Value}{i:Nat}(h:w.cell? ⟨b,i,none⟩=some v):∃c e fz,w.heap[b]? = some (.cells c e fz)/\c[i]? = some v:=by
 grind [World.cell?]
theorem Xh{l:bv}{cs:List AV}(h0:0<cs.length)(hok:fM D m cs)(h:∀i v,cs[i]? = some v->w.cell? ⟨l.a0,l.b0+i,none⟩=some (aj m v)):fX D m l (.a cs false none) w.heap[l.a0]? := by
 obtain⟨c,e,fz,hb,_⟩:=Dc (h 0 (cs[0]'h0) θ);refine⟨c,e,fz,hb,⟨λi v hv=>?_,hok,λhf=>η,λs hs=>η⟩⟩;grind [Dc]
theorem MN{l:List Int}:fM D m (l.map i64):=df.2 λv hv=>by
 grind [ek,i64,aC]
theorem Jn(h:Pr w):∃m,dX cfg (λid=>id<14) m C0 ⟨0,[],[]⟩ w:=by
 obtain⟨b,o,hs1,hs2⟩:=h.a0;obtain⟨bs,os,hS⟩:=h.f0;obtain⟨br,orr,hR⟩:=h.d0;let m:Nat->bv:=λid=>if id<11 then⟨id,0,1⟩else if id=11 then⟨b,o,0⟩else if id=12 then⟨bs,os,0⟩else⟨br,orr,0⟩
 have hg:∀id,id<14->get C0 ⟨0,[],[]⟩ id=g0.at id:=λid hid=>by
  grind [get,gB,C0,fp,eK]
 have ints:∀(l:List Int) (q:bv),0<l.length->(∀i v,l[i]? = some v->w.cell? ⟨q.a0,q.b0+i,none⟩=some (.int .i64 v))->fX (λid=>id<14) m q (.a (l.map i64) false none) w.heap[q.a0]? := by
  grind [Xh,MN,i64,aj]
 have one1:∀(x:AV) (q:bv),dh (λid=>id<14) m x->w.cell? ⟨q.a0,q.b0,none⟩=some (aj m x)->fX (λid=>id<14) m q (.a [x] false none) w.heap[q.a0]? := by
  intro x q hx hc;refine Xh θ (fE.2 ⟨hx,fQ⟩) λi v hv=>?_;grind
 have one2:∀(x:AV) (q:bv),dh (λid=>id<14) m x->w.cell? ⟨q.a0,q.b0,none⟩=some (aj m x)->q.b0=0->q.c0=1->(∀c e fz,w.heap[q.a0]? = some (.cells c e fz)->c.size=1)->fX (λid=>id<14) m q (.a [x] false (some 1)) w.heap[q.a0]? := by
  intro x q hx hc hb hcap hs;obtain⟨c,e,fz,hh,hr⟩:=one1 x q hx hc;exact⟨c,e,fz,hh,hr.d0,hr.a0,hr.b0,λs h=>by grind⟩
 have nrw:∀id,id<14->Ep (g0.at id)=false:=ζ
 refine⟨m,λid hid=>?_,λi j hi hj _ _ hr=>?_,λid hid=>?_,λg hgl=>?_,λid hid=>⟨hid,hg id hid⟩,λid hid=>η,ς _,rfl⟩
 . rw[hg id hid];have:id=0\/id=1\/id=2\/id=3\/id=4\/id=5\/id=6\/id=7\/id=8\/id=9\/id=10\/id=11\/id=12\/id=13:=δ
   rcases this with rfl|rfl|rfl|rfl|rfl|rfl|rfl|rfl|rfl|rfl|rfl|rfl|rfl|rfl
   . trivial
   . exact ints XQ (m 1) ζ λi v hv=>by simpa [m]using h.e0 i v hv
   . exact ints XU (m 2) ζ λi v hv=>by simpa [m]using h.b0 i v hv
   . exact one2 (.m 376 (.h 12 0)) (m 3) (λi hi=>by grind [aC]) (by grind [aj]) rfl rfl h.g0
   . exact one2 (.m 376 (.h 13 0)) (m 4) (λi hi=>by grind [aC]) (by grind [aj]) rfl rfl h.c0
   . exact one1 (.c 11 0 3 (.a 3)) (m 5) (λi hi=>by grind [aC,rI]) (by grind [aj,TI])
   . trivial
   . trivial
   . trivial
   . trivial
   . trivial
   . exact ints XP (m 11) ζ λi v hv=>by grind
   . trivial
   . trivial
 . grind
 . have:C0.lo+(⟨0,[],[]⟩:aB).n=14:=rfl;omega
 . have hgl':g<11:=hgl;grind
theorem RY:qX cfg:=⟨by decide,by decide,by decide⟩
theorem SI:jH Tryz.prog cfg True λC f args o=>cfg.c0 f C args o:=by
 intro C f args o r h D m w hi hok;have h:orc f C args o=some r:=h;grind [orc,RX,ic,Tu,Ql]
theorem LH:b8 cfg λC f args o=>cfg.c0 f C args o:=by
 intro C f args o r h hl;have h:orc f C args o=some r:=h;unfold orc at h;cases h1:π f 311<;>rw[h1]at h
 . cases h2:π f 339<;>rw[h2]at h
   . cases h3:π f 354<;>rw[h3]at h
     . grind
     . simp only[zAj]at h;unfold XV at h;split at h
       . simp only[aA,zAb]at h;obtain⟨_,rfl⟩:=h;exact .a0 hl
       grind
   . simp only[zAj]at h;unfold XS at h;split at h
     . simp only[aA,zAb]at h;obtain⟨_,rfl⟩:=h;exact .a0 hl
     grind
 . simp only[cond_true]at h;unfold add at h;split at h
   . simp only[aA,Tx,zAb]at h;obtain⟨_,_,rfl⟩:=h;exact .a0 hl
   grind
theorem gR:nG Tryz.prog tab cfg:=⟨Qu,by rfl,RY,SI,LH⟩
end Go.Ev
end
section
namespace Go.Proofs.YtcffhjfdlflbgaaGreatDoor
open Go.RowKit
theorem ints_Add1_ovf(a b n ev:Int)(pa pb pn pe:Nat)(w:World)(u:FrameMode)(hn:decide (a<n)≠decide (0<b))
 (ca:w.cell? ⟨pa,0,none⟩=some (.int .i64 a)) (cb:w.cell? ⟨pb,0,none⟩=some (.int .i64 b)) (cn:w.cell? ⟨pn,0,none⟩=some (.int .i64 n)) (ce:w.cell? ⟨pe,0,none⟩=some (.int .i64 ev))
 (fn:w.frozen? ⟨pn,0,none⟩=false) (fe:w.frozen? ⟨pe,0,none⟩=false) (hne:pn≠pe) :
 CallsD Tryz.prog 346 #[.pointer (some ⟨pn,0,none⟩),.pointer (some ⟨pa,0,none⟩),.pointer (some ⟨pb,0,none⟩),.pointer (some ⟨pe,0,none⟩)] u w λe u' w'=>u'=u/\(e=.returned (.tuple #[])/\w'=(w.setCell ⟨pn,0,none⟩ (.int .i64 0)).setCell ⟨pe,0,none⟩ (.int .i64 15)):=by
 have hd:(!decide (a<n)==decide (0<b))=true:=by
  grind
 go_enter_d Tryz.func346,Tryz.ntmps346
 go_wp2;go_end0
 simp
theorem ints_Add_max(w:World) :
 Calls Tryz.prog 311 #[.int .i64 9223372036854775807,.int .i64 1] w λe w'=>e=.returned (.tuple #[.int .i64 0,.int .i64 15])/\Below w.heap.size w w':=by
 have hmf:∀(fn:Fn) (first cap:Array Value) (w:World),(Instr.makeFunc fn first cap).run Tryz.prog w=.ok (.func fn first cap) w:=λ_ _ _ _=>rfl;go_enter_defers Tryz.func311,Tryz.ntmps311
 go_wp2;refine leaves_cons (f:=346) (args:=#[.pointer (some ⟨w.heap.size+2,0,none⟩),.pointer (some ⟨w.heap.size,0,none⟩),.pointer (some ⟨w.heap.size+1,0,none⟩),.pointer (some ⟨w.heap.size+3,0,none⟩)]) θ (by simp[go_sem]) ?_;refine(ints_Add1_ovf 9223372036854775807 1 (-9223372036854775808) 0 (w.heap.size) (w.heap.size+1) (w.heap.size+2) (w.heap.size+3) _ .returning ζ ?_ ?_ ?_ ?_ ?_ ?_ δ).mono ?_
 . go_simp
 . go_simp
 . go_simp;unfold wrap64;omega
 . go_simp
 . go_simp
 . go_simp
 rintro e u' w'' ⟨rfl,rfl,rfl⟩;exact⟨.tuple #[.int .i64 0,.int .i64 15],by simp[results,Tryz.results311,go_sem],rfl,by(repeat(first|exact Below.refl _ _|assumption|refine balloc ?_ _|refine Below.drew ?_|refine bdrewN ?_ _|(refine bset ?_ (by first|exact ς _|(simp;done)|(simp;omega)) _)|refine bnext ?_ (by assumption)))⟩
end Go.Proofs.YtcffhjfdlflbgaaGreatDoor
namespace Go.Ev
open Go Go.Proofs
theorem cC:xS Tryz.prog tab cfg:=⟨gR.d0,gR.b0,gR.lv⟩
theorem gM.below{f:FuncId}{args:List AV}{v:AV}(hv:aC v=[])(hr:∀(m:Nat->bv) (w:World),(callFunc f (aD m args).toArray).run Tryz.prog w=.ok (.enter f (aD m args).toArray) w)
 (h:∀(m:Nat->bv) (w:World),Calls Tryz.prog f (aD m args).toArray w λe w'=>e=.returned (aj m v)/\RowKit.Below w.heap.size w w'):gM Tryz.prog cfg f args v:=λC D m o w hi hok=>
 .inl ⟨hr m w,(h m w).mono λe w' ⟨he,hb⟩=>⟨_,he,rfl,ek hv,(aaN hi hb).1,(aaN hi hb).2⟩⟩
def O_:dP:=λ
 | [.a .i64 a,.a .i64 b]=>some (.d0 (af .i64 (Int.add a b)) λd=>bif d then .a0 (.d [.a .i64 (Int.add a b),.a .i64 0])else lu (aa a 9223372036854775807) (lu (aa b 1) (.a0 (.d [.a .i64 0,.a .i64 15]))))
 | _=>none
theorem Gh:ky Tryz.prog cfg 311 O_:=by
 intro args t v he hv;unfold O_ at he;split at he
 . rename_i a b;cases he;have hr:∀(m:Nat->bv) (w:World),(callFunc 311 (aD m [.a .i64 a,.a .i64 b]).toArray).run Tryz.prog w=.ok (.enter 311 (aD m [.a .i64 a,.a .i64 b]).toArray) w:=λm w=>by
    have h4:(Tryz.f311.name == "runtime.NumGoroutine")=false:=ε
    have h5:Tryz.f311.body.isNone=false:=ε
    have h6:¬Tryz.f311.name = "runtime.NumGoroutine" := by simpa using h4
    have h7:¬Tryz.f311.body=none:=λe=>by rw[e]at h5;cases h5
    simp[callFunc,Tryz.func311,h6,h7]
   simp only[Tr.b0]at hv;cases hd:af .i64 (Int.add a b)with
   | true=>
     rw[hd]at hv;cases hv;rw[aE]at hd;refine gM.below (by simp[aC,bw]) hr λm w=>?_;have:=Go.Proofs.YtcffhjfdlflbgaaGreatDoor.ints_Add a b w hd.1 hd.2;simpa [aD,aj,qW]using this
   | false=>
     rw[hd]at hv;obtain⟨h1,hv⟩:=bG hv;obtain⟨h2,hv⟩:=bG hv;cases hv;rw[ao]at h1 h2;subst h1 h2;refine gM.below (by simp[aC,bw]) hr λm w=>?_;have:=Go.Proofs.YtcffhjfdlflbgaaGreatDoor.ints_Add_max w;simpa [aD,aj]using this
 . cases he
end Go.Ev
end
section
namespace Go.Ev
open Go Go.Proofs
def iI(a b:Int):Int:=if a<b then -1 else if b<a then 1 else 0
abbrev wn(a b:Int):AV:=.g [.a .i8 a,.a .i64 b]
abbrev kw(a b c d:Int):AV:=.g [.a .i8 a,.a .i64 b,.a .i8 c,.a .i64 d]
def cw(a b:Int):Int:=if a=0\/(a=1\/a = -1)/\b=0 then 0 else 5
theorem Yi(a b:Int){Q:AV->Prop}:ask Q (mG tab cfg gZ 1000 163 [.a .i8 a,.a .i8 b]) (bE 1141433)=(ν (aa a a)=false/\(ν (aa b b)=false/\((ν (ab b a)->Q (AV.a .i64 (Neg.neg 1)))/\(ν (ab b a)=false->((ν (ab a b)->Q (AV.a .i64 1))/\(ν (ab a b)=false->Q (AV.a .i64 0))))))):=κ
theorem ZK(a b:Int){Q:AV->Prop}:ask Q (mG tab cfg gZ 1000 164 [.a .i64 a,.a .i64 b]) (bE 1141433)=(ν (aa a a)=false/\(ν (aa b b)=false/\((ν (ab b a)->Q (AV.a .i64 (Neg.neg 1)))/\(ν (ab b a)=false->((ν (ab a b)->Q (AV.a .i64 1))/\(ν (ab a b)=false->Q (AV.a .i64 0))))))):=κ
theorem YJ(a b:Int){Q:AV->Prop}:ask Q (mG tab cfg gZ 1000 91 [wn a b]) (bE 105233102331143220043220040)=((ν (aa a 0)->(ν (aa a 0)/\(ν (aa a 0)/\(aa a 0=false/\((ν (ξ (aa a 1) (ξ (aa b 0) ο))->(ν (ξ (aa a 1) (ξ (aa b 0) ο))/\(ν (ξ (aa a 1) (ξ (aa b 0) ο))/\(ξ (aa a 1) (ξ (aa b 0) ο)=false/\((ξ (aa a (Neg.neg 1)) (ξ (aa b 0) ο)->Q (AV.a .i64 0))/\(ξ (aa a (Neg.neg 1)) (ξ (aa b 0) ο)=false->Q (AV.a .i64 5)))))))/\(ν (ξ (aa a 1) (ξ (aa b 0) ο))=false->(ν (ξ (aa a 1) (ξ (aa b 0) ο))=false/\(ν (ξ (aa a 1) (ξ (aa b 0) ο))=false/\(ξ (aa a 1) (ξ (aa b 0) ο)/\Q (AV.a .i64 0))))))))))/\(ν (aa a 0)=false->(ν (aa a 0)=false/\(ν (aa a 0)=false/\(aa a 0/\Q (AV.a .i64 0)))))):=κ
theorem UB(a b:Int):gM Tryz.prog cfg 163 [.a .i8 a,.a .i8 b] (.a .i64 (iI a b)):=
 cC.b0 aW (n:=1000) (D:=_) (by rw[Yi];simp only[az,reduceCtorEq];grind [iI])
theorem WM(a b:Int):gM Tryz.prog cfg 164 [.a .i64 a,.a .i64 b] (.a .i64 (iI a b)):=
 cC.b0 aW (n:=1000) (D:=_) (by rw[ZK];simp only[az,reduceCtorEq];grind [iI])
theorem Uk(a b:Int):gM Tryz.prog cfg 91 [wn a b] (.a .i64 (cw a b)):=
 cC.b0 aW (n:=1000) (D:=_) (by rw[YJ];simp only[az,reduceCtorEq];grind [cw])
def Rg:dP:=λ
 | [.a .i8 a,.a .i8 b]=>some (.a0 (.a .i64 (iI a b)))
 | _=>none
theorem NH:ky Tryz.prog cfg 163 Rg:=by(intro args t v he hv;unfold Rg at he;split at he<;>first|(cases he;cases hv;apply UB;done)|grind)
def QH:dP:=λ
 | [.a .i64 a,.a .i64 b]=>some (.a0 (.a .i64 (iI a b)))
 | _=>none
theorem Pb:ky Tryz.prog cfg 164 QH:=by(intro args t v he hv;unfold QH at he;split at he<;>first|(cases he;cases hv;apply WM;done)|grind)
def Ie:dP:=λ
 | [.g [.a .i8 a,.a .i64 b]]=>some (.a0 (.a .i64 (cw a b)))
 | _=>none
theorem Nb:ky Tryz.prog cfg 91 Ie:=by(intro args t v he hv;unfold Ie at he;split at he<;>first|(cases he;cases hv;apply Uk;done)|grind)
def S1:aQ:=pX (pX (pX (pX gZ 311 O_) 163 Rg) 164 QH) 91 Ie
theorem PX:ak Tryz.prog cfg S1:=eG (eG (eG (eG aW Gh) NH) Pb) Nb
end Go.Ev
end
