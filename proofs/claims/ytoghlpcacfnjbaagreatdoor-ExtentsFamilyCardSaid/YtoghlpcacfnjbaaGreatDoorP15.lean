import Derived.Recover
import Derived.Shelf.Strconv.Clone
import Derived.Shelf.LaysM
import Derived.Laws.Externs
import Derived.Test.YtoghlpcacfnjbaaGreatDoorP01
import Derived.Test.YtoghlpcacfnjbaaGreatDoorP14
set_option linter.all false
set_option maxRecDepth 100000
set_option maxHeartbeats 4000000
section
namespace Go.Ev
open Go Go.Proofs
abbrev te(t d:TypeInfo):TE:=⟨t,d.desc,false,false⟩
abbrev k3(a:TypeInfo)(l r:Tb TE):Tb TE:=.a0 (some (te a a)) l r
abbrev k1(a:TypeInfo):Tb TE:=k3 a .b0 .b0
abbrev k2(a b:TypeInfo):Tb TE:=k3 a (k1 b) .b0
abbrev k4(a b c d:TypeInfo):Tb TE:=k3 a (k2 b c) (k1 d)
abbrev k5(a b c d e:TypeInfo):Tb TE:=k3 a (k2 b c) (k2 d e)
abbrev h3(a:Func)(l r:Tb Func):Tb Func:=.a0 (some a) l r
abbrev h1(a:Func):Tb Func:=h3 a .b0 .b0
abbrev h2(a b:Func):Tb Func:=h3 a (h1 b) .b0
abbrev h4(a b c d:Func):Tb Func:=h3 a (h2 b c) (h1 d)
abbrev h5(a b c d e:Func):Tb Func:=h3 a (h2 b c) (h2 d e)
section
open Tryz
noncomputable def Kz:Tb TE:=
 (k3 t0 (k3 t1 (k3 t3 (k3 t7 (k3 t15 (k3 t31 (k3 t63 (k3 t127 (k1 t255) (.a0 (some (te t383 t21)) .b0 .b0)) (k2 t191 t319)) (k5 t95 t159 t287 t223 t351)) (k3 t47 (k5 t79 t143
 t271 t207 t335) (k5 t111 t175 t303 t239 t367))) (k3 t23 (k3 t39 (k5 t71 t135 t263 t199 t327) (k5 t103 t167 t295 t231 t359)) (k3 t55 (k5 t87 t151 t279 t215 t343) (k5 t119 t183 t311
 t247 t375)))) (.a0 (some (te t11 t9)) (.a0 (some ⟨t19,t18.desc,false,true⟩) (.a0 (some (te t35 t34)) (k5 t67 t131 t259 t195 t323) (k3 t99 (k3 t163 (.a0 (some (te t291
 t290)) .b0 .b0) .b0) (k2 t227 t355))) (k3 t51 (k5 t83 t147 t275 t211 t339) (k5 t115 t179 t307 t243 t371))) (k3 t27 (k3 t43 (.a0 (some (te t75 t74)) (k2 t139 t267) (k2 t203
 t331)) (k3 t107 (.a0 (some (te t171 t170)) (k1 t299) .b0) (k2 t235 t363))) (k3 t59 (k3 t91 (k2 t155 t283) (k3 t219 (.a0 (some (te t347 t346)) .b0 .b0) .b0)) (k3 t123 (k2
 t187 t315) (k3 t251 (.a0 (some (te t379 t5)) .b0 .b0) .b0)))))) (k3 t5 (k3 t9 (k3 t17 (k3 t33 (k3 t65 (k3 t129 (k1 t257) (.a0 (some ⟨t385,t384.desc,false,true⟩) .b0
 .b0)) (k2 t193 t321)) (k5 t97 t161 t289 t225 t353)) (k3 t49 (k5 t81 t145 t273 t209 t337) (k5 t113 t177 t305 t241 t369))) (.a0 (some (te t25 t24)) (k3 t41 (.a0 (some (te t73
 t72)) (k2 t137 t265) (k2 t201 t329)) (.a0 (some (te t105 t104)) (k2 t169 t297) (k2 t233 t361))) (k3 t57 (k5 t89 t153 t281 t217 t345) (k3 t121 (k2 t185 t313) (k3 t249 (.a0
 (some ⟨t377,t376.desc,false,true⟩) .b0 .b0) .b0))))) (.a0 (some ⟨t13,t13.desc,false,true⟩) (k3 t21 (.a0 (some (te t37 t36)) (k5 t69 t133 t261 t197 t325) (k5 t101 t165
 t293 t229 t357)) (.a0 (some (te t53 t5)) (k3 t85 (k2 t149 t277) (.a0 (some (te t213 t212)) (k1 t341) .b0)) (k3 t117 (k3 t181 (.a0 (some ⟨t309,t309.desc,true,false⟩) .b0
 .b0) .b0) (k3 t245 (.a0 (some ⟨t373,t373.desc,false,true⟩) .b0 .b0) .b0)))) (k3 t29 (k3 t45 (k5 t77 t141 t269 t205 t333) (k3 t109 (k3 t173 (.a0 (some (te t301 t300))
 .b0 .b0) .b0) (.a0 (some (te t237 t236)) (k1 t365) .b0))) (k3 t61 (k3 t93 (k3 t157 (.a0 (some (te t285 t284)) .b0 .b0) .b0) (k3 t221 (.a0 (some (te t349 t116)) .b0
 .b0) .b0)) (k5 t125 t189 t317 t253 t381)))))) (k3 t2 (k3 t4 (.a0 (some (te t8 t7)) (k3 t16 (.a0 (some (te t32 t31)) (k3 t64 (k3 t128 (k1 t256) (.a0 (some ⟨t384,t384.desc,
 false,true⟩) .b0 .b0)) (k2 t192 t320)) (k5 t96 t160 t288 t224 t352)) (k3 t48 (k3 t80 (k3 t144 (.a0 (some (te t272 t3)) .b0 .b0) .b0) (k2 t208 t336)) (k5 t112 t176 t304
 t240 t368))) (k3 t24 (.a0 (some (te t40 t39)) (k5 t72 t136 t264 t200 t328) (k5 t104 t168 t296 t232 t360)) (k3 t56 (k5 t88 t152 t280 t216 t344) (k3 t120 (k2 t184 t312) (k3 t248
 (.a0 (some ⟨t376,t376.desc,false,true⟩) .b0 .b0) .b0))))) (k3 t12 (k3 t20 (k3 t36 (k5 t68 t132 t260 t196 t324) (k5 t100 t164 t292 t228 t356)) (k3 t52 (k5 t84 t148 t276
 t212 t340) (k3 t116 (k2 t180 t308) (.a0 (some (te t244 t243)) (k1 t372) .b0)))) (.a0 (some (te t28 t27)) (.a0 (some (te t44 t43)) (k5 t76 t140 t268 t204 t332) (k5 t108 t172
 t300 t236 t364)) (k3 t60 (k5 t92 t156 t284 t220 t348) (k3 t124 (k2 t188 t316) (k3 t252 (.a0 (some (te t380 t5)) .b0 .b0) .b0)))))) (.a0 (some (te t6 t5)) (.a0 (some (te
 t10 t9)) (.a0 (some ⟨t18,t18.desc,false,true⟩) (k3 t34 (k3 t66 (k3 t130 (k1 t258) (k1 t386)) (k2 t194 t322)) (k5 t98 t162 t290 t226 t354)) (k3 t50 (k5 t82 t146 t274 t210
 t338) (k5 t114 t178 t306 t242 t370))) (k3 t26 (.a0 (some (te t42 t41)) (k3 t74 (.a0 (some (te t138 t137)) (k1 t266) .b0) (k2 t202 t330)) (k5 t106 t170 t298 t234 t362)) (k3
 t58 (k5 t90 t154 t282 t218 t346) (k5 t122 t186 t314 t250 t378)))) (.a0 (some ⟨t14,t13.desc,false,true⟩) (k3 t22 (k3 t38 (.a0 (some (te t70 t69)) (k2 t134 t262) (k2 t198
 t326)) (k3 t102 (k2 t166 t294) (k3 t230 (.a0 (some (te t358 t357)) .b0 .b0) .b0))) (k3 t54 (k5 t86 t150 t278 t214 t342) (k3 t118 (k3 t182 (.a0 (some ⟨t310,t309.desc,true,
 false⟩) .b0 .b0) .b0) (k3 t246 (.a0 (some ⟨t374,t373.desc,false,true⟩) .b0 .b0) .b0)))) (k3 t30 (.a0 (some (te t46 t3)) (k3 t78 (k2 t142 t270) (k3 t206 (.a0 (some
 (te t334 t3)) .b0 .b0) .b0)) (k5 t110 t174 t302 t238 t366)) (k3 t62 (k5 t94 t158 t286 t222 t350) (k3 t126 (k3 t190 (.a0 (some (te t318 t317)) .b0 .b0) .b0) (k3 t254 (.a0
 (some (te t382 t21)) .b0 .b0) .b0))))))))
noncomputable def LS:Tb Func:=
 (.a0 none (.a0 none (h3 f3 (h3 f7 (h3 f15 (h3 f31 (h5 f63 f127 f255 f191 f319) (h4 f95 f159 f287 f223)) (h3 f47 (h5 f79 f143 f271 f207 f335) (h4 f111 f175 f303 f239))) (h3 f23
 (h3 f39 (h5 f71 f135 f263 f199 f327) (h4 f103 f167 f295 f231)) (h3 f55 (h4 f87 f151 f279 f215) (h4 f119 f183 f311 f247)))) (h3 f11 (h3 f19 (h3 f35 (h5 f67 f131 f259 f195 f323) (h4
 f99 f163 f291 f227)) (h3 f51 (h4 f83 f147 f275 f211) (h4 f115 f179 f307 f243))) (h3 f27 (h3 f43 (h5 f75 f139 f267 f203 f331) (h4 f107 f171 f299 f235)) (h3 f59 (h4 f91 f155 f283
 f219) (h4 f123 f187 f315 f251))))) (h3 f5 (h3 f9 (h3 f17 (h3 f33 (h3 f65 (h1 f129) (h2 f193 f321)) (h4 f97 f161 f289 f225)) (h3 f49 (h4 f81 f145 f273 f209) (h4 f113 f177 f305
 f241))) (h3 f25 (h3 f41 (h5 f73 f137 f265 f201 f329) (h4 f105 f169 f297 f233)) (h3 f57 (h4 f89 f153 f281 f217) (h4 f121 f185 f313 f249)))) (h3 f13 (h3 f21 (h3 f37 (h5 f69 f133
 f261 f197 f325) (h4 f101 f165 f293 f229)) (h3 f53 (h4 f85 f149 f277 f213) (h4 f117 f181 f309 f245))) (h3 f29 (h3 f45 (h5 f77 f141 f269 f205 f333) (h4 f109 f173 f301 f237)) (h3 f61
 (h4 f93 f157 f285 f221) (h4 f125 f189 f317 f253)))))) (h3 f2 (h3 f4 (h3 f8 (h3 f16 (h3 f32 (h5 f64 f128 f256 f192 f320) (h4 f96 f160 f288 f224)) (h3 f48 (h5 f80 f144 f272 f208
 f336) (h5 f112 f176 f304 f240 f368))) (h3 f24 (h3 f40 (h5 f72 f136 f264 f200 f328) (h4 f104 f168 f296 f232)) (h3 f56 (h4 f88 f152 f280 f216) (h4 f120 f184 f312 f248)))) (h3 f12
 (h3 f20 (h3 f36 (h5 f68 f132 f260 f196 f324) (h4 f100 f164 f292 f228)) (h3 f52 (h4 f84 f148 f276 f212) (h4 f116 f180 f308 f244))) (h3 f28 (h3 f44 (h5 f76 f140 f268 f204 f332) (h4
 f108 f172 f300 f236)) (h3 f60 (h4 f92 f156 f284 f220) (h4 f124 f188 f316 f252))))) (h3 f6 (h3 f10 (h3 f18 (h3 f34 (h5 f66 f130 f258 f194 f322) (h4 f98 f162 f290 f226)) (h3 f50 (h4
 f82 f146 f274 f210) (h4 f114 f178 f306 f242))) (h3 f26 (h3 f42 (h5 f74 f138 f266 f202 f330) (h4 f106 f170 f298 f234)) (h3 f58 (h3 f90 (h2 f154 f282) .b0) (h4 f122 f186 f314
 f250)))) (h3 f14 (h3 f22 (h3 f38 (h3 f70 (h2 f134 f262) (.a0 none (h1 f326) .b0)) (h4 f102 f166 f294 f230)) (h3 f54 (h4 f86 f150 f278 f214) (h4 f118 f182 f310 f246))) (h3 f30
 (h3 f46 (h5 f78 f142 f270 f206 f334) (h4 f110 f174 f302 f238)) (h3 f62 (h4 f94 f158 f286 f222) (h4 f126 f190 f318 f254)))))))
end
noncomputable def tab:fm:=⟨Kz,LS⟩
def nL{α:Type}(p:Nat->α->Prop):(Nat->Nat)->Tb α->Prop
 | _,.b0=>True
 | f,.a0 v l r=>(∀e,v=some e->p (f 0) e)/\nL p (λi=>f (2*i+1)) l/\nL p (λi=>f (2*i+2)) r
theorem nL.a0{α:Type}{p:Nat->α->Prop}:∀{t:Tb α} {f:Nat->Nat},nL p f t->∀i e,t.c0 i=some e->p (f i) e
 | .b0,f,h,i,e,he=>by cases i<;>cases he
 | .a0 v l r,f,h,i,e,he=>by
   unfold Tb.c0 at he;by_cases h0:i=0
   . subst h0;simp only[gm (rfl:(0:Nat)=0),cond_true]at he;exact h.1 e he
   . rw[ic h0,cond_false]at he;rcases Nat.mod_two_eq_zero_or_one i with h2|h2
     . rw[ic (by omega),cond_false]at he;have:=nL.a0 h.2.2 _ e he
       rwa [show 2*(i/2-1)+2=i by omega]at this
     . rw[gm h2,cond_true]at he;have:=nL.a0 h.2.1 _ e he
       rwa [show 2*(i/2)+1=i by omega]at this
theorem g7{α:Type}{q:α->Prop}{a:α}(h:q a):∀e,some a=some e->q e:=λe he=>by cases he;exact h
theorem aZ{α:Type}{q:α->Prop}:∀e,none=some e->q e:=λe he=>by cases he
theorem NQ{P:Program}{t:TypeId}{i:TypeInfo}(h:P.types[t]? = some i):P.info? t=some i:=by
 have:t<P.types.size:=(Array.getElem?_eq_some_iff.1 h).1;simp only[Tables.info?,this,if_true,h]
def zZ{α:Type}:(Nat->Nat)->Tb α->List (Nat×α)
 | _,.b0=>[]
 | f,.a0 v l r=>(match v with|some e=>[(f 0,e)]|none=>[])++(zZ (λi=>f (2*i+1)) l++zZ (λi=>f (2*i+2)) r)
theorem rQ{α:Type}{p:Nat->α->Prop}:∀{t:Tb α} {f:Nat->Nat},(∀x∈zZ f t,p x.1 x.2)->nL p f t
 | .b0,f,h=>trivial
 | .a0 v l r,f,h=>by
   unfold zZ at h;refine⟨λe he=>?_,rQ λx hx=>h x (by simp[hx]),rQ λx hx=>h x (by simp[hx])⟩;subst he;exact h (f 0,e) (by simp)
theorem xc{α β:Type}{f g:α->β}{l:List α}(h:l.map f=l.map g):∀x∈l,f x=g x:=List.map_inj_left.1 h
noncomputable abbrev kT:List (Nat×TE):=zZ (λi=>i) Kz
noncomputable abbrev kF:List (Nat×Func):=zZ (λi=>i) LS
def kt1:kT.map (λx=>Tryz.prog.types[x.1]?)=kT.map λx=>some x.2.i:=by kernel_rfl
def kt2:kT.map (λx=>Tryz.prog.underlying x.1)=kT.map λx=>some x.2.u:=by kernel_rfl
def kt3:kT.map (λx=>bif xN (some x.2.u)then Tryz.prog.eqGuardType Tryz.prog.depth x.1 else x.2.b0)=kT.map λx=>x.2.b0:=by kernel_rfl
def kt4:kT.map (λx=>bif (pH (some x.2.u)).isSome then Tryz.prog.stoodInHeld x.1 else x.2.a0)=kT.map λx=>x.2.a0:=by kernel_rfl
def kf1:kF.map (λx=>Tryz.prog.funcs[x.1]?)=kF.map λx=>some x.2:=by kernel_rfl
def kf2:kF.all (λx=>!(x.2.name == "runtime.NumGoroutine"))=true:=by kernel_rfl
def Zz(P:Program)(t:Nat)(e:TE):Prop:=P.info? t=some e.i/\P.underlying t=some e.u/\(xN (some e.u)->P.eqGuardType P.depth t=e.b0)/\((pH (some e.u)).isSome->P.stoodInHeld t=e.a0)
def Yg(P:Program)(f:Nat)(fn:Func):Prop:=P.funcs[f]? = some fn/\fn.name ≠ "runtime.NumGoroutine"
theorem Xn:nL (Zz Tryz.prog) (λi=>i) Kz:=rQ λx hx=>by
 refine⟨NQ (xc kt1 x hx),xc kt2 x hx,λh=>?_,λh=>?_⟩
 . have:=xc kt3 x hx;rw[h]at this;exact this
 . have:=xc kt4 x hx;rw[h]at this;exact this
theorem UX:nL (Yg Tryz.prog) (λi=>i) LS:=rQ λx hx=>⟨xc kf1 x hx,by have:=List.all_eq_true.1 kf2 x hx;simpa using this⟩
theorem Qu:fH Tryz.prog tab:=⟨λt e h=>Xn.a0 t e h,λf fn h=>UX.a0 f fn h⟩
def i64(n:Int):AV:=.a .i64 n
def g0:aB:=⟨14,[
 .b,.b,
 .a [i64 4,i64 1,i64 100,i64 (-1),i64 400,i64 1] false none,
 .b,.b,.b,.b,.b,
 .a [.c 11 0 3 (.b 3)] false none,
 .a [.k 345 (.g 13 0)] false (some 1),
 .a [.k 345 (.g 12 0)] false (some 1),
 .a ([3,3,6,3,9,3,12,3,3,3,6,3,9,3,12,3,9,3,12,3,3,3,6,3,1,3,4,3,7,3,10,3,1,4,5,4,9,4,1,6,7,6].map i64) false none,
 .a ([31,28,31,30,31,30,31,31,30,31,30,31].map i64) false none,
 .b],[]⟩
def C0:bg:=⟨[(0,g0)],14⟩
def lend(f:Nat):List Nat:=bif (Nat.beq f 232 || Nat.beq f 270 || Nat.beq f 295 || Nat.beq f 131)then[0]else bif (Nat.beq f 227 || Nat.beq f 228 || Nat.beq f 229)then[1]else[]
def Im:Nat:=82590023982619340309714472622159828726972726553559289481810750135385998535065763072072843046303876281328128
def canon(f:Nat):Bool:=Nat.testBit Im f
def Tx(a b:Int)(o:aB):Option (AV×aB):=ok (ab (-9223372036854775808) (a+b)&&ab (a+b) 9223372036854775807) (some (.e [IV .i64 (a+b),i64 0],o))
def add:List AV->aB->Option (AV×aB)
 | [.a k a,.a l b],o=>ok (gP k .i64&&gP l .i64) (Tx a b o)
 | _,_=>none
def nz(c:Int):List UInt8->Nat->Int
 | [],_=>-1
 | b::s,k=>bif aa (.ofNat b.toNat) c then .ofNat k else nz c s (k+1)
def XS:List AV->aB->Option (AV×aB)
 | [.d s,.a k (.ofNat c)],o=>ok (gP k .u8&&aS c 256) (some (IV .i64 (nz (.ofNat c) s 0),o))
 | _,_=>none
def XV:List AV->aB->Option (AV×aB)
 | [.d s],o=>ok (Nat.ble s.length 1000000) (some (.d s,o))
 | _,_=>none
def orc(f:Nat)(C:bg)(args:List AV)(o:aB):Option (AV×aB):=
 bif Nat.beq f 211 then add args o else bif Nat.beq f 257 then XS args o else bif Nat.beq f 273 then XV args o else none
def cfg:cL:=⟨11,lend,canon,orc,g0⟩
noncomputable def run(f:Nat)(args:List AV):Option (AV×aB):=lf tab cfg false (eZ tab cfg 10000) C0 f args ⟨0,[],[]⟩
end Go.Ev
end
section
namespace Go.Proofs.YtoghlpcacfnjbaaGreatDoor
open Go.RowKit
theorem ints_Add1(a b n:Int)(pa pb pn pe:Nat)(w:World)(u:FrameMode)(hn:decide (a<n)=decide (0<b))
 (ca:w.cell? ⟨pa,0,none⟩=some (.int .i64 a)) (cb:w.cell? ⟨pb,0,none⟩=some (.int .i64 b)) (cn:w.cell? ⟨pn,0,none⟩=some (.int .i64 n)) :
 CallsD Tryz.prog 246 #[.pointer (some ⟨pn,0,none⟩),.pointer (some ⟨pa,0,none⟩),.pointer (some ⟨pb,0,none⟩),.pointer (some ⟨pe,0,none⟩)] u w λe u' w'=>u'=u/\(e=.returned (.tuple #[])/\w'=w):=by
 have hd:(!decide (a<n)==decide (0<b))=false:=by rw[hn];cases decide (0<b)<;>rfl
 go_enter_d Tryz.func246,Tryz.ntmps246
 go_wp2;go_end0
 simp
theorem ints_Add(a b:Int)(w:World)(h1 : -9223372036854775808<=a+b)(h2:a+b<=9223372036854775807) :
 Calls Tryz.prog 211 #[.int .i64 a,.int .i64 b] w λe w'=>e=.returned (.tuple #[.int .i64 (a+b),.int .i64 0])/\Below w.heap.size w w':=by
 have hmf:∀(fn:Fn) (first cap:Array Value) (w:World),(Instr.makeFunc fn first cap).run Tryz.prog w=.ok (.func fn first cap) w:=λ_ _ _ _=>rfl;go_enter_defers Tryz.func211,Tryz.ntmps211
 go_wp2
 . have hb:b=0:=by simpa using ‹(b==0)=true›
   refine leaves_cons (f:=246) (args:=#[.pointer (some ⟨w.heap.size+2,0,none⟩),.pointer (some ⟨w.heap.size,0,none⟩),.pointer (some ⟨w.heap.size+1,0,none⟩),.pointer (some ⟨w.heap.size+3,0,none⟩)]) (by simp) (by simp[go_sem]) ?_;refine(ints_Add1 a b a (w.heap.size) (w.heap.size+1) (w.heap.size+2) (w.heap.size+3) _ .returning (by rw[hb];simp) ?_ ?_ ?_).mono ?_
   . go_simp
   . go_simp
   . go_simp
   rintro e u' w'' ⟨rfl,rfl,rfl⟩;exact⟨.tuple #[.int .i64 (a+b),.int .i64 0],by simp[results,Tryz.results211,go_sem,hb],rfl,by(repeat(first|exact Below.refl _ _|assumption|refine balloc ?_ _|refine Below.drew ?_|refine bdrewN ?_ _|(refine bset ?_ (by first|exact Nat.le_refl _|(simp;done)|(simp;omega)) _)|refine bnext ?_ (by assumption)))⟩
 . refine leaves_cons (f:=246) (args:=#[.pointer (some ⟨w.heap.size+2,0,none⟩),.pointer (some ⟨w.heap.size,0,none⟩),.pointer (some ⟨w.heap.size+1,0,none⟩),.pointer (some ⟨w.heap.size+3,0,none⟩)]) (by simp) (by simp[go_sem]) ?_;refine(ints_Add1 a b (a+b) (w.heap.size) (w.heap.size+1) (w.heap.size+2) (w.heap.size+3) _ .returning (by congr 1;apply propext;constructor<;>intro h<;>omega) ?_ ?_ ?_).mono ?_
   . go_simp
   . go_simp
   . go_simp
   rintro e u' w'' ⟨rfl,rfl,rfl⟩;exact⟨.tuple #[.int .i64 (a+b),.int .i64 0],by simp[results,Tryz.results211,go_sem],rfl,by(repeat(first|exact Below.refl _ _|assumption|refine balloc ?_ _|refine Below.drew ?_|refine bdrewN ?_ _|(refine bset ?_ (by first|exact Nat.le_refl _|(simp;done)|(simp;omega)) _)|refine bnext ?_ (by assumption)))⟩
end Go.Proofs.YtoghlpcacfnjbaaGreatDoor
end
section
namespace Go.Proofs
open Go.Shelf
def Tryz.ewLaysM316_ren:Go.Shelf.Ren:=⟨λ|316=>273|n=>n,λ|9=>9|3=>3|4=>4|37=>264|0=>0|127=>344|5=>5|n=>n,λ|n=>n⟩
theorem Tryz.ewLaysM316:Go.Proofs.LaysM.n316 Tryz.prog Tryz.ewLaysM316_ren:={
 mixed:=by kernel_rfl
 f316:=Tryz.func273.trans (congrArg some (by kernel_rfl))
 t0:=Tryz.underlying0
 a0:=Tryz.isAgg0
 z0:=Tryz.sizeOf0
 v0:=Tryz.zeroValue0
 t3:=Tryz.underlying3
 a3:=Tryz.isAgg3
 z3:=Tryz.sizeOf3
 v3:=Tryz.zeroValue3
 t4:=Tryz.underlying4
 a4:=Tryz.isAgg4
 z4:=Tryz.sizeOf4
 v4:=Tryz.zeroValue4
 t9:=Tryz.underlying9
 a9:=Tryz.isAgg9
 z9:=Tryz.sizeOf9
 v9:=Tryz.zeroValue9
 t37:=Tryz.underlying264
 a37:=Tryz.isAgg264
 z37:=Tryz.sizeOf264
 v37:=Tryz.zeroValue264
 t127:=Tryz.underlying344
 a127:=Tryz.isAgg344
 z127:=Tryz.sizeOf344
 v127:=Tryz.zeroValue344
 t5:=Tryz.underlying5
 a5:=Tryz.isAgg5
 z5:=Tryz.sizeOf5
 v5:=Tryz.zeroValue5
 i0:=by kernel_rfl
 i3:=by kernel_rfl
 i4:=by kernel_rfl
 i5:=by kernel_rfl
 i9:=by kernel_rfl
 i37:=by kernel_rfl
 i127:=by kernel_rfl }
open Go.RowKit in
theorem Tryz.ewClone(s:ByteArray)(w:World)(hlim:s.size<=281474976710656) :
 Calls Tryz.prog 273 #[.string s] w λe w'=>e=.returned (.string s)/\Below w.heap.size w w':=Any.stringslite_Clone Tryz.ewLaysM316 s w hlim
end Go.Proofs
end
section
namespace Go.Ev
open Go Go.Proofs
variable{C:bg}{D:Nat->Prop}{m:Nat->bv}{o:aB}{w:World}{args:List AV}{r:AV×aB}
theorem kk{cfg:cL}{w':World}(hi:dX cfg D m C o w)(h:RowKit.Below w.heap.size w w'):dw cfg C D m o w D m o w'/\m6 D w D m w':=by
 refine⟨⟨hi.d0 λj hj hl=>h.block _ ((hi.a0 j hj).a0 hl),λ_ h=>h,λ_ _=>rfl,λ_ h=>.inl h,Nat.le_refl _,h.os,h.tape,h.output,h.size,λk hk _=>h.block k hk,rfl,λi h1 h2=>absurd h1 h2⟩,h.block,λi h1 h2=>absurd h1 h2⟩
theorem r_(c:Nat):∀(s:List UInt8) (k:Nat),nz (.ofNat c) s k=(match(List.range' k s.length).find? (λi=>decide ((s.getD (i-k) 0).toNat=c))with
 | some i=>.ofNat i
 | none=>-1)
 | [],k=>by simp[nz]
 | b::s,k=>by
   rw[nz];simp only[zAf,List.range'_succ,List.find?_cons,Nat.sub_self,List.getD_cons_zero];by_cases e:b.toNat=c
   . simp[aa,e]
   . have:aa (.ofNat b.toNat) (.ofNat c)=false:=ic e;rw[this,cond_false,r_ c s (k+1)];simp only[e,decide_false];have hf:∀l:List Nat,(∀i∈l,k+1<=i)->l.find? (λi=>decide ((s.getD (i-(k+1)) 0).toNat=c))=l.find? (λi=>decide (((b::s).getD (i-k) 0).toNat=c)):=by
      intro l hl;induction l with
      | nil=>rfl
      | cons x l ih=>
        have hx:=hl x List.mem_cons_self;rw[List.find?_cons,List.find?_cons,ih λi hi=>hl i (List.mem_cons_of_mem _ hi),show x-k=(x-(k+1))+1 by omega,List.getD_cons_succ]
     rw[hf _ λi hi=>(List.mem_range'_1.1 hi).1]
theorem OF(s:List UInt8)(c:Nat)(hc:c<256)(w:World):(callFunc 257 #[.string ⟨⟨s⟩⟩,.int .u8 (.ofNat c)]).run Tryz.prog w=.ok (.value (.int .i64 (nz (.ofNat c) s 0))) w:=by
 have h1:Extern.findNext Tryz.f257=none:=by kernel_rfl
 have h2:Extern.find Tryz.f257=some Extern.BytealgIndexByte.indexByte:=by kernel_rfl
 have h3:Tryz.f257.body.isNone=true:=by kernel_rfl
 have h4:(Tryz.f257.name == "runtime.NumGoroutine")=false:=by kernel_rfl
 rw[run_callFunc_extern Tryz.func257 h4 h3 h1 h2];have hb:(Extern.Bytes.asByte (.int .u8 (.ofNat c))).run Tryz.prog w=.ok c.toUInt8 w:=rfl;have hx:∀x y,Extern.BytealgIndexByte.indexByte #[x,y]=(do
  let b <-Extern.Bytes.bytesOf x
  let c <-Extern.Bytes.asByte y
  match(List.range b.size).find? (λi=>b[i]! == c)with
  | some i=>pure (Go.goInt i)
  | none=>pure (Go.goInt (-1))):=λ_ _=>rfl
 rw[hx];simp only[Extern.Bytes.bytesOf,Sem.run_bind,Sem.run_pure,Result.andThen_ok,hb];rw[r_];have hf:(List.range (ByteArray.mk ⟨s⟩).size).find? (λi=>(ByteArray.mk ⟨s⟩)[i]! == c.toUInt8)=(List.range' 0 s.length).find? (λi=>decide ((s.getD (i-0) 0).toNat=c)):=by
  rw[<-List.range_eq_range'];show(List.range s.length).find? _=_;have key:∀l:List Nat,(∀i∈l,i<s.length)->l.find? (λi=>(ByteArray.mk ⟨s⟩)[i]! == c.toUInt8)=l.find? (λi=>decide ((s.getD (i-0) 0).toNat=c)):=by
   intro l hl;induction l with
   | nil=>rfl
   | cons x l ih=>
     have hxl:=hl x List.mem_cons_self;have e:((ByteArray.mk ⟨s⟩)[x]! == c.toUInt8)=decide ((s.getD (x-0) 0).toNat=c):=by
      have h1:(ByteArray.mk ⟨s⟩)[x]! = s.getD (x-0) 0:=by
       have:x<(ByteArray.mk ⟨s⟩).size:=hxl;rw[getElem!_pos (ByteArray.mk ⟨s⟩) x this];show s[x]=_;simp[zAd,hxl]
      rw[h1,Bool.eq_iff_iff,beq_iff_eq,zAb];constructor
      . intro h;rw[h];simp;omega
      . intro h;rw[<-h];simp
     rw[List.find?_cons,List.find?_cons,e,ih λi hi=>hl i (List.mem_cons_of_mem _ hi)]
  exact key _ λi hi=>List.mem_range.1 hi
 rw[hf];cases(List.range' 0 s.length).find? (λi=>decide ((s.getD (i-0) 0).toNat=c))with
 | none=>rfl
 | some i=>simp[Go.goInt]
theorem x_{f:FuncId}{v:AV}(hi:dX cfg D m C o w)(hv:aC v=[])(hr:(callFunc f (ap m args).toArray).run Tryz.prog w=.ok (.enter f (ap m args).toArray) w)
 (h:Calls Tryz.prog f (ap m args).toArray w λe w'=>e=.returned (aj m v)/\RowKit.Below w.heap.size w w') :
 jV Tryz.prog f (ap m args).toArray w λV w'=>∃D' m',V=aj m' v/\dh D' m' v/\dw cfg C D m o w D' m' o w'/\(cI args (cfg.b0 f)=[]->m6 D w D' m' w'):=
 .inl ⟨hr,h.mono λe w' ⟨he,hb⟩=>⟨_,he,D,m,rfl,bM hv,(kk hi hb).1,λ_=>(kk hi hb).2⟩⟩
theorem RX(h:add args o=some r)(hi:dX cfg D m C o w) :
 jV Tryz.prog 211 (ap m args).toArray w λV w'=>∃D' m',V=aj m' r.1/\dh D' m' r.1/\dw cfg C D m o w D' m' r.2 w'/\(cI args (cfg.b0 211)=[]->m6 D w D' m' w'):=by
 unfold add at h;split at h
 . rename_i k a l b;simp only[aA,zAa,iv,Tx,zAc,lk]at h;obtain⟨⟨rfl,rfl⟩,⟨h1,h2⟩,rfl⟩:=h;have e1 : -9223372036854775808<=a+b:=by simpa [ek]using h1
   have e2:a+b<=9223372036854775807:=by simpa [ek]using h2
   refine x_ hi (by simp[aC,bw,i64]) ?_ ?_
   . have h4:(Tryz.f211.name == "runtime.NumGoroutine")=false:=by kernel_rfl
     have h5:Tryz.f211.body.isNone=false:=by kernel_rfl
     have h6:¬Tryz.f211.name = "runtime.NumGoroutine" := by simpa using h4
     have h7:¬Tryz.f211.body=none:=λe=>by rw[e]at h5;cases h5
     simp[callFunc,Tryz.func211,h6,h7]
   . have:=Go.Proofs.YtoghlpcacfnjbaaGreatDoor.ints_Add a b w e1 e2;simpa [ap,aj,i64]using this
 . cases h
theorem Ql(h:XV args o=some r)(hi:dX cfg D m C o w) :
 jV Tryz.prog 273 (ap m args).toArray w λV w'=>∃D' m',V=aj m' r.1/\dh D' m' r.1/\dw cfg C D m o w D' m' r.2 w'/\(cI args (cfg.b0 273)=[]->m6 D w D' m' w'):=by
 unfold XV at h;split at h
 . rename_i s;simp only[aA,zAc,bx]at h;obtain⟨hl,rfl⟩:=h;refine x_ hi (by simp[aC]) ?_ ?_
   . have h4:(Tryz.f273.name == "runtime.NumGoroutine")=false:=by kernel_rfl
     have h5:Tryz.f273.body.isNone=false:=by kernel_rfl
     have h6:¬Tryz.f273.name = "runtime.NumGoroutine" := by simpa using h4
     have h7:¬Tryz.f273.body=none:=λe=>by rw[e]at h5;cases h5
     simp[callFunc,Tryz.func273,h6,h7]
   . have:=Tryz.ewClone ⟨⟨s⟩⟩ w (by show s.length<=_;omega);simpa [ap,aj]using this
 . cases h
theorem Tu(h:XS args o=some r)(hi:dX cfg D m C o w) :
 jV Tryz.prog 257 (ap m args).toArray w λV w'=>∃D' m',V=aj m' r.1/\dh D' m' r.1/\dw cfg C D m o w D' m' r.2 w'/\(cI args (cfg.b0 257)=[]->m6 D w D' m' w'):=by
 unfold XS at h;split at h
 . rename_i s k c;simp only[aA,zAa,iv,aU,zAc,lk]at h;obtain⟨⟨rfl,hc⟩,rfl⟩:=h;have hrun:=OF s c hc w;refine .inr ⟨.int .i64 (nz (.ofNat c) s 0),w,by simpa [ap,aj]using hrun,D,m,by simp[aj],bM (by simp[aC]),dw.e0 hi,λ_=>⟨λ_ _=>rfl,λi h1 h2=>absurd h1 h2⟩⟩
 . cases h
def XP:List Int:=[4,1,100,-1,400,1]
def XQ:List Int:=[31,28,31,30,31,30,31,31,30,31,30,31]
def XU:List Int:=[3,3,6,3,9,3,12,3,3,3,6,3,9,3,12,3,9,3,12,3,3,3,6,3,1,3,4,3,7,3,10,3,1,4,5,4,9,4,1,6,7,6]
structure Pr(w:World):Prop where
 a0:∃b o,w.cell? ⟨5,0,none⟩=some (.slice (some ⟨b,o,none⟩) 3 3)/\∀i v,XP[i]? = some v->w.cell? ⟨b,o+i,none⟩=some (.int .i64 v)
 d0:∀i v,XQ[i]? = some v->w.cell? ⟨1,i,none⟩=some (.int .i64 v)
 b0:∀i v,XU[i]? = some v->w.cell? ⟨2,i,none⟩=some (.int .i64 v)
 e0:∃b o,w.cell? ⟨3,0,none⟩=some (.iface 345 (.pointer (some ⟨b,o,none⟩)))
 g0:∃b o,w.cell? ⟨4,0,none⟩=some (.iface 345 (.pointer (some ⟨b,o,none⟩)))
 f0:∀c e fz,w.heap[3]? = some (.cells c e fz)->c.size=1
 c0:∀c e fz,w.heap[4]? = some (.cells c e fz)->c.size=1
theorem Dc{b:Nat}{v:Value}{i:Nat}(h:w.cell? ⟨b,i,none⟩=some v):∃c e fz,w.heap[b]? = some (.cells c e fz)/\c[i]? = some v:=by
 unfold World.cell? at h;cases hb:w.heap[b]? with
 | none=>simp[hb]at h
 | some x=>
   cases x<;>simp[hb]at h;exact⟨_,_,_,rfl,h⟩
theorem sO{l:bv}{cs:List AV}(h0:0<cs.length)(hok:fM D m cs)(h:∀i v,cs[i]? = some v->w.cell? ⟨l.a0,l.b0+i,none⟩=some (aj m v)):cU D m l (.a cs false none) w.heap[l.a0]? := by
 obtain⟨c,e,fz,hb,_⟩:=Dc (h 0 (cs[0]'h0) (by simp[h0]));refine⟨c,e,fz,hb,⟨λi v hv=>?_,hok,λhf=>(by cases hf),λs hs=>(by cases hs)⟩⟩;obtain⟨c',e',fz',hb',hc⟩:=Dc (h i v hv);rw[hb]at hb';cases hb';exact hc
theorem MN{l:List Int}:fM D m (l.map i64):=df.2 λv hv=>by
 obtain⟨n,_,rfl⟩:=List.mem_map.1 hv;exact bM (by simp[i64,aC])
theorem Jn(h:Pr w):∃m,dX cfg (λid=>id<14) m C0 ⟨0,[],[]⟩ w:=by
 obtain⟨b,o,hs1,hs2⟩:=h.a0;obtain⟨bs,os,hS⟩:=h.e0;obtain⟨br,orr,hR⟩:=h.g0;let m:Nat->bv:=λid=>if id<11 then⟨id,0,1⟩else if id=11 then⟨b,o,0⟩else if id=12 then⟨bs,os,0⟩else⟨br,orr,0⟩
 have hg:∀id,id<14->get C0 ⟨0,[],[]⟩ id=g0.at id:=λid hid=>by
  rw[get,gB];simp only[C0];rw[jT (by omega:¬14<=id)];simp only[cond_false,fp,gB];rw[bx.2 (Nat.zero_le _),cond_true,Nat.sub_zero]
 have ints:∀(l:List Int) (q:bv),0<l.length->(∀i v,l[i]? = some v->w.cell? ⟨q.a0,q.b0+i,none⟩=some (.int .i64 v))->cU (λid=>id<14) m q (.a (l.map i64) false none) w.heap[q.a0]? := by
  intro l q h0 hl;refine sO (by simpa using h0) MN λi v hv=>?_;rw[List.getElem?_map]at hv;obtain⟨n,hn,rfl⟩:=Option.map_eq_some_iff.1 hv;rw[hl i n hn];simp[i64,aj]
 have one1:∀(x:AV) (q:bv),dh (λid=>id<14) m x->w.cell? ⟨q.a0,q.b0,none⟩=some (aj m x)->cU (λid=>id<14) m q (.a [x] false none) w.heap[q.a0]? := by
  intro x q hx hc;refine sO (by simp) (ct.2 ⟨hx,fQ⟩) λi v hv=>?_;cases i with
  | zero=>simp only[List.getElem?_cons_zero,zAc]at hv;subst hv;exact hc
  | succ i=>simp at hv
 have one2:∀(x:AV) (q:bv),dh (λid=>id<14) m x->w.cell? ⟨q.a0,q.b0,none⟩=some (aj m x)->q.b0=0->q.c0=1->(∀c e fz,w.heap[q.a0]? = some (.cells c e fz)->c.size=1)->cU (λid=>id<14) m q (.a [x] false (some 1)) w.heap[q.a0]? := by
  intro x q hx hc hb hcap hs;obtain⟨c,e,fz,hh,hr⟩:=one1 x q hx hc;exact⟨c,e,fz,hh,hr.c0,hr.b0,hr.a0,λs h=>by cases h;exact⟨Nat.zero_lt_one,hb,by rw[hs c e fz hh,hcap]⟩⟩
 have nrw:∀id,id<14->Ep (g0.at id)=false:=by decide
 refine⟨m,λid hid=>?_,λi j hi hj _ _ hr=>?_,λid hid=>?_,λg hgl=>?_,λid hid=>⟨hid,hg id hid⟩,λid hid=>(by cases hid),Nat.le_refl _,rfl⟩
 . rw[hg id hid];have:id=0\/id=1\/id=2\/id=3\/id=4\/id=5\/id=6\/id=7\/id=8\/id=9\/id=10\/id=11\/id=12\/id=13:=by omega
   rcases this with rfl|rfl|rfl|rfl|rfl|rfl|rfl|rfl|rfl|rfl|rfl|rfl|rfl|rfl
   . trivial
   . exact ints XQ (m 1) (by decide) λi v hv=>by simpa [m]using h.d0 i v hv
   . exact ints XU (m 2) (by decide) λi v hv=>by simpa [m]using h.b0 i v hv
   . exact one2 (.k 345 (.g 12 0)) (m 3) (λi hi=>by simp[aC]at hi;subst hi;exact⟨by decide,Nat.zero_le _⟩) (by simpa [m,aj]using hS) rfl rfl h.f0
   . exact one2 (.k 345 (.g 13 0)) (m 4) (λi hi=>by simp[aC]at hi;subst hi;exact⟨by decide,Nat.zero_le _⟩) (by simpa [m,aj]using hR) rfl rfl h.c0
   . exact one1 (.c 11 0 3 (.b 3)) (m 5) (λi hi=>by simp[aC,fi]at hi;subst hi;exact⟨by decide,Nat.zero_le _⟩) (by simpa [m,aj,iR]using hs1)
   . trivial
   . trivial
   . trivial
   . trivial
   . trivial
   . exact ints XP (m 11) (by decide) λi v hv=>by simpa [m]using hs2 i v hv
   . trivial
   . trivial
 . rw[hg j hj,nrw j hj]at hr;cases hr
 . have:C0.lo+(⟨0,[],[]⟩:aB).n=14:=rfl;omega
 . have hgl':g<11:=hgl;exact⟨by omega,by simp[m,hgl'],by simp[m,hgl'],by simp[m,hgl']⟩
theorem RY:qX cfg:=⟨by decide,by decide,by decide⟩
theorem SI:jH Tryz.prog cfg True λC f args o=>cfg.c0 f C args o:=by
 intro C f args o r h D m w hi hok;have h:orc f C args o=some r:=h;have wk:∀{f:FuncId},(jV Tryz.prog f (ap m args).toArray w λV w'=>∃D' m',V=aj m' r.1/\dh D' m' r.1/\dw cfg C D m o w D' m' r.2 w'/\(cI args (cfg.b0 f)=[]->m6 D w D' m' w'))->
  jV Tryz.prog f (ap m args).toArray w λV w'=>∃D' m',V=aj m' r.1/\dh D' m' r.1/\dw cfg C D m o w D' m' r.2 w'/\(True->cI args (cfg.b0 f)=[]->m6 D w D' m' w'):=
  λh=>h.a0 λV w' ⟨D',m',h1,h2,h3,h4⟩=>⟨D',m',h1,h2,h3,λ_=>h4⟩
 unfold orc at h;by_cases h1:f=211
 . subst h1;simp only[gm (rfl:(211:Nat)=211),cond_true]at h;exact wk (RX h hi)
 rw[ic h1,cond_false]at h;by_cases h2:f=257
 . subst h2;simp only[gm (rfl:(257:Nat)=257),cond_true]at h;exact wk (Tu h hi)
 rw[ic h2,cond_false]at h;by_cases h3:f=273
 . subst h3;simp only[gm (rfl:(273:Nat)=273),cond_true]at h;exact wk (Ql h hi)
 rw[ic h3,cond_false]at h;cases h
theorem LH:b8 cfg λC f args o=>cfg.c0 f C args o:=by
 intro C f args o r h hl;have h:orc f C args o=some r:=h;unfold orc at h;cases h1:Nat.beq f 211<;>rw[h1]at h
 . cases h2:Nat.beq f 257<;>rw[h2]at h
   . cases h3:Nat.beq f 273<;>rw[h3]at h
     . cases h
     . simp only[zAj]at h;unfold XV at h;split at h
       . simp only[aA,zAc]at h;obtain⟨_,rfl⟩:=h;exact .a0 hl
       . cases h
   . simp only[zAj]at h;unfold XS at h;split at h
     . simp only[aA,zAc]at h;obtain⟨_,rfl⟩:=h;exact .a0 hl
     . cases h
 . simp only[cond_true]at h;unfold add at h;split at h
   . simp only[aA,Tx,zAc]at h;obtain⟨_,_,rfl⟩:=h;exact .a0 hl
   . cases h
theorem dI:nG Tryz.prog tab cfg:=⟨Qu,by kernel_rfl,RY,SI,LH⟩
end Go.Ev
end
section
namespace Go.Proofs.YtoghlpcacfnjbaaGreatDoor
open Go.RowKit
theorem ints_Add1_ovf(a b n ev:Int)(pa pb pn pe:Nat)(w:World)(u:FrameMode)(hn:decide (a<n)≠decide (0<b))
 (ca:w.cell? ⟨pa,0,none⟩=some (.int .i64 a)) (cb:w.cell? ⟨pb,0,none⟩=some (.int .i64 b)) (cn:w.cell? ⟨pn,0,none⟩=some (.int .i64 n)) (ce:w.cell? ⟨pe,0,none⟩=some (.int .i64 ev))
 (fn:w.frozen? ⟨pn,0,none⟩=false) (fe:w.frozen? ⟨pe,0,none⟩=false) (hne:pn≠pe) :
 CallsD Tryz.prog 246 #[.pointer (some ⟨pn,0,none⟩),.pointer (some ⟨pa,0,none⟩),.pointer (some ⟨pb,0,none⟩),.pointer (some ⟨pe,0,none⟩)] u w λe u' w'=>u'=u/\(e=.returned (.tuple #[])/\w'=(w.setCell ⟨pn,0,none⟩ (.int .i64 0)).setCell ⟨pe,0,none⟩ (.int .i64 15)):=by
 have hd:(!decide (a<n)==decide (0<b))=true:=by
  cases h1:decide (a<n)<;>cases h2:decide (0<b)<;>simp[h1,h2]at hn ⊢
 go_enter_d Tryz.func246,Tryz.ntmps246
 go_wp2;go_end0
 simp
theorem ints_Add_max(w:World) :
 Calls Tryz.prog 211 #[.int .i64 9223372036854775807,.int .i64 1] w λe w'=>e=.returned (.tuple #[.int .i64 0,.int .i64 15])/\Below w.heap.size w w':=by
 have hmf:∀(fn:Fn) (first cap:Array Value) (w:World),(Instr.makeFunc fn first cap).run Tryz.prog w=.ok (.func fn first cap) w:=λ_ _ _ _=>rfl;go_enter_defers Tryz.func211,Tryz.ntmps211
 go_wp2;refine leaves_cons (f:=246) (args:=#[.pointer (some ⟨w.heap.size+2,0,none⟩),.pointer (some ⟨w.heap.size,0,none⟩),.pointer (some ⟨w.heap.size+1,0,none⟩),.pointer (some ⟨w.heap.size+3,0,none⟩)]) (by simp) (by simp[go_sem]) ?_;refine(ints_Add1_ovf 9223372036854775807 1 (-9223372036854775808) 0 (w.heap.size) (w.heap.size+1) (w.heap.size+2) (w.heap.size+3) _ .returning (by decide) ?_ ?_ ?_ ?_ ?_ ?_ (by omega)).mono ?_
 . go_simp
 . go_simp
 . go_simp;unfold wrap64;omega
 . go_simp
 . go_simp
 . go_simp
 rintro e u' w'' ⟨rfl,rfl,rfl⟩;exact⟨.tuple #[.int .i64 0,.int .i64 15],by simp[results,Tryz.results211,go_sem],rfl,by(repeat(first|exact Below.refl _ _|assumption|refine balloc ?_ _|refine Below.drew ?_|refine bdrewN ?_ _|(refine bset ?_ (by first|exact Nat.le_refl _|(simp;done)|(simp;omega)) _)|refine bnext ?_ (by assumption)))⟩
end Go.Proofs.YtoghlpcacfnjbaaGreatDoor
namespace Go.Ev
open Go Go.Proofs
theorem cC:xS Tryz.prog tab cfg:=⟨dI.d0,dI.b0,dI.lv⟩
theorem gM.below{f:FuncId}{args:List AV}{v:AV}(hv:aC v=[])(hr:∀(m:Nat->bv) (w:World),(callFunc f (ap m args).toArray).run Tryz.prog w=.ok (.enter f (ap m args).toArray) w)
 (h:∀(m:Nat->bv) (w:World),Calls Tryz.prog f (ap m args).toArray w λe w'=>e=.returned (aj m v)/\RowKit.Below w.heap.size w w'):gM Tryz.prog cfg f args v:=λC D m o w hi hok=>
 .inl ⟨hr m w,(h m w).mono λe w' ⟨he,hb⟩=>⟨_,he,rfl,bM hv,(kk hi hb).1,(kk hi hb).2⟩⟩
def O_:dP:=λargs=>match args with
 | [.a .i64 a,.a .i64 b]=>some (.d0 (af .i64 (Int.add a b)) λd=>bif d then .a0 (.e [.a .i64 (Int.add a b),.a .i64 0])else fO (aa a 9223372036854775807) (fO (aa b 1) (.a0 (.e [.a .i64 0,.a .i64 15]))))
 | _=>none
theorem Gh:ky Tryz.prog cfg 211 O_:=by
 intro args t v he hv;unfold O_ at he;split at he
 . rename_i a b;cases he;have hr:∀(m:Nat->bv) (w:World),(callFunc 211 (ap m [.a .i64 a,.a .i64 b]).toArray).run Tryz.prog w=.ok (.enter 211 (ap m [.a .i64 a,.a .i64 b]).toArray) w:=λm w=>by
    have h4:(Tryz.f211.name == "runtime.NumGoroutine")=false:=by kernel_rfl
    have h5:Tryz.f211.body.isNone=false:=by kernel_rfl
    have h6:¬Tryz.f211.name = "runtime.NumGoroutine" := by simpa using h4
    have h7:¬Tryz.f211.body=none:=λe=>by rw[e]at h5;cases h5
    simp[callFunc,Tryz.func211,h6,h7]
   simp only[Tr.b0]at hv;cases hd:af .i64 (Int.add a b)with
   | true=>
     rw[hd]at hv;cases hv;rw[aE]at hd;refine gM.below (by simp[aC,bw]) hr λm w=>?_;have:=Go.Proofs.YtoghlpcacfnjbaaGreatDoor.ints_Add a b w hd.1 hd.2;simpa [ap,aj,qW]using this
   | false=>
     rw[hd]at hv;obtain⟨h1,hv⟩:=bG hv;obtain⟨h2,hv⟩:=bG hv;cases hv;rw[ao]at h1 h2;subst h1 h2;refine gM.below (by simp[aC,bw]) hr λm w=>?_;have:=Go.Proofs.YtoghlpcacfnjbaaGreatDoor.ints_Add_max w;simpa [ap,aj]using this
 . cases he
end Go.Ev
end
section
namespace Go.Ev
open Go Go.Proofs
def iI(a b:Int):Int:=if a<b then -1 else if b<a then 1 else 0
abbrev wn(a b:Int):AV:=.h [.a .i8 a,.a .i64 b]
abbrev kw(a b c d:Int):AV:=.h [.a .i8 a,.a .i64 b,.a .i8 c,.a .i64 d]
def cw(a b:Int):Int:=if a=0\/(a=1\/a = -1)/\b=0 then 0 else 5
def Yi(a b:Int){Q:AV->Prop}:ask Q (mG tab cfg gZ 1000 100 [.a .i8 a,.a .i8 b]) (.f (.f (.b .z (.b .z .z))))=(Bool.not (aa a a)=false/\(Bool.not (aa b b)=false/\((Bool.not (ab b a)->Q (AV.a .i64 (Neg.neg 1)))/\(Bool.not (ab b a)=false->((Bool.not (ab a b)->Q (AV.a .i64 1))/\(Bool.not (ab a b)=false->Q (AV.a .i64 0))))))):=by kernel_rfl
def ZK(a b:Int){Q:AV->Prop}:ask Q (mG tab cfg gZ 1000 101 [.a .i64 a,.a .i64 b]) (.f (.f (.b .z (.b .z .z))))=(Bool.not (aa a a)=false/\(Bool.not (aa b b)=false/\((Bool.not (ab b a)->Q (AV.a .i64 (Neg.neg 1)))/\(Bool.not (ab b a)=false->((Bool.not (ab a b)->Q (AV.a .i64 1))/\(Bool.not (ab a b)=false->Q (AV.a .i64 0))))))):=by kernel_rfl
def YJ(a b:Int){Q:AV->Prop}:ask Q (mG tab cfg gZ 1000 78 [wn a b]) (.e (.b (.e (.e (.t (.t (.f (.b (.e (.e (.t (.t (.f (.b .z .z)))))) (.f (.f (.t (.e .z)))))))))) (.f (.f (.t (.e (.e (.e (.e (.e .z))))))))))=((Bool.not (aa a 0)->(Bool.not (aa a 0)/\(Bool.not (aa a 0)/\(aa a 0=false/\((Bool.not (Bool.and (aa a 1) (Bool.and (aa b 0) Bool.true))->(Bool.not (Bool.and (aa a 1) (Bool.and (aa b 0) Bool.true))/\(Bool.not (Bool.and (aa a 1) (Bool.and (aa b 0) Bool.true))/\(Bool.and (aa a 1) (Bool.and (aa b 0) Bool.true)=false/\((Bool.and (aa a (Neg.neg 1)) (Bool.and (aa b 0) Bool.true)->Q (AV.a .i64 0))/\(Bool.and (aa a (Neg.neg 1)) (Bool.and (aa b 0) Bool.true)=false->Q (AV.a .i64 5)))))))/\(Bool.not (Bool.and (aa a 1) (Bool.and (aa b 0) Bool.true))=false->(Bool.not (Bool.and (aa a 1) (Bool.and (aa b 0) Bool.true))=false/\(Bool.not (Bool.and (aa a 1) (Bool.and (aa b 0) Bool.true))=false/\(Bool.and (aa a 1) (Bool.and (aa b 0) Bool.true)/\Q (AV.a .i64 0))))))))))/\(Bool.not (aa a 0)=false->(Bool.not (aa a 0)=false/\(Bool.not (aa a 0)=false/\(aa a 0/\Q (AV.a .i64 0)))))):=by kernel_rfl
theorem UB(a b:Int):gM Tryz.prog cfg 100 [.a .i8 a,.a .i8 b] (.a .i64 (iI a b)):=
 cC.b0 aW (n:=1000) (D:=_) (by rw[Yi];simp only[az,reduceCtorEq];(repeat' first|exact trivial|refine⟨?_,?_⟩|intro)<;>((try simp only[rE,eq_comm (a:=true),eq_comm (a:=false),iI]at *)<;>(repeat' split)<;>(first|omega|(simp_all;done)|(simp_all;omega))))
theorem WM(a b:Int):gM Tryz.prog cfg 101 [.a .i64 a,.a .i64 b] (.a .i64 (iI a b)):=
 cC.b0 aW (n:=1000) (D:=_) (by rw[ZK];simp only[az,reduceCtorEq];(repeat' first|exact trivial|refine⟨?_,?_⟩|intro)<;>((try simp only[rE,eq_comm (a:=true),eq_comm (a:=false),iI]at *)<;>(repeat' split)<;>(first|omega|(simp_all;done)|(simp_all;omega))))
theorem Uk(a b:Int):gM Tryz.prog cfg 78 [wn a b] (.a .i64 (cw a b)):=
 cC.b0 aW (n:=1000) (D:=_) (by rw[YJ];simp only[az,reduceCtorEq];(repeat' first|exact trivial|refine⟨?_,?_⟩|intro)<;>((try simp only[rE,eq_comm (a:=true),eq_comm (a:=false),cw]at *)<;>(repeat' split)<;>(first|omega|(simp_all;done)|(simp_all;omega))))
def Rg:dP:=λargs=>match args with
 | [.a .i8 a,.a .i8 b]=>some (.a0 (.a .i64 (iI a b)))
 | _=>none
theorem NH:ky Tryz.prog cfg 100 Rg:=by(intro args t v he hv;unfold Rg at he;split at he<;>first|(cases he;cases hv;apply UB;done)|(cases he;done))
def QH:dP:=λargs=>match args with
 | [.a .i64 a,.a .i64 b]=>some (.a0 (.a .i64 (iI a b)))
 | _=>none
theorem Pb:ky Tryz.prog cfg 101 QH:=by(intro args t v he hv;unfold QH at he;split at he<;>first|(cases he;cases hv;apply WM;done)|(cases he;done))
def Ie:dP:=λargs=>match args with
 | [.h [.a .i8 a,.a .i64 b]]=>some (.a0 (.a .i64 (cw a b)))
 | _=>none
theorem Nb:ky Tryz.prog cfg 78 Ie:=by(intro args t v he hv;unfold Ie at he;split at he<;>first|(cases he;cases hv;apply Uk;done)|(cases he;done))
def S1:aQ:=pX (pX (pX (pX gZ 211 O_) 100 Rg) 101 QH) 78 Ie
theorem PX:ak Tryz.prog cfg S1:=eG (eG (eG (eG aW Gh) NH) Pb) Nb
end Go.Ev
end
