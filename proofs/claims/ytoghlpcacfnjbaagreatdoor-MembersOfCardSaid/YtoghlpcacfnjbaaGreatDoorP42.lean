import Derived.Test.YtoghlpcacfnjbaaGreatDoorP41
set_option linter.all false
set_option maxRecDepth 100000
set_option maxHeartbeats 4000000
namespace Go.Ev
open Go Go.Proofs
variable{ng lg:Bool}{s mo da:List UInt8}{e y0 y1 y2 p b c d x g:Int}{S:aR}
noncomputable def LOf:cz:=iz io 0 (eb 93 [1,5,6,7] YD)
noncomputable def SQ1:aR:=fw gX 28 (fy 14 [4] XZ)
noncomputable def SQ3:aR:=aY Yp 30 EP
def MU(x:Int)(C:List Ci):Int:=bif Nat.beq (BB x C) 0 then 1 else bif Nat.beq (BB x C) C.length then 3 else 2
def yd(a b c d p:Int):Bool:=aa a 0&&aa c 0&&aa (cU b p) (cU d p)
def mT(a b c d p:Int):Bool:=ab 1 p&&(ab p 3&&((!(aa a 0) || jS b p)&&((!(aa c 0) || jS d p)&&(!(aa a 0&&aa c 0) || (ab (cU b p) (cU d p)&&ab (cU d p-cU b p) 1000000)))))
def Q2(k:Int)(ng:Bool)(s:List UInt8)(e:Int)(mo da:List UInt8)(p a b c d x:Int):Int:=bif aa k 2 then MU x (bZ ng s e mo da)else vv (co a b c d x) (co a b c d x&&(bif aa k 3 then yd a b c d p else bif aa k 4 then aa x d else aa x b))
def IJ(k:Int)(ng lg:Bool)(s:List UInt8)(e g:Int)(mo da:List UInt8)(p a b c d:Int):Bool:=bif aa k 2 then aa g 0&&(kM ng lg s e mo da&&(Nat.ble (bZ ng s e mo da).length 1000000&&(!(Nat.beq (bZ ng s e mo da).length 0)&&sR (bZ ng s e mo da))))else ae .i64 b&&(ae .i64 d&&(aa (a_ a b c d) 0&&(bif aa k 3 then mT a b c d p else aa k 4 || aa k 5)))
def YN:lB:=λargs ws=>match args,ws with
 | [.agg [.int .u8 k,.slice 14 0 n K,.bool ng,.bool lg,.str s,.int .i64 e,.int .i64 g,.str mo,.str da,.int .u8 y0,.int .u8 y1,.int .u8 y2,.int .u8 p,.int .i8 a,.int .i64 b,.int .i8 c,.int .i64 d],.int .i64 x],[.cells w false none]=>some (aH [aa k 1,eQ w,Nat.beq (jD w).length n,Nat.ble 1 n,Nat.ble n 4,iM (jD w),ae .i64 x] (.ret (.int .i64 (vv (dH (jD w) x) (dH (jD w) x)),[])))
 | [.agg [.int .u8 k,.nilslice,.bool ng,.bool lg,.str s,.int .i64 e,.int .i64 g,.str mo,.str da,.int .u8 y0,.int .u8 y1,.int .u8 y2,.int .u8 p,.int .i8 a,.int .i64 b,.int .i8 c,.int .i64 d],.int .i64 x],[]=>some (aH [IJ k ng lg s e g mo da p a b c d,ae .i64 x] (.ret (.int .i64 (Q2 k ng s e mo da p a b c d x),[])))
 | _,_=>none
def Qv:bh tab 11=some (dC 11,aN 11):=by kernel_rfl
def Oi:(bj (aN 11)).map (·.1)=[0]:=by kernel_rfl
theorem QQ:ak Tryz.prog cfg SQ1:=Tf aV
theorem DM:ak Tryz.prog cfg SQ3:=Lx BA
def Rl(c:Ci):Rn:=⟨0,jQ c.1 c.2.1 c.2.2,0,jV c.1 c.2.1 c.2.2⟩
theorem x_:∀{C:List Ci},gq C=bB (C.map Rl)
 | []=>rfl
 | c::C=>by
   show .int .i8 0::.int .i64 (jQ c.1 c.2.1 c.2.2)::.int .i8 0::.int .i64 (jV c.1 c.2.1 c.2.2)::gq C=_;rw[x_];rfl
theorem tH:∀{C:List Ci},sR C->eQ (gq C)/\iM (C.map Rl)=true
 | [],_=>⟨rfl,rfl⟩
 | c::C,h=>by
   unfold sR at h;rw[List.all_cons,zAa]at h;obtain⟨h1,h2⟩:=h;obtain⟨i1,i2⟩:=@tH C h2;have bd:=OO h1;have r1:ae .i64 (jQ c.1 c.2.1 c.2.2)=true:=by rw[aB];simp only[dP,dR];omega
   have r2:ae .i64 (jV c.1 c.2.1 c.2.2)=true:=by rw[aB];simp only[dP,dR];omega
   refine⟨?_,?_⟩
   . show(ae .i64 (jQ c.1 c.2.1 c.2.2)&&(ae .i64 (jV c.1 c.2.1 c.2.2)&&eQ (gq C)))=true;rw[r1,r2,i1];rfl
   . unfold iM at i2 ⊢;rw[List.map_cons,List.all_cons,i2,Bool.and_true];exact al.mpr (Jw bd.2.1)
theorem FX{x:Int}:∀{C:List Ci},pM (C.map Rl) x=BB x C
 | []=>rfl
 | c::C=>by
   have ih:=@FX x C;unfold pM BB at ih ⊢;rw[List.map_cons,List.filter_cons,List.filter_cons];have e:co (Rl c).a (Rl c).b (Rl c).c (Rl c).d x=tw c.1 c.2.1 c.2.2 x:=rK;rw[e];cases tw c.1 c.2.1 c.2.2 x with
   | true=>simp only[if_true,zAd,ih]
   | false=>simp only[Bool.false_eq_true,if_false];exact ih
theorem WJ{h:Bool}:vv h h=Int.add 1 (Int.mul 2 (bI h)):=by cases h<;>rfl
theorem Zo{a:Int}(h1:kM ng lg s e mo da)(h2:Nat.ble (bZ ng s e mo da).length 1000000)(h3:Nat.beq (bZ ng s e mo da).length 0=false)(h4:sR (bZ ng s e mo da))(hx:ae .i64 x) :
 bt Tryz.prog cfg 11 [.agg [.int .u8 2,.nilslice,.bool ng,.bool lg,.str s,.int .i64 e,.int .i64 0,.str mo,.str da,.int .u8 y0,.int .u8 y1,.int .u8 y2,.int .u8 p,.int .i8 a,.int .i64 b,.int .i8 c,.int .i64 d],.int .i64 x] [] (.int .i64 (MU x (bZ ng s e mo da))) []:=by
 refine kw BA (L:=LOf) Qv (by simp) (dv Oi λi hi e he st Q hw=>?_) (jT (bA 11414022700275666) (R:=λQ=>(λ(B:List Rn)(A:Nat)=>(λ(C:Bool)(E:Int)=>(λ(F:Bool)=>kM ng lg s e mo da/\C/\not (Nat.beq A 0)/\sR (bZ ng s e mo da)/\eQ (gq (bZ ng s e mo da))/\Nat.beq B.length A/\C/\iM B/\ae .i64 x/\(∀J1:Nat->Value,(aa E 0->Q (.int .i64 1))/\(aa E 0=false->(F->Q (.int .i64 3))/\(F=false->Q (.int .i64 2))))) (aa E (Int.ofNat A))) (Nat.ble A 1000000) (Int.ofNat (pM B x))) (jD (gq (bZ ng s e mo da))) (List.length (bZ ng s e mo da))) (λ_=>by kernel_rfl) λQ' hQ=>?_) (by simp[aD])
 . have hi:i=0:=by simp at hi;omega
   subst hi;cases he;exact b7 (cF.good BA) (by decide) rfl YJ hw
 . have hQ:=hQ _ rfl;unfold MU at hQ;dsimp only;rw[x_,jn,FX,<-x_,List.length_map];obtain⟨f1,f2⟩:=tH h4;have cc:Nat.beq (bZ ng s e mo da).length (bZ ng s e mo da).length=true:=aK.mpr rfl;generalize bZ ng s e mo da=C at *;have n0:aa (Int.ofNat (BB x C)) 0=Nat.beq (BB x C) 0:=by rw[Bool.eq_iff_iff,al,aK];simp only[Int.ofNat_eq_natCast];omega
   have n1:aa (Int.ofNat (BB x C)) (Int.ofNat C.length)=Nat.beq (BB x C) C.length:=by rw[Bool.eq_iff_iff,al,aK];simp only[Int.ofNat_eq_natCast];omega
   try dsimp only
   rw[n0,n1];cases g0:Nat.beq (BB x C) 0<;>cases g1:Nat.beq (BB x C) C.length<;>rw[g0,g1]at hQ<;>simp only[h1,h2,h3,h4,hx,f1,f2,cc,zAj,Bool.not_false,reduceCtorEq,zAh]at hQ ⊢<;>exact λ_=>hQ
theorem YO{ng lg:Bool}{s:List UInt8}{e g:Int}{mo da:List UInt8}{y0 y1 y2 p a b c d x:Int}{K:eZ}{R:List Rn}(hi:eQ (bB R))(h1:1<=R.length)(h4:R.length<=4)(hr:iM R)(hx:ae .i64 x) :
 bt Tryz.prog cfg 11 [.agg [.int .u8 1,.slice 14 0 R.length K,.bool ng,.bool lg,.str s,.int .i64 e,.int .i64 g,.str mo,.str da,.int .u8 y0,.int .u8 y1,.int .u8 y2,.int .u8 p,.int .i8 a,.int .i64 b,.int .i8 c,.int .i64 d],.int .i64 x] [.cells (bB R) false none] (.int .i64 (vv (dH R x) (dH R x))) []:=by
 refine m8 QQ fp ag (bA 114124277000) (R:=λQ=>(λ(F:Nat)=>(λ(A:List AV)=>(λ(B:List Rn)=>(λ(C:Int)=>(λ(G:Bool)(E H:Int)=>(λ(I:Bool)=>and true (and (Nat.ble (HAdd.hAdd 0 F) (bB R).length) (bw 14 A))/\eQ A/\Nat.beq B.length R.length/\Nat.ble 1 R.length/\Nat.ble R.length 4/\iM B/\ae .i64 x/\(G->ae .i64 H/\Q (.int .i64 H))/\(G=false->(I->Q (.int .i64 E))/\(I=false->Q (.int .i64 (IntKind.wrap .i64 E))))) (ae .i64 E)) (ae .i64 C) (Int.add 1 (IntKind.wrap .i64 C)) (Int.add 1 C)) (Int.mul 2 (bI (dH B x)))) (jD A)) (cN (bB R) 0 F)) (HMul.hMul R.length 4)) (λ_=>by kernel_rfl) λQ' hQ=>?_;try dsimp only
 rw[WJ]at hQ;try dsimp only
 rw[lZ,jn];have l1:Nat.ble (0+R.length*4) (bB R).length=true:=aq.mpr (by rw[kn];omega);have l2:=@ib R;have l3:Nat.beq R.length R.length=true:=aK.mpr rfl;have l4:=aq.mpr h1;have l5:=aq.mpr h4;generalize dH R x=h at *;have m1:ae .i64 (Int.mul 2 (bI h))=true:=by cases h<;>rfl
 have m2:ae .i64 (Int.add 1 (Int.mul 2 (bI h)))=true:=by cases h<;>rfl
 simp only[hi,hr,hx,l1,l2,l3,l4,l5,m1,m2,Bool.and_self,reduceCtorEq,zAh];exact hQ
theorem WW{b:Bool}:aa (bI b) 0=!b:=by cases b<;>rfl
theorem Zu{a:Int}(h1:ae .i64 b)(h2:ae .i64 d)(h3:aa (a_ a b c d) 0)(hu:mT a b c d p)(hx:ae .i64 x) :
 bt Tryz.prog cfg 11 [.agg [.int .u8 3,.nilslice,.bool ng,.bool lg,.str s,.int .i64 e,.int .i64 g,.str mo,.str da,.int .u8 y0,.int .u8 y1,.int .u8 y2,.int .u8 p,.int .i8 a,.int .i64 b,.int .i8 c,.int .i64 d],.int .i64 x] [] (.int .i64 (vv (co a b c d x) (co a b c d x&&yd a b c d p))) []:=by
 unfold mT at hu;simp only[zAa]at hu;obtain⟨u1,u2,u3,u4,u5⟩:=hu;refine kP DM ag (bA 114270511412427054277000666) (R:=λQ=>(λ(A B G I:Bool)(H N:Int)=>(λ(O:Bool)(C E:Int)=>(λ(P U:Bool)(F T:Int)=>(λ(V:Bool)=>(λ(W:Prop->Prop)=>A/\B/\ab 1 p/\ab p 3/\or (not (aa a 0)) (jS b p)/\or (not (aa c 0)) (jS d p)/\or (not G) (and (ab (cU b p) (cU d p)) (ab H 1000000))/\(O->W ((P->ae .i64 T/\Q (.int .i64 T))/\(P=false->(V->Q (.int .i64 F))/\(V=false->Q (.int .i64 (IntKind.wrap .i64 F))))))/\(O=false->W ((U->Q (.int .i64 E))/\(U=false->Q (.int .i64 (IntKind.wrap .i64 E)))))) (λu0=>A/\B/\ae .i64 x/\I/\u0)) (ae .i64 F)) (ae .i64 C) (ae .i64 E) (Int.add 1 (IntKind.wrap .i64 C)) (Int.add 1 C)) (aa (cond G (HAdd.hAdd H 1) (Neg.neg 1)) 1) (Int.mul 2 N) (Int.add 1 N)) (ae .i64 b) (ae .i64 d) (and (aa a 0) (aa c 0)) (aa (a_ a b c d) 0) (HSub.hSub (cU d p) (cU b p)) (bI (co a b c d x))) (λ_=>by kernel_rfl) λQ' hQ=>?_;try dsimp only
 have e1:aa (bif aa a 0&&aa c 0 then cU d p-cU b p+1 else -1) 1=yd a b c d p:=by
  unfold yd;cases k:(aa a 0&&aa c 0)with
  | false=>rfl
  | true=>
    rw[cond_true,Bool.true_and,Bool.eq_iff_iff,al,al];omega
 rw[show aa (cond (Bool.and (aa a 0) (aa c 0)) (HAdd.hAdd (HSub.hSub (cU d p) (cU b p)) 1) (Neg.neg 1)) 1=yd a b c d p from e1];generalize co a b c d x=h at *;have m1:ae .i64 (Int.mul 2 (bI h))=true:=by cases h<;>rfl
 have m2:ae .i64 (Int.add 1 (Int.mul 2 (bI h)))=true:=by cases h<;>rfl
 have m3:ae .i64 (Int.add 1 (bI h))=true:=by cases h<;>rfl
 have v1:vv h (h&&true)=Int.add 1 (Int.mul 2 (bI h)):=by cases h<;>rfl
 have v2:vv h (h&&false)=Int.add 1 (bI h):=by cases h<;>rfl
 cases k:yd a b c d p<;>rw[k]at hQ<;>simp only[h1,h2,h3,hx,u1,u2,show(!aa a 0 || jS b p)=true from u3,show(!aa c 0 || jS d p)=true from u4,show(!(aa a 0&&aa c 0) || (aa 0 0&&true))=true by simp[show aa 0 0=true from rfl],m1,m2,m3,v1,v2,reduceCtorEq,zAh]at hQ ⊢
 . simp only[show(!(aa a 0&&aa c 0) || (ab (cU b p) (cU d p)&&ab (cU d p-cU b p) 1000000))=true by simpa only[Bool.and_eq_true,Bool.or_eq_true]using u5,reduceCtorEq,zAh];exact hQ
 . simp only[show(!(aa a 0&&aa c 0) || (ab (cU b p) (cU d p)&&ab (cU d p-cU b p) 1000000))=true by simpa only[Bool.and_eq_true,Bool.or_eq_true]using u5,reduceCtorEq,zAh];exact hQ
theorem Xn{a:Int}(h1:ae .i64 b)(h2:ae .i64 d)(h3:aa (a_ a b c d) 0)(hx:ae .i64 x) :
 bt Tryz.prog cfg 11 [.agg [.int .u8 4,.nilslice,.bool ng,.bool lg,.str s,.int .i64 e,.int .i64 g,.str mo,.str da,.int .u8 y0,.int .u8 y1,.int .u8 y2,.int .u8 p,.int .i8 a,.int .i64 b,.int .i8 c,.int .i64 d],.int .i64 x] [] (.int .i64 (vv (co a b c d x) (co a b c d x&&aa x d))) []:=by
 refine kP DM ag (bA 1023005810302005220246142756) (R:=λQ=>(λ(C E:Bool)=>(λ(A:Bool)=>(λ(B:Prop)=>ae .i64 b/\ae .i64 d/\ae .i64 x/\aa (a_ a b c d) 0/\(E->Q (.int .i64 1))/\(E=false->(A->A/\A/\A/\A/\C=false/\Q (.int .i64 2))/\(B->B/\B/\B/\B/\C/\Q (.int .i64 3)))) (A=false)) (not C)) (aa x d) (aa (bI (co a b c d x)) 0)) (λ_=>by kernel_rfl) λQ' hQ=>?_;try dsimp only
 rw[WW];cases k:co a b c d x<;>cases k':aa x d<;>rw[k,k']at hQ<;>simp only[h1,h2,h3,hx,k',Bool.not_true,Bool.not_false,Bool.true_and,Bool.false_and,reduceCtorEq,zAh]at hQ ⊢<;>exact hQ
theorem XE{a:Int}(h1:ae .i64 b)(h2:ae .i64 d)(h3:aa (a_ a b c d) 0)(hx:ae .i64 x) :
 bt Tryz.prog cfg 11 [.agg [.int .u8 5,.nilslice,.bool ng,.bool lg,.str s,.int .i64 e,.int .i64 g,.str mo,.str da,.int .u8 y0,.int .u8 y1,.int .u8 y2,.int .u8 p,.int .i8 a,.int .i64 b,.int .i8 c,.int .i64 d],.int .i64 x] [] (.int .i64 (vv (co a b c d x) (co a b c d x&&aa x b))) []:=by
 refine kP DM ag (bA 11405661427056) (R:=λQ=>(λ(A:Bool)=>ae .i64 b/\ae .i64 d/\ae .i64 x/\aa (a_ a b c d) 0/\(A->Q (.int .i64 1))/\(A=false->(aa x b->Q (.int .i64 3))/\(aa x b=false->Q (.int .i64 2)))) (aa (bI (co a b c d x)) 0)) (λ_=>by kernel_rfl) λQ' hQ=>?_;try dsimp only
 rw[WW];cases k:co a b c d x<;>cases k':aa x b<;>rw[k,k']at hQ<;>simp only[h1,h2,h3,hx,k',Bool.not_true,Bool.not_false,Bool.true_and,Bool.false_and,reduceCtorEq,zAh]at hQ ⊢<;>exact hQ
theorem U_(hS:ak Tryz.prog cfg S):ak Tryz.prog cfg (fw S 11 (fy 14 [4] YN)):=by
 refine bm hS (ga dG.lv AD λargs ws t r he hr=>?_);unfold YN at he;split at he
 . rename_i k n K ng lg s e g mo da y0 y1 y2 p a b c d x w;cases he;replace hr:=aF hr;obtain⟨⟨k1,k2,k3,k4,k5,k6,k7,-⟩,hr⟩:=hr;cases hr;rw[al]at k1;rw[aK]at k3;rw[aq]at k4 k5;subst k1 k3;have ew:=iH k2;refine⟨?_,λx hx=>by cases hx⟩;have h:=@YO ng lg s e g mo da y0 y1 y2 p a b c d x K (jD w) (by rw[ew];exact k2) k4 k5 k6 k7;rw[ew]at h;exact h
 . rename_i k ng lg s e g mo da y0 y1 y2 p a b c d x;cases he;replace hr:=aF hr;obtain⟨⟨k1,k2,-⟩,hr⟩:=hr;cases hr;refine⟨?_,λx hx=>by cases hx⟩;unfold IJ at k1;unfold Q2;cases q2:aa k 2 with
   | true=>
     rw[q2,cond_true]at k1;rw[al]at q2;subst q2;simp only[zAa,Bool.not_eq_true']at k1;obtain⟨j1,j2,j3,j4,j5⟩:=k1;rw[al]at j1;subst j1;exact Zo j2 j3 j4 j5 k2
   | false=>
     rw[q2,cond_false]at k1;simp only[zAa]at k1;obtain⟨j1,j2,j3,j4⟩:=k1;rw[cond_false];cases q3:aa k 3 with
     | true=>
       rw[q3,cond_true]at j4;rw[al]at q3;subst q3;exact Zu j1 j2 j3 j4 k2
     | false=>
       rw[q3,cond_false,Bool.or_eq_true]at j4;rw[cond_false];cases q4:aa k 4 with
       | true=>
         rw[al]at q4;subst q4;exact Xn j1 j2 j3 k2
       | false=>
         rw[q4]at j4;rcases j4 with j4|j4
         . cases j4
         . rw[al]at j4;subst j4;exact XE j1 j2 j3 k2
 . cases he
def Se:dJ:=λargs=>match args with
 | [.str [c0,c1,c2,c3],.int .u8 n]=>some (aH [aa n 88] (.ret (.int .i64 (Int.ofNat (aT [c0,c1,c2,c3] 88 88)))))
 | _=>none
def SMC:aR:=oC (aY (aY gX 158 PG) 196 P1) 198 Se
def XJ:dJ:=λargs=>match args with
 | [.str [c0,c1,c2,c3]]=>some (aH [cg c0,cg c1,cg c2,cg c3] (.ret (.tuple [.int .i64 (jJ (Int.ofNat (aT [c0,c1,c2,c3] 88 88))),.int .i64 0])))
 | _=>none
theorem WN{c0 c1 c2 c3:UInt8}:(ByteArray.mk ⟨[c0,c1,c2,c3]⟩).foldl (λ(n:Int) x=>if x==(88:UInt8)then n+1 else n) ((0:Nat):Int)=Int.ofNat (aT [c0,c1,c2,c3] 88 88):=by
 have st:∀c:UInt8,(c==(88:UInt8))=decide (c.toNat=88):=λc=>by
  rw[Bool.eq_iff_iff,beq_iff_eq,zAb];constructor
  . rintro rfl;rfl
  . intro h;exact UInt8.toNat_inj.1 h
 have e:(ByteArray.mk ⟨[c0,c1,c2,c3]⟩).foldl (λ(n:Int) x=>if x==(88:UInt8)then n+1 else n) ((0:Nat):Int)=(λ(n:Int)=>if c3==(88:UInt8)then n+1 else n) ((λ(n:Int)=>if c2==(88:UInt8)then n+1 else n) ((λ(n:Int)=>if c1==(88:UInt8)then n+1 else n) ((λ(n:Int)=>if c0==(88:UInt8)then n+1 else n) 0))):=rfl;rw[e];simp only[st,zAb];have hx:∀c:UInt8,((88:Int)<=(c.toNat:Int)/\(c.toNat:Int)<=88)↔c.toNat=88:=λc=>by omega
 rw[iX,iX,iX,iX,od];simp only[hx,Int.ofNat_eq_natCast];by_cases h0:c0.toNat=88<;>by_cases h1:c1.toNat=88<;>by_cases h2:c2.toNat=88<;>by_cases h3:c3.toNat=88<;>simp only[h0,h1,h2,h3,if_true,if_false]<;>rfl
theorem M4(s:List UInt8)(n:Int)(hn:(ByteArray.mk ⟨s⟩).foldl (λ(n:Int) x=>if x==(88:UInt8)then n+1 else n) ((0:Nat):Int)=n)(w:World):(callFunc 198 #[.string ⟨⟨s⟩⟩,.int .u8 88]).run Tryz.prog w=.ok (.value (.int .i64 n)) w:=by
 have h1:Extern.findNext Tryz.f198=none:=by kernel_rfl
 have h2:Extern.find Tryz.f198=some Extern.BytealgCount.count:=by kernel_rfl
 have h3:Tryz.f198.body.isNone=true:=by kernel_rfl
 have h4:(Tryz.f198.name == "runtime.NumGoroutine")=false:=by kernel_rfl
 rw[run_callFunc_extern Tryz.func198 h4 h3 h1 h2];have hb:(Extern.Bytes.asByte (.int .u8 88)).run Tryz.prog w=.ok (88:UInt8) w:=rfl;have hx:∀x y,Extern.BytealgCount.count #[x,y]=(do
  let b <-Extern.Bytes.bytesOf x
  let c <-Extern.Bytes.asByte y
  pure (Go.goInt (b.foldl (λn x=>if x==c then n+1 else n) (0:Nat)))):=λ_ _=>rfl
 rw[hx];subst hn;simp[Extern.Bytes.bytesOf,hb];rfl
theorem QK:jR Tryz.prog cfg 198 Se:=λargs t v he hv=>by
 unfold Se at he;split at he
 . rename_i c0 c1 c2 c3 n;cases he;obtain⟨h1,hv⟩:=bK hv;rw[al]at h1;subst h1;cases hv;exact λC D m o w hi hok=>.inr ⟨.int .i64 (Int.ofNat (aT [c0,c1,c2,c3] 88 88)),w,by simpa [ap,aj]using M4 _ _ WN w,by simp[aj],bQ (by simp[aD]),dk.refl hi,⟨λ_ _=>rfl,λi h1 h2=>absurd h1 h2⟩⟩
 . cases he
theorem Pu:ak Tryz.prog cfg SMC:=d7 (bm (bm aV (KW 158 _ rfl)) (DF 196 _ rfl)) QK
theorem VV(hS:ak Tryz.prog cfg S):ak Tryz.prog cfg (aY S 113 XJ):=au hS λargs t v he hv=>by
 unfold XJ at he;split at he
 . rename_i c0 c1 c2 c3;cases he;replace hv:=aF hv;obtain⟨⟨h1,h2,h3,h4,-⟩,hv⟩:=hv;cases hv;refine kP Pu ag (bA 1255270) (R:=λQ=>(λ(A:Int)=>cg c0/\cg c1/\cg c2/\cg c3/\ab A 18/\Q (.tuple [.int .i64 (jJ A),.int .i64 0])) (Int.ofNat (aT [c0,c1,c2,c3] 88 88))) (λ_=>by kernel_rfl) λQ' hQ=>?_;try dsimp only
   have hl:=m7 [c0,c1,c2,c3] 88 88;generalize aT [c0,c1,c2,c3] 88 88=n at *;simp only[zAd,List.length_nil]at hl;have g1:ab 0 (Int.ofNat n)=true:=ao.mpr (Int.natCast_nonneg n);have g2:ab (Int.ofNat n) 18=true:=ao.mpr (by simp only[Int.ofNat_eq_natCast];omega);try dsimp only
   simp only[h1,h2,h3,h4,g1,g2,reduceCtorEq,zAh];exact hQ
 . cases he
def Hn(mo:List UInt8):Bool:=af mo [] || !(aa (aL mo) 0)
def kL(b:Bool):eZ:=bif b then .known 1 else .rest 0
def gL(b:Bool):Option Nat:=bif b then none else some 1
def lc(l:List Int):Nat:=l.length
def Q1:lB:=λargs ws=>match args,ws with
 | [.agg [.bool ng,.bool lg,.str s,.int .i64 e,.int .i64 g,.str mo,.str da,.int .u8 a,.int .u8 b,.int .u8 c]],[]=>some (aH [sQ mo da,Nat.ble s.length 1000,Nat.ble mo.length 1000,Nat.ble da.length 1000,ae .i64 e,ae .i64 g,ae .u8 a,ae .u8 b,ae .u8 c,af da [] || !(g9 (eX da))] (.ret (.agg [.bool ng,.bool lg,.str s,.int .i64 e,.int .i64 g,.str mo,.str da,.int .u8 a,.int .u8 b,.int .u8 c,.slice 14 0 (lc (cu mo)) (kL (Hn mo)),.slice 15 0 (lc (eX da)) (kL (af da []))],[.cells (aQ (eX da)) true (gL (af da [])),.cells (aQ (cu mo)) true (gL (Hn mo))])))
 | _,_=>none
noncomputable def SOm:aR:=fw (aY gX 106 K2) 129 (fy 14 [] Qa)
theorem AU:ak Tryz.prog cfg SOm:=bm (bm aV (BU 106 _ rfl)) (O9 129 _ rfl)
theorem dL.two{v v':AV}{x1 x2:aE}{os:List aE}{n k1 k2:Nat}(hk1:k1<n)(hk2:k2<n)(hne:k1≠k2)(h1:os.getD (n-1-k1) .dead=x1)(h2:os.getD (n-1-k2) .dead=x2)(hx1:cR 14 x1)(hx2:cR 14 x2)(hv:kr 14 [(14+k1,14),(14+k2,15)] 20 v'=some v):dL [] v [x2,x1] (v',⟨n,os,[]⟩):=by
 have hv':kr ((Cw cfg []).lo+0) (ia (Cw cfg []).lo 0 [k1,k2]) 20 v'=some v:=hv;have a1:(⟨n,os,[]⟩:aC).at k1=x1:=h1;have a2:(⟨n,os,[]⟩:aC).at k2=x2:=h2;refine(pf dG.lv (C:=Cw cfg []) (st:=⟨.node v' .nil .nil,1,⟨n,os,[]⟩,[],none⟩) (kb:=0) (sel:=[k1,k2]) (ts':=.node v .nil .nil) (o':=⟨2,[x2,x1],[]⟩) Aa (Nat.zero_le _) (λs hs=>?_) (by simp[hne]) (λp hp=>by cases hp) rfl rfl rfl (λi hi=>absurd hi (Nat.not_lt_zero i)) (λt ht=>?_) ?_ (λd hd=>by cases hd) (λi hi=>by cases hi)).mono λs hs=>?_
 . simp only[List.mem_cons,List.not_mem_nil,or_false]at hs;rcases hs with rfl|rfl
   . exact⟨Nat.zero_le _,hk1⟩
   . exact⟨Nat.zero_le _,hk2⟩
 . have:t=0\/t=1:=by simp at ht;omega
   rcases this with rfl|rfl
   . refine .inl ⟨?_,?_⟩
     . show x1=(⟨n,os,[]⟩:aC).at k1;rw[a1]
     . show cR 14 ((⟨n,os,[]⟩:aC).at k1);rw[a1];exact hx1
   . refine .inl ⟨?_,?_⟩
     . show x2=(⟨n,os,[]⟩:aC).at k2;rw[a2]
     . show cR 14 ((⟨n,os,[]⟩:aC).at k2);rw[a2];exact hx2
 . simp only[wy,hv',ob]
 . rw[hs];exact⟨rfl,rfl⟩
theorem Sy(hS:ak Tryz.prog cfg S):ak Tryz.prog cfg (fw S 82 (fy 14 [] Q1)):=by
 refine bm hS (ga dG.lv AD λargs ws t r he hr=>?_);unfold Q1 at he;split at he
 . rename_i ng lg s e g mo da a b c;cases he;replace hr:=aF hr;obtain⟨⟨h1,h2,h3,h4,h5,h6,h7,h8,h9,h10,-⟩,hr⟩:=hr;cases hr;have lowI:∀{L:List Int} {rw:Bool} {gr:Option Nat},cR 14 (.cells (aQ L) rw gr):=λ{L rw gr}=>aO (fY.1 rB);refine⟨?_,λx hx=>?_⟩
   . rcases yO h1 with⟨rfl,rfl⟩|⟨k1,k2,rfl⟩|⟨m0,m1,rfl,k1,k2,k3,k4,k5⟩
     . refine BO AU ag (bA 166227002566) (R:=λQ=>(λ(I:aE)(A B C E F G:AV)(H:eZ)=>(λ(N:List AV)=>(λ(O:aE)=>Nat.ble s.length 1000/\ae .i64 e/\ae .i64 g/\ae .u8 a/\ae .u8 b/\ae .u8 c/\Q (.agg N,⟨5,[O,I,I,O,.cells [.bool ng,.bool lg,.str s,B,C,A,A,E,F,G] true none],[]⟩)) (.cells N true none)) [.bool ng,.bool lg,.str s,B,C,A,A,E,F,G,.slice 16 0 1 H,.slice 17 0 1 H]) (.cells [.int .i64 0] true none) (.str []) (.int .i64 e) (.int .i64 g) (.int .u8 a) (.int .u8 b) (.int .u8 c) (eZ.known 1)) (λ_=>by kernel_rfl) λQ' hQ=>?_;try dsimp only
       have hQ2:=hQ _ (dL.two (k1:=2) (k2:=3) (n:=5) (os:=[.cells [.bool ng,.bool lg,.str s,.int .i64 e,.int .i64 g,.str [],.str [],.int .u8 a,.int .u8 b,.int .u8 c,.slice 16 0 1 (.known 1),.slice 17 0 1 (.known 1)] true none,.cells [.int .i64 0] true none,.cells [.int .i64 0] true none,.cells [.bool ng,.bool lg,.str s,.int .i64 e,.int .i64 g,.str [],.str [],.int .u8 a,.int .u8 b,.int .u8 c,.slice 16 0 1 (.known 1),.slice 17 0 1 (.known 1)] true none,.cells [.bool ng,.bool lg,.str s,.int .i64 e,.int .i64 g,.str [],.str [],.int .u8 a,.int .u8 b,.int .u8 c] true none]) (v':=.agg [.bool ng,.bool lg,.str s,.int .i64 e,.int .i64 g,.str [],.str [],.int .u8 a,.int .u8 b,.int .u8 c,.slice 16 0 1 (.known 1),.slice 17 0 1 (.known 1)]) (by decide) (by decide) (by decide) rfl rfl lowI lowI rfl);try dsimp only
       simp only[h2,h5,h6,h7,h8,h9,reduceCtorEq,zAh];exact hQ2
     . have eM:cu mo=[aL mo]:=by unfold cu;rw[k1,k2];rfl
       have eL:Hn mo=true:=by unfold Hn;rw[k2];simp
       rw[eM,eL]at *;refine BO AU ag (bA 10005677022566) (R:=λQ=>(λ(I:aE)(A B C E F G:AV)(H:eZ)=>(λ(N:List AV)=>(λ(O:aE)=>Nat.ble s.length 1000/\Nat.ble mo.length 1000/\ae .i64 e/\ae .i64 g/\ae .u8 a/\ae .u8 b/\ae .u8 c/\not (aa (aL mo) 0)/\Q (.agg N,⟨6,[.cells [.int .i64 (aL mo)] true none,O,I,I,O,.cells [.bool ng,.bool lg,.str s,A,B,.str mo,C,E,F,G] true none],[]⟩)) (.cells N true none)) [.bool ng,.bool lg,.str s,A,B,.str mo,C,E,F,G,.slice 19 0 1 H,.slice 17 0 1 H]) (.cells [.int .i64 0] true none) (.int .i64 e) (.int .i64 g) (.str []) (.int .u8 a) (.int .u8 b) (.int .u8 c) (eZ.known 1)) (λ_=>by kernel_rfl) λQ' hQ=>?_;try dsimp only
       have hQ2:=hQ _ (dL.two (k1:=5) (k2:=3) (n:=6) (os:=[.cells [.int .i64 (aL mo)] true none,.cells [.bool ng,.bool lg,.str s,.int .i64 e,.int .i64 g,.str mo,.str [],.int .u8 a,.int .u8 b,.int .u8 c,.slice 19 0 1 (.known 1),.slice 17 0 1 (.known 1)] true none,.cells [.int .i64 0] true none,.cells [.int .i64 0] true none,.cells [.bool ng,.bool lg,.str s,.int .i64 e,.int .i64 g,.str mo,.str [],.int .u8 a,.int .u8 b,.int .u8 c,.slice 19 0 1 (.known 1),.slice 17 0 1 (.known 1)] true none,.cells [.bool ng,.bool lg,.str s,.int .i64 e,.int .i64 g,.str mo,.str [],.int .u8 a,.int .u8 b,.int .u8 c] true none]) (v':=.agg [.bool ng,.bool lg,.str s,.int .i64 e,.int .i64 g,.str mo,.str [],.int .u8 a,.int .u8 b,.int .u8 c,.slice 19 0 1 (.known 1),.slice 17 0 1 (.known 1)]) (by decide) (by decide) (by decide) rfl rfl lowI lowI rfl);try dsimp only
       simp only[h2,h3,h5,h6,h7,h8,h9,k2,Bool.not_false,reduceCtorEq,zAh];exact hQ2
     . have eM:cu [m0,m1]=aw m0 m1 12:=by unfold cu;rw[k1];rfl
       have eL:Hn [m0,m1]=false:=by unfold Hn;rw[k1];rfl
       rw[eM,eL]at *;rcases k5 with rfl|⟨d0,d1,rfl,k6,k7⟩
       . refine BO AU ag (bA 1000563002253227002566) (R:=λQ=>(λ(N:aE)(B C E F G H I:AV)(A:List Int)=>(λ(O:List AV)=>(λ(P:aE)=>Nat.ble s.length 1000/\ae .i64 e/\ae .i64 g/\ae .u8 a/\ae .u8 b/\ae .u8 c/\not (aa (aL [m0,m1]) 0)=false/\cg m0/\cg m1/\g9 A=false/\Q (.agg O,⟨6,[.cells (aQ A) true (some 1),P,N,N,P,.cells [.bool ng,.bool lg,.str s,B,C,E,F,G,H,I] true none],[]⟩)) (.cells O true none)) [.bool ng,.bool lg,.str s,B,C,E,F,G,H,I,.slice 19 0 (dy A) (eZ.rest 0),.slice 17 0 1 (eZ.known 1)]) (.cells [.int .i64 0] true none) (.int .i64 e) (.int .i64 g) (.str [m0,m1]) (.str []) (.int .u8 a) (.int .u8 b) (.int .u8 c) (aw m0 m1 12)) (λ_=>by kernel_rfl) λQ' hQ=>?_;try dsimp only
         generalize aw m0 m1 12=M at *;have hQ2:=hQ _ (dL.two (k1:=5) (k2:=3) (n:=6) (os:=[.cells (aQ M) true (some 1),.cells [.bool ng,.bool lg,.str s,.int .i64 e,.int .i64 g,.str [m0,m1],.str [],.int .u8 a,.int .u8 b,.int .u8 c,.slice 19 0 (dy M) (.rest 0),.slice 17 0 1 (.known 1)] true none,.cells [.int .i64 0] true none,.cells [.int .i64 0] true none,.cells [.bool ng,.bool lg,.str s,.int .i64 e,.int .i64 g,.str [m0,m1],.str [],.int .u8 a,.int .u8 b,.int .u8 c,.slice 19 0 (dy M) (.rest 0),.slice 17 0 1 (.known 1)] true none,.cells [.bool ng,.bool lg,.str s,.int .i64 e,.int .i64 g,.str [m0,m1],.str [],.int .u8 a,.int .u8 b,.int .u8 c] true none]) (v':=.agg [.bool ng,.bool lg,.str s,.int .i64 e,.int .i64 g,.str [m0,m1],.str [],.int .u8 a,.int .u8 b,.int .u8 c,.slice 19 0 (dy M) (.rest 0),.slice 17 0 1 (.known 1)]) (by decide) (by decide) (by decide) rfl rfl lowI lowI rfl);try dsimp only
         simp only[h2,h5,h6,h7,h8,h9,k1,k2,k3,k4,Bool.not_true,reduceCtorEq,zAh];exact hQ2
       . have eD:eX [d0,d1]=aw d0 d1 31:=rfl;rw[eD]at *;have n2:g9 (aw d0 d1 31)=false:=by
          rw[show af [d0,d1] []=false from rfl,Bool.false_or,Bool.not_eq_true']at h10;exact h10
         refine BO AU ag (bA 105630022053002253227002566) (R:=λQ=>(λ(O:aE)(C E F G H I N:AV)(A B:List Int)=>(λ(P:List AV)=>(λ(T:aE)=>Nat.ble s.length 1000/\ae .i64 e/\ae .i64 g/\ae .u8 a/\ae .u8 b/\ae .u8 c/\not (aa (aL [m0,m1]) 0)=false/\cg m0/\cg m1/\g9 A=false/\cg d0/\cg d1/\g9 B=false/\Q (.agg P,⟨7,[.cells (aQ B) true (some 1),.cells (aQ A) true (some 1),T,O,O,T,.cells [.bool ng,.bool lg,.str s,C,E,F,G,H,I,N] true none],[]⟩)) (.cells P true none)) [.bool ng,.bool lg,.str s,C,E,F,G,H,I,N,.slice 19 0 (dy A) (eZ.rest 0),.slice 20 0 (dy B) (eZ.rest 0)]) (.cells [.int .i64 0] true none) (.int .i64 e) (.int .i64 g) (.str [m0,m1]) (.str [d0,d1]) (.int .u8 a) (.int .u8 b) (.int .u8 c) (aw m0 m1 12) (aw d0 d1 31)) (λ_=>by kernel_rfl) λQ' hQ=>?_;try dsimp only
         generalize aw m0 m1 12=M at *;generalize aw d0 d1 31=D at *;have hQ2:=hQ _ (dL.two (k1:=5) (k2:=6) (n:=7) (os:=[.cells (aQ D) true (some 1),.cells (aQ M) true (some 1),.cells [.bool ng,.bool lg,.str s,.int .i64 e,.int .i64 g,.str [m0,m1],.str [d0,d1],.int .u8 a,.int .u8 b,.int .u8 c,.slice 19 0 (dy M) (.rest 0),.slice 20 0 (dy D) (.rest 0)] true none,.cells [.int .i64 0] true none,.cells [.int .i64 0] true none,.cells [.bool ng,.bool lg,.str s,.int .i64 e,.int .i64 g,.str [m0,m1],.str [d0,d1],.int .u8 a,.int .u8 b,.int .u8 c,.slice 19 0 (dy M) (.rest 0),.slice 20 0 (dy D) (.rest 0)] true none,.cells [.bool ng,.bool lg,.str s,.int .i64 e,.int .i64 g,.str [m0,m1],.str [d0,d1],.int .u8 a,.int .u8 b,.int .u8 c] true none]) (v':=.agg [.bool ng,.bool lg,.str s,.int .i64 e,.int .i64 g,.str [m0,m1],.str [d0,d1],.int .u8 a,.int .u8 b,.int .u8 c,.slice 19 0 (dy M) (.rest 0),.slice 20 0 (dy D) (.rest 0)]) (by decide) (by decide) (by decide) rfl rfl lowI lowI rfl);try dsimp only
         simp only[h2,h5,h6,h7,h8,h9,k1,k2,k3,k4,k6,k7,n2,Bool.not_true,reduceCtorEq,zAh];exact hQ2
   . simp only[List.mem_cons,List.not_mem_nil,or_false]at hx;rcases hx with rfl|rfl
     . exact lowI
     . exact lowI
 . cases he
noncomputable def NO:aR:=fw (aY (aY V2 47 SW) 113 XJ) 82 (fy 14 [] Q1)
def og(D:List Int)(most:Int):Nat:=(D.filter λd=>ab d most).length
abbrev Ks:List Nat:=[5,8,9,13,63,64,65,74,75,76]
abbrev Em:List Nat:=[5,8,9,63,64,65]
def QA:d9:=λvs o=>match vs,o with
 | [.ptr 17 0,.int .i64 sm,.int .i64 y,.int .i64 mx,.slice 15 0 nM km,.int .i64 lM,.int .i64 i,.slice 16 0 nD kd,.int .i64 lD,.int .i64 j],⟨4,[.cells F true none,.cells w2 true gd,.cells w1 true gm,.cells B true none],[]⟩=>
   some (aH [aa j 0,aa lD (Int.ofNat nD),Nat.ble nD 1000,List.all w2 (cq .i64),Nat.beq w2.length nD,ab 0 sm,ab sm 1000000000,e_ w1,e_ B,ae .i64 mx,bw 18 F] (.ret (.exit 4,[.ptr 17 0,.int .i64 (sm+Int.ofNat (og (gE w2) mx)),.int .i64 y,.int .i64 mx,.slice 15 0 nM km,.int .i64 lM,.int .i64 i,.slice 16 0 nD kd,.int .i64 lD,.int .i64 lD],o)))
 | _,_=>none
theorem lm:ak Tryz.prog cfg NO:=Sy (VV (Gy rL))
theorem Iy{D:List Int}{mx:Int}{j:Nat}(h:j<D.length):Int.ofNat (og (D.take (j+1)) mx)=Int.ofNat (og (D.take j) mx)+bI (ab (D.getD j 0) mx):=by
 rw[oW h];unfold og;rw[List.filter_append,zAg];cases hb:ab (D.getD j 0) mx with
 | true=>simp only[List.filter_cons,hb,if_true,List.filter_nil,zAd,List.length_nil,bI,cond_true];rfl
 | false=>simp only[List.filter_cons,hb,List.filter_nil,List.length_nil,bI,cond_false,Nat.add_zero];exact(Int.add_zero _).symm
theorem Ui:cx Tryz.prog (cH cfg NO) (Cw cfg []) (lb 64 2) 88 Ks QA:=by
 intro vs o t Q hv hq J;unfold QA at hv;split at hv
 . rename_i sm y mx nM km lM i nD kd lD j F w2 gd w1 gm B;cases hv;replace hq:=cL hq;obtain⟨⟨k1,k2,k3,k4,k5,k6,k7,k8,k9,k10,k11,-⟩,hq⟩:=hq;rw[al]at k1 k2;rw[aq]at k3;rw[aK]at k5;rw[ao]at k6 k7;subst k1 k2;have ew:=kA k4;have el:(gE w2).length=w2.length:=by unfold gE;rw[List.length_map]
   generalize gE w2=D at *;rw[k5]at el;subst el ew;have hq:Q (.exit 4,[.ptr 17 0,.int .i64 (sm+Int.ofNat (og D mx)),.int .i64 y,.int .i64 mx,.slice 15 0 nM km,.int .i64 lM,.int .i64 i,.slice 16 0 D.length kd,.int .i64 (Int.ofNat D.length),.int .i64 (Int.ofNat D.length)],⟨4,[.cells F true none,.cells (aQ D) true gd,.cells w1 true gm,.cells B true none],[]⟩):=hq;refine im lm rfl rfl ag (ι:={j:Nat // j<=D.length}) (λz=>[.ptr 17 0,.int .i64 (sm+Int.ofNat (og (D.take z.1) mx)),.int .i64 y,.int .i64 mx,.slice 15 0 nM km,.int .i64 lM,.int .i64 i,.slice 16 0 D.length kd,.int .i64 (Int.ofNat D.length),.int .i64 (Int.ofNat z.1)]) (λz=>⟨4,[.cells F true none,.cells (aQ D) true gd,.cells w1 true gm,.cells B true none],[]⟩) (λz=>D.length-z.1) 4 (λz=>Nat.le_refl _) (λz J=>?_) (Nat.le_refl _) (λJ=>Wk.refl ⟨⟨0,Nat.zero_le _⟩,J,by simp only[List.take_zero];rw[show sm+Int.ofNat (og [] mx)=sm from Int.add_zero sm];rfl⟩) J;obtain⟨j,hj⟩:=z;dsimp only;have one:=@Iy D mx j;have hcl:og (D.take j) mx<=1000:=by
    have h1:og (D.take j) mx<=(D.take j).length:=by unfold og;exact List.length_filter_le _ _
    rw[List.length_take]at h1;omega
   have fin:j=D.length->∃vs2 o2,VW cfg (Cw cfg []) 4 88 Ks [.ptr 17 0,.int .i64 (sm+Int.ofNat (og (D.take j) mx)),.int .i64 y,.int .i64 mx,.slice 15 0 nM km,.int .i64 lM,.int .i64 i,.slice 16 0 D.length kd,.int .i64 (Int.ofNat D.length),.int .i64 (Int.ofNat j)] ⟨4,[.cells F true none,.cells (aQ D) true gd,.cells w1 true gm,.cells B true none],[]⟩ vs2 o2/\Q (.exit 4,vs2,o2):=λh=>by
    subst h;rw[List.take_length];exact⟨_,_,VW.refl,hq⟩
   have go:j<D.length->∀vs o,VW cfg (Cw cfg []) 4 88 Ks vs o [.ptr 17 0,.int .i64 (sm+Int.ofNat (og (D.take (j+1)) mx)),.int .i64 y,.int .i64 mx,.slice 15 0 nM km,.int .i64 lM,.int .i64 i,.slice 16 0 D.length kd,.int .i64 (Int.ofNat D.length),.int .i64 (Int.ofNat (j+1))] ⟨4,[.cells F true none,.cells (aQ D) true gd,.cells w1 true gm,.cells B true none],[]⟩->∃z:{j:Nat // j<=D.length},D.length-z.1<D.length-j/\VW cfg (Cw cfg []) 4 88 Ks vs o [.ptr 17 0,.int .i64 (sm+Int.ofNat (og (D.take z.1) mx)),.int .i64 y,.int .i64 mx,.slice 15 0 nM km,.int .i64 lM,.int .i64 i,.slice 16 0 D.length kd,.int .i64 (Int.ofNat D.length),.int .i64 (Int.ofNat z.1)] ⟨4,[.cells F true none,.cells (aQ D) true gd,.cells w1 true gm,.cells B true none],[]⟩:=λh vs o hv=>⟨⟨j+1,h⟩,by dsimp only;omega,hv⟩;clear hq;have ca:=@qT D j;generalize og (D.take j) mx=m at *;refine jT (bA 1114114114442204) (R:=λQ=>(λ(A C E G H I N V u2:AV)(T U u1:Int)=>(λ(O u6 u7:AV)(u3 u4 u5:Bool)(W:Int)=>(λ(Y Z:AV)(P:Bool)=>(λ(u0:Prop)=>(u3->aW j D.length/\cq .i64 u2/\(u4->(u5->(P->Q (.normal,[A,u6,C,E,G,H,I,N,O,Y],⟨4,[.cells F true none,.cells (aQ D) true gd,.cells w1 true gm,.cells B true none],[]⟩))/\(u0->Q (.normal,[A,u6,C,E,G,H,I,N,O,Z],⟨4,[.cells F true none,.cells (aQ D) true gd,.cells w1 true gm,.cells B true none],[]⟩)))/\(u5=false->(P->Q (.normal,[A,u7,C,E,G,H,I,N,O,Y],⟨4,[.cells F true none,.cells (aQ D) true gd,.cells w1 true gm,.cells B true none],[]⟩))/\(u0->Q (.normal,[A,u7,C,E,G,H,I,N,O,Z],⟨4,[.cells F true none,.cells (aQ D) true gd,.cells w1 true gm,.cells B true none],[]⟩))))/\(u4=false->(P->Q (.normal,[A,V,C,E,G,H,I,N,O,Y],⟨4,[.cells F true none,.cells (aQ D) true gd,.cells w1 true gm,.cells B true none],[]⟩))/\(u0->Q (.normal,[A,V,C,E,G,H,I,N,O,Z],⟨4,[.cells F true none,.cells (aQ D) true gd,.cells w1 true gm,.cells B true none],[]⟩))))/\(u3=false->Q (.exit 4,[A,V,C,E,G,H,I,N,O,.int .i64 T],⟨4,[.cells F true none,.cells (aQ D) true gd,.cells w1 true gm,.cells B true none],[]⟩))) (P=false)) (.int .i64 W) (.int .i64 (IntKind.wrap .i64 W)) (ae .i64 W)) (.int .i64 u1) (.int .i64 U) (.int .i64 (IntKind.wrap .i64 U)) (not (ab u1 T)) (ab (bC u2) mx) (ae .i64 U) (Int.add T 1)) (.ptr 17 0) (.int .i64 y) (.int .i64 mx) (.slice 15 0 nM km) (.int .i64 lM) (.int .i64 i) (.slice 16 0 D.length kd) (.int .i64 (sm+Int.ofNat m)) (List.getD (aQ D) (HAdd.hAdd 0 (HMul.hMul j 1)) (.tuple [])) (Int.ofNat j) (Int.add (sm+Int.ofNat m) 1) (Int.ofNat D.length)) (λ_=>by kernel_rfl) λQ' hQ=>?_;try dsimp only
   rw[jB];by_cases h0:j<D.length
   . have go2:=go h0;rw[one h0]at go2;have hl:aW j D.length=true:=aS.2 h0;have b3:ae .i64 (Int.add (Int.ofNat j) 1)=true:=by rw[aB];simp only[dP,dR];show _<=(j:Int)+1/\(j:Int)+1<=_;omega
     have b4:ae .i64 (Int.add (sm+Int.ofNat m) 1)=true:=by
      rw[aB];simp only[dP,dR];show _<=sm+(m:Int)+1/\sm+(m:Int)+1<=_;omega
     clear go fin;try dsimp only
     rw[decide_eq_false (by omega),ca h0];generalize D.getD j 0=dd at *;cases kk:ab dd mx with
     | true=>
       have go3:=hQ (.normal,_,_) (go2 _ _ VW.refl);rw[kk,show bI true=1 from rfl,<-Int.add_assoc]at go3;simp only[cq,bC,gN,kS,show Nat.beq 3 3=true from rfl,hl,b3,b4,kk,Bool.not_false,reduceCtorEq,zAh];exact go3
     | false=>
       have go3:=hQ (.normal,_,_) (go2 _ _ VW.refl);rw[kk,show bI false=0 from rfl,Int.add_zero]at go3;simp only[cq,bC,gN,kS,show Nat.beq 3 3=true from rfl,hl,b3,b4,kk,Bool.not_false,reduceCtorEq,zAh];exact go3
   . have fin2:=hQ (.exit 4,_,_) (fin (by omega));try dsimp only
     rw[decide_eq_true (by omega)];simp only[Bool.not_true,reduceCtorEq,zAh];exact fin2
 . cases hv
end Go.Ev
