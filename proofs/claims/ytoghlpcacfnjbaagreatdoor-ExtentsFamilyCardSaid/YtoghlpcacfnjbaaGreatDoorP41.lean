import Derived.Test.YtoghlpcacfnjbaaGreatDoorP40
set_option linter.all false
set_option maxRecDepth 100000
set_option maxHeartbeats 4000000
namespace Go.Ev
open Go Go.Proofs
variable{ng lg dz sz xb mz ft:Bool}{s mo da:List UInt8}{e y0 y1 y2 p b c d x g ch ef rk:Int}{S:aQ}{n:Nat}
noncomputable def LOf:cx:=iz jE 0 (d9 93 [1,5,6,7] Zf)
noncomputable def SQ1:aQ:=eQ gZ 28 (fl 14 [4] Yt)
noncomputable def SQ3:aQ:=bb ZV 30 FN
def CH(x:Int)(C:List Ci):Int:=bif Nat.beq (yZ x C) 0 then 1 else bif Nat.beq (yZ x C) C.length then 3 else 2
def zw(a b c d p:Int):Bool:=aa a 0&&aa c 0&&aa (eo b p) (eo d p)
def qP(a b c d p:Int):Bool:=ab 1 p&&(ab p 3&&((!(aa a 0) || lT b p)&&((!(aa c 0) || lT d p)&&(!(aa a 0&&aa c 0) || (ab (eo b p) (eo d p)&&ab (eo d p-eo b p) 1000000)))))
def tR(k:Int)(ng:Bool)(s:List UInt8)(e:Int)(mo da:List UInt8)(p a b c d x:Int):Int:=bif aa k 2 then CH x (aP ng s e mo da)else jc (cP a b c d x) (cP a b c d x&&(bif aa k 3 then zw a b c d p else bif aa k 4 then aa x d else aa x b))
def xf(k:Int)(ng lg:Bool)(s:List UInt8)(e g:Int)(mo da:List UInt8)(p a b c d:Int):Bool:=bif aa k 2 then aa g 0&&(iM ng lg s e mo da&&(Nat.ble (aP ng s e mo da).length 1000000&&(!(Nat.beq (aP ng s e mo da).length 0)&&mh (aP ng s e mo da))))else af .i64 b&&(af .i64 d&&(aa (bA a b c d) 0&&(bif aa k 3 then qP a b c d p else aa k 4 || aa k 5)))
def Yu:kS:=λargs ws=>match args,ws with
 | [.h [.a .u8 k,.c 14 0 n K,.b ng,.b lg,.d s,.a .i64 e,.a .i64 g,.d mo,.d da,.a .u8 y0,.a .u8 y1,.a .u8 y2,.a .u8 p,.a .i8 a,.a .i64 b,.a .i8 c,.a .i64 d],.a .i64 x],[.a w false none]=>some (aH [aa k 1,eJ w,Nat.beq (g8 w).length n,Nat.ble 1 n,Nat.ble n 4,j9 (g8 w),af .i64 x] (.a0 (.a .i64 (jc (bq (g8 w) x) (bq (g8 w) x)),[])))
 | [.h [.a .u8 k,.f,.b ng,.b lg,.d s,.a .i64 e,.a .i64 g,.d mo,.d da,.a .u8 y0,.a .u8 y1,.a .u8 y2,.a .u8 p,.a .i8 a,.a .i64 b,.a .i8 c,.a .i64 d],.a .i64 x],[]=>some (aH [xf k ng lg s e g mo da p a b c d,af .i64 x] (.a0 (.a .i64 (tR k ng s e mo da p a b c d x),[])))
 | _,_=>none
def Td:bj tab 11=some (dH 11,aL 11):=by kernel_rfl
def NZ:(bz (aL 11)).map (·.1)=[0]:=by kernel_rfl
theorem Tv:ak Tryz.prog cfg SQ1:=UY aW
theorem FE:ak Tryz.prog cfg SQ3:=J_ BN
def Ri(c:Ci):Rn:=⟨0,iO c.1 c.2.1 c.2.2,0,iD c.1 c.2.1 c.2.2⟩
theorem yq:∀{C:List Ci},cK C=bh (C.map Ri)
 | []=>rfl
 | c::C=>by
   show .a .i8 0::.a .i64 (iO c.1 c.2.1 c.2.2)::.a .i8 0::.a .i64 (iD c.1 c.2.1 c.2.2)::cK C=_;rw[yq];rfl
theorem vS:∀{C:List Ci},mh C->eJ (cK C)/\j9 (C.map Ri)=true
 | [],_=>⟨rfl,rfl⟩
 | c::C,h=>by
   unfold mh at h;rw[List.all_cons,zAa]at h;obtain⟨h1,h2⟩:=h;obtain⟨i1,i2⟩:=@vS C h2;have bd:=Gx h1;have r1:af .i64 (iO c.1 c.2.1 c.2.2)=true:=by rw[aE];simp only[eH,eE];omega
   have r2:af .i64 (iD c.1 c.2.1 c.2.2)=true:=by rw[aE];simp only[eH,eE];omega
   refine⟨?_,?_⟩
   . show(af .i64 (iO c.1 c.2.1 c.2.2)&&(af .i64 (iD c.1 c.2.1 c.2.2)&&eJ (cK C)))=true;rw[r1,r2,i1];rfl
   . unfold j9 at i2 ⊢;rw[List.map_cons,List.all_cons,i2,Bool.and_true];exact ao.mpr (Qo bd.2.1)
theorem Gy{x:Int}:∀{C:List Ci},pV (C.map Ri) x=yZ x C
 | []=>rfl
 | c::C=>by
   have ih:=@Gy x C;unfold pV yZ at ih ⊢;rw[List.map_cons,List.filter_cons,List.filter_cons];have e:cP (Ri c).a (Ri c).b (Ri c).c (Ri c).d x=vZ c.1 c.2.1 c.2.2 x:=JS;rw[e];cases vZ c.1 c.2.1 c.2.2 x with
   | true=>simp only[if_true,zAf,ih]
   | false=>simp only[Bool.false_eq_true,if_false];exact ih
theorem W_{h:Bool}:jc h h=Int.add 1 (Int.mul 2 (bI h)):=by cases h<;>rfl
theorem YC{a:Int}(h1:iM ng lg s e mo da)(h2:Nat.ble (aP ng s e mo da).length 1000000)(h3:Nat.beq (aP ng s e mo da).length 0=false)(h4:mh (aP ng s e mo da))(hx:af .i64 x) :
 bu Tryz.prog cfg 11 [.h [.a .u8 2,.f,.b ng,.b lg,.d s,.a .i64 e,.a .i64 0,.d mo,.d da,.a .u8 y0,.a .u8 y1,.a .u8 y2,.a .u8 p,.a .i8 a,.a .i64 b,.a .i8 c,.a .i64 d],.a .i64 x] [] (.a .i64 (CH x (aP ng s e mo da))) []:=by
 refine kV BN (L:=LOf) Td (by simp) (dv NZ λi hi e he st Q hw=>?_) (jJ (bE 11414022700275666) (R:=λQ=>(λ(B:List Rn)(A:Nat)=>(λ(C:Bool)(E:Int)=>(λ(F:Bool)=>iM ng lg s e mo da/\C/\not (Nat.beq A 0)/\mh (aP ng s e mo da)/\eJ (cK (aP ng s e mo da))/\Nat.beq B.length A/\C/\j9 B/\af .i64 x/\(∀J1:Nat->Value,(aa E 0->Q (.a .i64 1))/\(aa E 0=false->(F->Q (.a .i64 3))/\(F=false->Q (.a .i64 2))))) (aa E (Int.ofNat A))) (Nat.ble A 1000000) (Int.ofNat (pV B x))) (g8 (cK (aP ng s e mo da))) (List.length (aP ng s e mo da))) (λ_=>by kernel_rfl) λQ' hQ=>?_) (by simp[aC])
 . have hi:i=0:=by simp at hi;omega
   subst hi;cases he;exact bR (cC.a0 BN) (by decide) rfl Yf hw
 . have hQ:=hQ _ rfl;unfold CH at hQ;dsimp only;rw[yq,iJ,Gy,<-yq,List.length_map];obtain⟨f1,f2⟩:=vS h4;have cc:Nat.beq (aP ng s e mo da).length (aP ng s e mo da).length=true:=aJ.mpr rfl;generalize aP ng s e mo da=C at *;have n0:aa (Int.ofNat (yZ x C)) 0=Nat.beq (yZ x C) 0:=by rw[Bool.eq_iff_iff,ao,aJ];simp only[Int.ofNat_eq_natCast];omega
   have n1:aa (Int.ofNat (yZ x C)) (Int.ofNat C.length)=Nat.beq (yZ x C) C.length:=by rw[Bool.eq_iff_iff,ao,aJ];simp only[Int.ofNat_eq_natCast];omega
   try dsimp only
   rw[n0,n1];cases g0:Nat.beq (yZ x C) 0<;>cases g1:Nat.beq (yZ x C) C.length<;>rw[g0,g1]at hQ<;>simp only[h1,h2,h3,h4,hx,f1,f2,cc,zAj,Bool.not_false,reduceCtorEq,zAh]at hQ ⊢<;>exact λ_=>hQ
theorem Ya{ng lg:Bool}{s:List UInt8}{e g:Int}{mo da:List UInt8}{y0 y1 y2 p a b c d x:Int}{K:fg}{R:List Rn}(hi:eJ (bh R))(h1:1<=R.length)(h4:R.length<=4)(hr:j9 R)(hx:af .i64 x) :
 bu Tryz.prog cfg 11 [.h [.a .u8 1,.c 14 0 R.length K,.b ng,.b lg,.d s,.a .i64 e,.a .i64 g,.d mo,.d da,.a .u8 y0,.a .u8 y1,.a .u8 y2,.a .u8 p,.a .i8 a,.a .i64 b,.a .i8 c,.a .i64 d],.a .i64 x] [.a (bh R) false none] (.a .i64 (jc (bq R x) (bq R x))) []:=by
 refine ns Tv fu ai (bE 114124277000) (R:=λQ=>(λ(F:Nat)=>(λ(A:List AV)=>(λ(B:List Rn)=>(λ(C:Int)=>(λ(G:Bool)(E H:Int)=>(λ(I:Bool)=>and true (and (Nat.ble (HAdd.hAdd 0 F) (bh R).length) (bc 14 A))/\eJ A/\Nat.beq B.length R.length/\Nat.ble 1 R.length/\Nat.ble R.length 4/\j9 B/\af .i64 x/\(G->af .i64 H/\Q (.a .i64 H))/\(G=false->(I->Q (.a .i64 E))/\(I=false->Q (.a .i64 (IntKind.wrap .i64 E))))) (af .i64 E)) (af .i64 C) (Int.add 1 (IntKind.wrap .i64 C)) (Int.add 1 C)) (Int.mul 2 (bI (bq B x)))) (g8 A)) (b_ (bh R) 0 F)) (HMul.hMul R.length 4)) (λ_=>by kernel_rfl) λQ' hQ=>?_;try dsimp only
 rw[W_]at hQ;try dsimp only
 rw[l_,iJ];have l1:Nat.ble (0+R.length*4) (bh R).length=true:=al.mpr (by rw[kz];omega);have l2:=@ij R;have l3:Nat.beq R.length R.length=true:=aJ.mpr rfl;have l4:=al.mpr h1;have l5:=al.mpr h4;generalize bq R x=h at *;have m1:af .i64 (Int.mul 2 (bI h))=true:=by cases h<;>rfl
 have m2:af .i64 (Int.add 1 (Int.mul 2 (bI h)))=true:=by cases h<;>rfl
 simp only[hi,hr,hx,l1,l2,l3,l4,l5,m1,m2,Bool.and_self,reduceCtorEq,zAh];exact hQ
theorem Ud{b:Bool}:aa (bI b) 0=!b:=by cases b<;>rfl
theorem Zu{a:Int}(h1:af .i64 b)(h2:af .i64 d)(h3:aa (bA a b c d) 0)(hu:qP a b c d p)(hx:af .i64 x) :
 bu Tryz.prog cfg 11 [.h [.a .u8 3,.f,.b ng,.b lg,.d s,.a .i64 e,.a .i64 g,.d mo,.d da,.a .u8 y0,.a .u8 y1,.a .u8 y2,.a .u8 p,.a .i8 a,.a .i64 b,.a .i8 c,.a .i64 d],.a .i64 x] [] (.a .i64 (jc (cP a b c d x) (cP a b c d x&&zw a b c d p))) []:=by
 unfold qP at hu;simp only[zAa]at hu;obtain⟨u1,u2,u3,u4,u5⟩:=hu;refine nF FE ai (bE 114270511412427054277000666) (R:=λQ=>(λ(A B G I:Bool)(H N:Int)=>(λ(O:Bool)(C E:Int)=>(λ(P U:Bool)(F T:Int)=>(λ(V:Bool)=>(λ(W:Prop->Prop)=>A/\B/\ab 1 p/\ab p 3/\or (not (aa a 0)) (lT b p)/\or (not (aa c 0)) (lT d p)/\or (not G) (and (ab (eo b p) (eo d p)) (ab H 1000000))/\(O->W ((P->af .i64 T/\Q (.a .i64 T))/\(P=false->(V->Q (.a .i64 F))/\(V=false->Q (.a .i64 (IntKind.wrap .i64 F))))))/\(O=false->W ((U->Q (.a .i64 E))/\(U=false->Q (.a .i64 (IntKind.wrap .i64 E)))))) (λu0=>A/\B/\af .i64 x/\I/\u0)) (af .i64 F)) (af .i64 C) (af .i64 E) (Int.add 1 (IntKind.wrap .i64 C)) (Int.add 1 C)) (aa (cond G (HAdd.hAdd H 1) (Neg.neg 1)) 1) (Int.mul 2 N) (Int.add 1 N)) (af .i64 b) (af .i64 d) (and (aa a 0) (aa c 0)) (aa (bA a b c d) 0) (HSub.hSub (eo d p) (eo b p)) (bI (cP a b c d x))) (λ_=>by kernel_rfl) λQ' hQ=>?_;try dsimp only
 have e1:aa (bif aa a 0&&aa c 0 then eo d p-eo b p+1 else -1) 1=zw a b c d p:=by
  unfold zw;cases k:(aa a 0&&aa c 0)with
  | false=>rfl
  | true=>
    rw[cond_true,Bool.true_and,Bool.eq_iff_iff,ao,ao];omega
 rw[show aa (cond (Bool.and (aa a 0) (aa c 0)) (HAdd.hAdd (HSub.hSub (eo d p) (eo b p)) 1) (Neg.neg 1)) 1=zw a b c d p from e1];generalize cP a b c d x=h at *;have m1:af .i64 (Int.mul 2 (bI h))=true:=by cases h<;>rfl
 have m2:af .i64 (Int.add 1 (Int.mul 2 (bI h)))=true:=by cases h<;>rfl
 have m3:af .i64 (Int.add 1 (bI h))=true:=by cases h<;>rfl
 have v1:jc h (h&&true)=Int.add 1 (Int.mul 2 (bI h)):=by cases h<;>rfl
 have v2:jc h (h&&false)=Int.add 1 (bI h):=by cases h<;>rfl
 cases k:zw a b c d p<;>rw[k]at hQ<;>simp only[h1,h2,h3,hx,u1,u2,show(!aa a 0 || lT b p)=true from u3,show(!aa c 0 || lT d p)=true from u4,show(!(aa a 0&&aa c 0) || (aa 0 0&&true))=true by simp[show aa 0 0=true from rfl],m1,m2,m3,v1,v2,reduceCtorEq,zAh]at hQ ⊢
 . simp only[show(!(aa a 0&&aa c 0) || (ab (eo b p) (eo d p)&&ab (eo d p-eo b p) 1000000))=true by simpa only[Bool.and_eq_true,Bool.or_eq_true]using u5,reduceCtorEq,zAh];exact hQ
 . simp only[show(!(aa a 0&&aa c 0) || (ab (eo b p) (eo d p)&&ab (eo d p-eo b p) 1000000))=true by simpa only[Bool.and_eq_true,Bool.or_eq_true]using u5,reduceCtorEq,zAh];exact hQ
theorem X6{a:Int}(h1:af .i64 b)(h2:af .i64 d)(h3:aa (bA a b c d) 0)(hx:af .i64 x) :
 bu Tryz.prog cfg 11 [.h [.a .u8 4,.f,.b ng,.b lg,.d s,.a .i64 e,.a .i64 g,.d mo,.d da,.a .u8 y0,.a .u8 y1,.a .u8 y2,.a .u8 p,.a .i8 a,.a .i64 b,.a .i8 c,.a .i64 d],.a .i64 x] [] (.a .i64 (jc (cP a b c d x) (cP a b c d x&&aa x d))) []:=by
 refine nF FE ai (bE 1023005810302005220246142756) (R:=λQ=>(λ(C E:Bool)=>(λ(A:Bool)=>(λ(B:Prop)=>af .i64 b/\af .i64 d/\af .i64 x/\aa (bA a b c d) 0/\(E->Q (.a .i64 1))/\(E=false->(A->A/\A/\A/\A/\C=false/\Q (.a .i64 2))/\(B->B/\B/\B/\B/\C/\Q (.a .i64 3)))) (A=false)) (not C)) (aa x d) (aa (bI (cP a b c d x)) 0)) (λ_=>by kernel_rfl) λQ' hQ=>?_;try dsimp only
 rw[Ud];cases k:cP a b c d x<;>cases k':aa x d<;>rw[k,k']at hQ<;>simp only[h1,h2,h3,hx,k',Bool.not_true,Bool.not_false,Bool.true_and,Bool.false_and,reduceCtorEq,zAh]at hQ ⊢<;>exact hQ
theorem Z4{a:Int}(h1:af .i64 b)(h2:af .i64 d)(h3:aa (bA a b c d) 0)(hx:af .i64 x) :
 bu Tryz.prog cfg 11 [.h [.a .u8 5,.f,.b ng,.b lg,.d s,.a .i64 e,.a .i64 g,.d mo,.d da,.a .u8 y0,.a .u8 y1,.a .u8 y2,.a .u8 p,.a .i8 a,.a .i64 b,.a .i8 c,.a .i64 d],.a .i64 x] [] (.a .i64 (jc (cP a b c d x) (cP a b c d x&&aa x b))) []:=by
 refine nF FE ai (bE 11405661427056) (R:=λQ=>(λ(A:Bool)=>af .i64 b/\af .i64 d/\af .i64 x/\aa (bA a b c d) 0/\(A->Q (.a .i64 1))/\(A=false->(aa x b->Q (.a .i64 3))/\(aa x b=false->Q (.a .i64 2)))) (aa (bI (cP a b c d x)) 0)) (λ_=>by kernel_rfl) λQ' hQ=>?_;try dsimp only
 rw[Ud];cases k:cP a b c d x<;>cases k':aa x b<;>rw[k,k']at hQ<;>simp only[h1,h2,h3,hx,k',Bool.not_true,Bool.not_false,Bool.true_and,Bool.false_and,reduceCtorEq,zAh]at hQ ⊢<;>exact hQ
theorem UW(hS:ak Tryz.prog cfg S):ak Tryz.prog cfg (eQ S 11 (fl 14 [4] Yu)):=by
 refine bm hS (fW dI.lv Az λargs ws t r he hr=>?_);unfold Yu at he;split at he
 . rename_i k n K ng lg s e g mo da y0 y1 y2 p a b c d x w;cases he;replace hr:=aF hr;obtain⟨⟨k1,k2,k3,k4,k5,k6,k7,-⟩,hr⟩:=hr;cases hr;rw[ao]at k1;rw[aJ]at k3;rw[al]at k4 k5;subst k1 k3;have ew:=hZ k2;refine⟨?_,λx hx=>by cases hx⟩;have h:=@Ya ng lg s e g mo da y0 y1 y2 p a b c d x K (g8 w) (by rw[ew];exact k2) k4 k5 k6 k7;rw[ew]at h;exact h
 . rename_i k ng lg s e g mo da y0 y1 y2 p a b c d x;cases he;replace hr:=aF hr;obtain⟨⟨k1,k2,-⟩,hr⟩:=hr;cases hr;refine⟨?_,λx hx=>by cases hx⟩;unfold xf at k1;unfold tR;cases q2:aa k 2 with
   | true=>
     rw[q2,cond_true]at k1;rw[ao]at q2;subst q2;simp only[zAa,Bool.not_eq_true']at k1;obtain⟨j1,j2,j3,j4,j5⟩:=k1;rw[ao]at j1;subst j1;exact YC j2 j3 j4 j5 k2
   | false=>
     rw[q2,cond_false]at k1;simp only[zAa]at k1;obtain⟨j1,j2,j3,j4⟩:=k1;rw[cond_false];cases q3:aa k 3 with
     | true=>
       rw[q3,cond_true]at j4;rw[ao]at q3;subst q3;exact Zu j1 j2 j3 j4 k2
     | false=>
       rw[q3,cond_false,Bool.or_eq_true]at j4;rw[cond_false];cases q4:aa k 4 with
       | true=>
         rw[ao]at q4;subst q4;exact X6 j1 j2 j3 k2
       | false=>
         rw[q4]at j4;rcases j4 with j4|j4
         . cases j4
         . rw[ao]at j4;subst j4;exact Z4 j1 j2 j3 k2
 . cases he
def IO(mo:List UInt8):Bool:=ae mo [] || !(aa (aR mo) 0)
def kL(b:Bool):fg:=bif b then .b 1 else .a 0
def gL(b:Bool):Option Nat:=bif b then none else some 1
def kZ(l:List Int):Nat:=l.length
def Rv:kS:=λargs ws=>match args,ws with
 | [.h [.b ng,.b lg,.d s,.a .i64 e,.a .i64 g,.d mo,.d da,.a .u8 a,.a .u8 b,.a .u8 c]],[]=>some (aH [wh mo da,Nat.ble s.length 1000,Nat.ble mo.length 1000,Nat.ble da.length 1000,af .i64 e,af .i64 g,af .u8 a,af .u8 b,af .u8 c,ae da [] || !(gU (dF da))] (.a0 (.h [.b ng,.b lg,.d s,.a .i64 e,.a .i64 g,.d mo,.d da,.a .u8 a,.a .u8 b,.a .u8 c,.c 14 0 (kZ (cA mo)) (kL (IO mo)),.c 15 0 (kZ (dF da)) (kL (ae da []))],[.a (aI (dF da)) true (gL (ae da [])),.a (aI (cA mo)) true (gL (IO mo))])))
 | _,_=>none
noncomputable def SOm:aQ:=eQ (bb gZ 106 NO) 129 (fl 14 [] QR)
theorem BZ:ak Tryz.prog cfg SOm:=bm (bm aW (GK 106 _ rfl)) (Pl 129 _ rfl)
theorem dL.d0{v v':AV}{x1 x2:aD}{os:List aD}{k1 k2:Nat}(hk1:k1<n)(hk2:k2<n)(hne:k1≠k2)(h1:os.getD (n-1-k1) .b=x1)(h2:os.getD (n-1-k2) .b=x2)(hx1:cR 14 x1)(hx2:cR 14 x2)(hv:kG 14 [(14+k1,14),(14+k2,15)] 20 v'=some v):dL [] v [x2,x1] (v',⟨n,os,[]⟩):=by
 have hv':kG ((Cw cfg []).lo+0) (io (Cw cfg []).lo 0 [k1,k2]) 20 v'=some v:=hv;have a1:(⟨n,os,[]⟩:aB).at k1=x1:=h1;have a2:(⟨n,os,[]⟩:aB).at k2=x2:=h2;refine(oX dI.lv (C:=Cw cfg []) (st:=⟨.c0 v' .b0 .b0,1,⟨n,os,[]⟩,[],none⟩) (kb:=0) (sel:=[k1,k2]) (ts':=.c0 v .b0 .b0) (o':=⟨2,[x2,x1],[]⟩) zW (Nat.zero_le _) (λs hs=>?_) (by simp[hne]) (λp hp=>by cases hp) rfl rfl rfl (λi hi=>absurd hi (Nat.not_lt_zero i)) (λt ht=>?_) ?_ (λd hd=>by cases hd) (λi hi=>by cases hi)).b0 λs hs=>?_
 . simp only[List.mem_cons,List.not_mem_nil,or_false]at hs;rcases hs with rfl|rfl
   . exact⟨Nat.zero_le _,hk1⟩
   . exact⟨Nat.zero_le _,hk2⟩
 . have:t=0\/t=1:=by simp at ht;omega
   rcases this with rfl|rfl
   . refine .inl ⟨?_,?_⟩
     . show x1=(⟨n,os,[]⟩:aB).at k1;rw[a1]
     . show cR 14 ((⟨n,os,[]⟩:aB).at k1);rw[a1];exact hx1
   . refine .inl ⟨?_,?_⟩
     . show x2=(⟨n,os,[]⟩:aB).at k2;rw[a2]
     . show cR 14 ((⟨n,os,[]⟩:aB).at k2);rw[a2];exact hx2
 . simp only[xB,hv',ob]
 . rw[hs];exact⟨rfl,rfl⟩
theorem Qp(hS:ak Tryz.prog cfg S):ak Tryz.prog cfg (eQ S 82 (fl 14 [] Rv)):=by
 refine bm hS (fW dI.lv Az λargs ws t r he hr=>?_);unfold Rv at he;split at he
 . rename_i ng lg s e g mo da a b c;cases he;replace hr:=aF hr;obtain⟨⟨h1,h2,h3,h4,h5,h6,h7,h8,h9,h10,-⟩,hr⟩:=hr;cases hr;have lowI:∀{L:List Int} {rw:Bool} {gr:Option Nat},cR 14 (.a (aI L) rw gr):=λ{L rw gr}=>aO (gj.1 yY);refine⟨?_,λx hx=>?_⟩
   . rcases qG h1 with⟨rfl,rfl⟩|⟨k1,k2,rfl⟩|⟨m0,m1,rfl,k1,k2,k3,k4,k5⟩
     . refine Cs BZ ai (bE 166227002566) (R:=λQ=>(λ(I:aD)(A B C E F G:AV)(H:fg)=>(λ(N:List AV)=>(λ(O:aD)=>Nat.ble s.length 1000/\af .i64 e/\af .i64 g/\af .u8 a/\af .u8 b/\af .u8 c/\Q (.h N,⟨5,[O,I,I,O,.a [.b ng,.b lg,.d s,B,C,A,A,E,F,G] true none],[]⟩)) (.a N true none)) [.b ng,.b lg,.d s,B,C,A,A,E,F,G,.c 16 0 1 H,.c 17 0 1 H]) (.a [.a .i64 0] true none) (.d []) (.a .i64 e) (.a .i64 g) (.a .u8 a) (.a .u8 b) (.a .u8 c) (fg.b 1)) (λ_=>by kernel_rfl) λQ' hQ=>?_;try dsimp only
       have hQ2:=hQ _ (dL.d0 (k1:=2) (k2:=3) (n:=5) (os:=[.a [.b ng,.b lg,.d s,.a .i64 e,.a .i64 g,.d [],.d [],.a .u8 a,.a .u8 b,.a .u8 c,.c 16 0 1 (.b 1),.c 17 0 1 (.b 1)] true none,.a [.a .i64 0] true none,.a [.a .i64 0] true none,.a [.b ng,.b lg,.d s,.a .i64 e,.a .i64 g,.d [],.d [],.a .u8 a,.a .u8 b,.a .u8 c,.c 16 0 1 (.b 1),.c 17 0 1 (.b 1)] true none,.a [.b ng,.b lg,.d s,.a .i64 e,.a .i64 g,.d [],.d [],.a .u8 a,.a .u8 b,.a .u8 c] true none]) (v':=.h [.b ng,.b lg,.d s,.a .i64 e,.a .i64 g,.d [],.d [],.a .u8 a,.a .u8 b,.a .u8 c,.c 16 0 1 (.b 1),.c 17 0 1 (.b 1)]) (by decide) (by decide) (by decide) rfl rfl lowI lowI rfl);try dsimp only
       simp only[h2,h5,h6,h7,h8,h9,reduceCtorEq,zAh];exact hQ2
     . have eM:cA mo=[aR mo]:=by unfold cA;rw[k1,k2];rfl
       have eL:IO mo=true:=by unfold IO;rw[k2];simp
       rw[eM,eL]at *;refine Cs BZ ai (bE 10005677022566) (R:=λQ=>(λ(I:aD)(A B C E F G:AV)(H:fg)=>(λ(N:List AV)=>(λ(O:aD)=>Nat.ble s.length 1000/\Nat.ble mo.length 1000/\af .i64 e/\af .i64 g/\af .u8 a/\af .u8 b/\af .u8 c/\not (aa (aR mo) 0)/\Q (.h N,⟨6,[.a [.a .i64 (aR mo)] true none,O,I,I,O,.a [.b ng,.b lg,.d s,A,B,.d mo,C,E,F,G] true none],[]⟩)) (.a N true none)) [.b ng,.b lg,.d s,A,B,.d mo,C,E,F,G,.c 19 0 1 H,.c 17 0 1 H]) (.a [.a .i64 0] true none) (.a .i64 e) (.a .i64 g) (.d []) (.a .u8 a) (.a .u8 b) (.a .u8 c) (fg.b 1)) (λ_=>by kernel_rfl) λQ' hQ=>?_;try dsimp only
       have hQ2:=hQ _ (dL.d0 (k1:=5) (k2:=3) (n:=6) (os:=[.a [.a .i64 (aR mo)] true none,.a [.b ng,.b lg,.d s,.a .i64 e,.a .i64 g,.d mo,.d [],.a .u8 a,.a .u8 b,.a .u8 c,.c 19 0 1 (.b 1),.c 17 0 1 (.b 1)] true none,.a [.a .i64 0] true none,.a [.a .i64 0] true none,.a [.b ng,.b lg,.d s,.a .i64 e,.a .i64 g,.d mo,.d [],.a .u8 a,.a .u8 b,.a .u8 c,.c 19 0 1 (.b 1),.c 17 0 1 (.b 1)] true none,.a [.b ng,.b lg,.d s,.a .i64 e,.a .i64 g,.d mo,.d [],.a .u8 a,.a .u8 b,.a .u8 c] true none]) (v':=.h [.b ng,.b lg,.d s,.a .i64 e,.a .i64 g,.d mo,.d [],.a .u8 a,.a .u8 b,.a .u8 c,.c 19 0 1 (.b 1),.c 17 0 1 (.b 1)]) (by decide) (by decide) (by decide) rfl rfl lowI lowI rfl);try dsimp only
       simp only[h2,h3,h5,h6,h7,h8,h9,k2,Bool.not_false,reduceCtorEq,zAh];exact hQ2
     . have eM:cA [m0,m1]=ay m0 m1 12:=by unfold cA;rw[k1];rfl
       have eL:IO [m0,m1]=false:=by unfold IO;rw[k1];rfl
       rw[eM,eL]at *;rcases k5 with rfl|⟨d0,d1,rfl,k6,k7⟩
       . refine Cs BZ ai (bE 1000563002253227002566) (R:=λQ=>(λ(N:aD)(B C E F G H I:AV)(A:List Int)=>(λ(O:List AV)=>(λ(P:aD)=>Nat.ble s.length 1000/\af .i64 e/\af .i64 g/\af .u8 a/\af .u8 b/\af .u8 c/\not (aa (aR [m0,m1]) 0)=false/\cr m0/\cr m1/\gU A=false/\Q (.h O,⟨6,[.a (aI A) true (some 1),P,N,N,P,.a [.b ng,.b lg,.d s,B,C,E,F,G,H,I] true none],[]⟩)) (.a O true none)) [.b ng,.b lg,.d s,B,C,E,F,G,H,I,.c 19 0 (dG A) (fg.a 0),.c 17 0 1 (fg.b 1)]) (.a [.a .i64 0] true none) (.a .i64 e) (.a .i64 g) (.d [m0,m1]) (.d []) (.a .u8 a) (.a .u8 b) (.a .u8 c) (ay m0 m1 12)) (λ_=>by kernel_rfl) λQ' hQ=>?_;try dsimp only
         generalize ay m0 m1 12=M at *;have hQ2:=hQ _ (dL.d0 (k1:=5) (k2:=3) (n:=6) (os:=[.a (aI M) true (some 1),.a [.b ng,.b lg,.d s,.a .i64 e,.a .i64 g,.d [m0,m1],.d [],.a .u8 a,.a .u8 b,.a .u8 c,.c 19 0 (dG M) (.a 0),.c 17 0 1 (.b 1)] true none,.a [.a .i64 0] true none,.a [.a .i64 0] true none,.a [.b ng,.b lg,.d s,.a .i64 e,.a .i64 g,.d [m0,m1],.d [],.a .u8 a,.a .u8 b,.a .u8 c,.c 19 0 (dG M) (.a 0),.c 17 0 1 (.b 1)] true none,.a [.b ng,.b lg,.d s,.a .i64 e,.a .i64 g,.d [m0,m1],.d [],.a .u8 a,.a .u8 b,.a .u8 c] true none]) (v':=.h [.b ng,.b lg,.d s,.a .i64 e,.a .i64 g,.d [m0,m1],.d [],.a .u8 a,.a .u8 b,.a .u8 c,.c 19 0 (dG M) (.a 0),.c 17 0 1 (.b 1)]) (by decide) (by decide) (by decide) rfl rfl lowI lowI rfl);try dsimp only
         simp only[h2,h5,h6,h7,h8,h9,k1,k2,k3,k4,Bool.not_true,reduceCtorEq,zAh];exact hQ2
       . have eD:dF [d0,d1]=ay d0 d1 31:=rfl;rw[eD]at *;have n2:gU (ay d0 d1 31)=false:=by
          rw[show ae [d0,d1] []=false from rfl,Bool.false_or,Bool.not_eq_true']at h10;exact h10
         refine Cs BZ ai (bE 105630022053002253227002566) (R:=λQ=>(λ(O:aD)(C E F G H I N:AV)(A B:List Int)=>(λ(P:List AV)=>(λ(T:aD)=>Nat.ble s.length 1000/\af .i64 e/\af .i64 g/\af .u8 a/\af .u8 b/\af .u8 c/\not (aa (aR [m0,m1]) 0)=false/\cr m0/\cr m1/\gU A=false/\cr d0/\cr d1/\gU B=false/\Q (.h P,⟨7,[.a (aI B) true (some 1),.a (aI A) true (some 1),T,O,O,T,.a [.b ng,.b lg,.d s,C,E,F,G,H,I,N] true none],[]⟩)) (.a P true none)) [.b ng,.b lg,.d s,C,E,F,G,H,I,N,.c 19 0 (dG A) (fg.a 0),.c 20 0 (dG B) (fg.a 0)]) (.a [.a .i64 0] true none) (.a .i64 e) (.a .i64 g) (.d [m0,m1]) (.d [d0,d1]) (.a .u8 a) (.a .u8 b) (.a .u8 c) (ay m0 m1 12) (ay d0 d1 31)) (λ_=>by kernel_rfl) λQ' hQ=>?_;try dsimp only
         generalize ay m0 m1 12=M at *;generalize ay d0 d1 31=D at *;have hQ2:=hQ _ (dL.d0 (k1:=5) (k2:=6) (n:=7) (os:=[.a (aI D) true (some 1),.a (aI M) true (some 1),.a [.b ng,.b lg,.d s,.a .i64 e,.a .i64 g,.d [m0,m1],.d [d0,d1],.a .u8 a,.a .u8 b,.a .u8 c,.c 19 0 (dG M) (.a 0),.c 20 0 (dG D) (.a 0)] true none,.a [.a .i64 0] true none,.a [.a .i64 0] true none,.a [.b ng,.b lg,.d s,.a .i64 e,.a .i64 g,.d [m0,m1],.d [d0,d1],.a .u8 a,.a .u8 b,.a .u8 c,.c 19 0 (dG M) (.a 0),.c 20 0 (dG D) (.a 0)] true none,.a [.b ng,.b lg,.d s,.a .i64 e,.a .i64 g,.d [m0,m1],.d [d0,d1],.a .u8 a,.a .u8 b,.a .u8 c] true none]) (v':=.h [.b ng,.b lg,.d s,.a .i64 e,.a .i64 g,.d [m0,m1],.d [d0,d1],.a .u8 a,.a .u8 b,.a .u8 c,.c 19 0 (dG M) (.a 0),.c 20 0 (dG D) (.a 0)]) (by decide) (by decide) (by decide) rfl rfl lowI lowI rfl);try dsimp only
         simp only[h2,h5,h6,h7,h8,h9,k1,k2,k3,k4,k6,k7,n2,Bool.not_true,reduceCtorEq,zAh];exact hQ2
   . simp only[List.mem_cons,List.not_mem_nil,or_false]at hx;rcases hx with rfl|rfl
     . exact lowI
     . exact lowI
 . cases he
theorem wU{s:List UInt8}{g:Nat}:(Co s g).length<=g:=by
 unfold Co;split
 . exact eV _ _ _
 . exact Nat.zero_le _
theorem Ej{mo:List UInt8}:(cA mo).length<=12:=by
 unfold cA;cases ae mo []with
 | true=>simp
 | false=>
   cases aa (aR mo) 0 with
   | true=>exact wU
   | false=>simp
theorem DV{da:List UInt8}:(dF da).length<=31:=by
 unfold dF;cases ae da []with
 | true=>simp
 | false=>exact wU
theorem D9{a:Int}(hE:bW ng lg s e 0 mo da a b c=0):jY da (cA mo)=true:=by
 cases hd:ae da []with
 | true=>
   unfold jY okM;rw[hd];simp
 | false=>
   obtain⟨m0,m1,d0,d1,rfl,rfl,_,_,_,_,_,_,hse,_⟩:=kq (gq hE) hd;have:cA [m0,m1]=ay m0 m1 12:=by unfold cA;rw[ao.mpr hse];rfl
   rw[this];exact pk
def Y5(k:Int)(ng:Bool)(s:List UInt8)(e g:Int)(mo da:List UInt8)(p a b c d:Int):Bool:=bif aa k 2 then aa g 0&&(Nat.ble (aP ng s e mo da).length 1000000&&ab 1 (vI ng s e mo da))else bif aa k 3 then qP a b c d p else aa k 4 || aa k 5
def VT(k:Int)(ng:Bool)(s:List UInt8)(e:Int)(mo da:List UInt8)(p a b c d:Int):Int:=bif aa k 2 then vI ng s e mo da else bif aa k 3&&(aa a 0&&aa c 0)then eo d p-eo b p+1 else 0
def Zb(k a c:Int):Bool:=!(aa k 2)&&!(aa k 3&&(aa a 0&&aa c 0))
theorem QW{a:Int}(h:dr 2 n ch dz p sz ef g xb mz ft rk a c=0):n=0/\p=0/\sz/\ef=0/\g=0/\xb/\mz=true:=by
 unfold dr at h
 (repeat' split at h)<;>first|omega|simp_all
def ZS(k:Int)(ng:Bool)(s:List UInt8)(e:Int)(mo da:List UInt8)(p a b c d x:Int):Int:=bif aa k 2 then HN ng s e mo da x else jc (cP a b c d x) (cP a b c d x&&(bif aa k 3 then zw a b c d p else bif aa k 4 then aa x d else aa x b))
theorem Xb{a:Int}(h:dr 3 n ch dz p sz ef g xb mz ft rk a c=0):ft=true:=by
 unfold dr at h
 (repeat' split at h)<;>first|omega|simp_all
theorem W3{a:Int}(h:dr 4 n ch dz p sz ef g xb mz ft rk a c=0):rk=0/\a = -1/\c=0:=by
 unfold dr at h
 (repeat' split at h)<;>first|omega|simp_all
theorem Ww{a:Int}(h:dr 5 n ch dz p sz ef g xb mz ft rk a c=0):rk=0/\a=0/\c=1:=by
 unfold dr at h
 (repeat' split at h)<;>first|omega|simp_all
theorem Vo{a:Int}:∀{P:List Int},(P.filter λk=>decide (a+1<=k)).length+(if a∈P then 1 else 0)<=(P.filter λk=>decide (a<=k)).length
 | []=>by simp
 | x::P=>by
   have ih:=@Vo a P;by_cases h1:a=x
   . subst h1;have e1:decide (a+1<=a)=false:=decide_eq_false (by omega);have e2:decide (a<=a)=true:=decide_eq_true (Int.le_refl _);rw[List.filter_cons,List.filter_cons,if_neg (by rw[e1];decide),if_pos e2,if_pos (List.mem_cons_self),zAf];split at ih<;>omega
   . have e:(if a∈x::P then 1 else 0)=(if a∈P then 1 else 0):=by simp[h1]
     rw[e,List.filter_cons,List.filter_cons];by_cases h2:a<=x
     . rw[if_pos (decide_eq_true (show a+1<=x by omega)),if_pos (decide_eq_true h2),zAf,zAf];omega
     . have e1:¬decide (a+1<=x)=true:=by rw[zAb];omega
       have e2:¬decide (a<=x)=true:=by rw[zAb];exact h2
       rw[if_neg e1,if_neg e2];exact ih
theorem Hi{f:Int->Nat}{B:Nat}{P:List Int}(h1:∀k,f k<=B)(h2:∀k,f k≠0->k∈P):∀(n:Nat) (a:Int),K8 f a n<=B*(P.filter λk=>decide (a<=k)).length
 | 0,a=>Nat.zero_le _
 | n+1,a=>by
   have ih:=Hi h1 h2 n (a+1);have c:=@Vo a P;show f a+K8 f (a+1) n<=_;by_cases h:f a=0
   . have c':(P.filter λk=>decide (a+1<=k)).length<=(P.filter λk=>decide (a<=k)).length:=by omega
     have:=Nat.mul_le_mul_left B c';omega
   . rw[if_pos (h2 a h)]at c;have:=Nat.mul_le_mul_left B c;rw[Nat.mul_add]at this;have:=h1 a;omega
theorem NI{y m:Int}:(sM da y m).length<=31:=by
 unfold sM;cases ae da []with
 | true=>show 1<=31;decide
 | false=>
   rw[cond_false,List.length_map];have:=@wU da (bP y m).toNat;have:=mr y m;omega
theorem G1{f:Int->List Ci}(h:∀m,(f m).length<=31):∀M:List Int,(M.flatMap f).length<=31*M.length
 | []=>Nat.zero_le _
 | m::M=>by
   rw[List.flatMap_cons,zAg,zAf];have:=G1 h M;have:=h m;omega
theorem O5{mo:List UInt8}:(cA mo).length<=12:=by
 unfold cA;cases ae mo []with
 | true=>show 1<=12;decide
 | false=>
   rw[cond_false];cases aa (aR mo) 0 with
   | true=>exact wU
   | false=>show 1<=12;decide
theorem GG{P:List Int}(hP:P.length<=100)(h:∀k,mK ng s e k->k∈P):(aP ng s e mo da).length<=1000000:=by
 unfold aP;rw[Dr];refine Nat.le_trans (Hi (B:=372) (P:=P) (λk=>?_) (λk hk=>?_) _ _) ?_
 . show(ks ng s e mo da k).length<=372;unfold ks;cases mP ng s e k with
   | false=>exact Nat.zero_le _
   | true=>
     have:=G1 (f:=sM da k) (λm=>NI) (cA mo);have:=@O5 mo;show((cA mo).flatMap (sM da k)).length<=372;omega
 . refine h k ?_;rw[<-y4];have hk:(ks ng s e mo da k).length≠0:=hk;unfold ks at hk;cases hb:mP ng s e k with
   | false=>rw[hb]at hk;exact absurd rfl hk
   | true=>rfl
 . have:=List.length_filter_le (λk=>decide (jR ng s e<=k)) P;have:=Nat.mul_le_mul_left 372 (Nat.le_trans this hP);omega
def Ul(i:Int):Int:=bif aa i 0 then 1000 else bif aa i 1 then 100 else bif aa i 2 then 10 else 1
def RT(a b n:Int):Int:=(bif aa 0 a || aa 0 b then 0 else 1000*(((d0 n).toNat:Int)-48))+(bif aa 1 a || aa 1 b then 0 else 100*(((d1 n).toNat:Int)-48))+(bif aa 2 a || aa 2 b then 0 else 10*(((d2 n).toNat:Int)-48))+(bif aa 3 a || aa 3 b then 0 else((d3 n).toNat:Int)-48)
def TI(a b n:Int):List Int:=(List.range 10).flatMap λ(u:Nat)=>(List.range 10).map λ(v:Nat)=>RT a b n+Ul a*(u:Int)+Ul b*(v:Int)
theorem Gz{a n:Int}:(TI a b n).length=100:=by unfold TI;simp[List.length_flatMap];rfl
theorem F2{a n k:Int}(ha:0<=a/\a<=3)(hb:0<=b/\b<=3)(h:nS (bif aa 0 a || aa 0 b then UInt8.ofNat 88 else d0 n) (bif aa 1 a || aa 1 b then UInt8.ofNat 88 else d1 n) (bif aa 2 a || aa 2 b then UInt8.ofNat 88 else d2 n) (bif aa 3 a || aa 3 b then UInt8.ofNat 88 else d3 n) k):k∈TI a b n:=by
 obtain⟨k0,k1,k2,k3,r0,r1,r2,r3,rfl,x0,x1,x2,x3⟩:=n5 h;clear h;obtain⟨e0,e1,e2,e3⟩:=@G8 n;have key:∃u v:Nat,u<10/\v<10/\1000*k0+100*k1+10*k2+k3=RT a b n+Ul a*(u:Int)+Ul b*(v:Int):=by
  have ha:a=0\/a=1\/a=2\/a=3:=by omega
  have hb:b=0\/b=1\/b=2\/b=3:=by omega
  have i00:aa 0 0=true:=rfl;have i01:aa 0 1=false:=rfl;have i02:aa 0 2=false:=rfl;have i03:aa 0 3=false:=rfl;have i10:aa 1 0=false:=rfl;have i11:aa 1 1=true:=rfl;have i12:aa 1 2=false:=rfl;have i13:aa 1 3=false:=rfl;have i20:aa 2 0=false:=rfl;have i21:aa 2 1=false:=rfl;have i22:aa 2 2=true:=rfl;have i23:aa 2 3=false:=rfl;have i30:aa 3 0=false:=rfl;have i31:aa 3 1=false:=rfl;have i32:aa 3 2=false:=rfl;have i33:aa 3 3=true:=rfl;unfold RT Ul;rcases ha with rfl|rfl|rfl|rfl<;>rcases hb with rfl|rfl|rfl|rfl<;>simp only[i00,i01,i02,i03,i10,i11,i12,i13,i20,i21,i22,i23,i30,i31,i32,i33,Bool.or_true,Bool.true_or,Bool.or_false,zAj]at x0 x1 x2 x3 ⊢<;>unfold mt at x0 x1 x2 x3
  . exact⟨k0.toNat,0,by omega,by omega,by omega⟩
  . exact⟨k0.toNat,k1.toNat,by omega,by omega,by omega⟩
  . exact⟨k0.toNat,k2.toNat,by omega,by omega,by omega⟩
  . exact⟨k0.toNat,k3.toNat,by omega,by omega,by omega⟩
  . exact⟨k1.toNat,k0.toNat,by omega,by omega,by omega⟩
  . exact⟨k1.toNat,0,by omega,by omega,by omega⟩
  . exact⟨k1.toNat,k2.toNat,by omega,by omega,by omega⟩
  . exact⟨k1.toNat,k3.toNat,by omega,by omega,by omega⟩
  . exact⟨k2.toNat,k0.toNat,by omega,by omega,by omega⟩
  . exact⟨k2.toNat,k1.toNat,by omega,by omega,by omega⟩
  . exact⟨k2.toNat,0,by omega,by omega,by omega⟩
  . exact⟨k2.toNat,k3.toNat,by omega,by omega,by omega⟩
  . exact⟨k3.toNat,k0.toNat,by omega,by omega,by omega⟩
  . exact⟨k3.toNat,k1.toNat,by omega,by omega,by omega⟩
  . exact⟨k3.toNat,k2.toNat,by omega,by omega,by omega⟩
  . exact⟨k3.toNat,0,by omega,by omega,by omega⟩
 obtain⟨u,v,hu,hv,e⟩:=key;unfold TI;rw[List.mem_flatMap];exact⟨u,List.mem_range.2 hu,List.mem_map.2 ⟨v,List.mem_range.2 hv,e.symm⟩⟩
theorem Jc{f n z0 z1 e:Int}{ng:Bool}(hz0:0<=z0/\z0<=255)(hz1:0<=z1/\z1<=255):∃P:List Int,P.length<=100/\∀k,mK ng (gw f n z0 z1) e k->k∈P:=by
 by_cases hx:aY (gw f n z0 z1) 88 88=0
 . refine⟨[dY ng (gw f n z0 z1) e],show 1<=100 by decide,λk hk=>?_⟩;unfold mK at hk;rw[aJ.mpr hx,cond_true]at hk;rw[hk];exact List.mem_cons_self
 . have c3:f%6=3:=by
    refine Classical.byContradiction λc3=>hx ?_;have e3:aa (f%6) 3=false:=aw.mpr c3;cases e5:aa (f%6) 5 with
    | true=>
      rcases @n7 f n z0 z1 hz0 hz1 with h|h
      . have:sY f=true:=e5;rw[h.1]at this;cases this
      . exact B9 h.2.1
    | false=>
      unfold gw;rw[e3,e5,cond_false,cond_false];have v:=@G8 n;refine B9 λc hc=>?_;simp only[List.mem_cons,List.not_mem_nil,or_false]at hc;rcases hc with rfl|rfl|rfl|rfl
      . exact v.1
      . exact v.2.1
      . exact v.2.2.1
      . exact v.2.2.2
   have es:gw f n z0 z1=Rh (z0%4) (z1%4) n:=by unfold gw;rw[ao.mpr c3,cond_true]
   rw[es]at hx ⊢;unfold Rh at hx ⊢;unfold mK;rw[b9.mpr hx];simp only[cond_false];have ha:0<=z0%4/\z0%4<=3:=by omega
   have hb:0<=z1%4/\z1%4<=3:=by omega
   cases ng with
   | true=>
     refine⟨(TI (z0%4) (z1%4) n).map λk=>-k,by rw[List.length_map,Gz];decide,λk hk=>?_⟩;exact List.mem_map.2 ⟨-k,F2 ha hb hk.2,by omega⟩
   | false=>exact⟨TI (z0%4) (z1%4) n,by rw[Gz];decide,λk hk=>F2 ha hb hk⟩
theorem Ry{i p:Int}(hp:1<=p/\p<=3):eo (Cp i p) p=i:=by
 have hp:p=1\/p=2\/p=3:=by omega
 rcases hp with rfl|rfl|rfl
 . show aN (bf i)=i;exact yR.1
 . have hm:1<=d8 i 12+1/\d8 i 12+1<=12:=by unfold d8;omega
   obtain⟨a,b,c,e⟩:=@qK (dc i 12) _ hm;obtain⟨q1,q2⟩:=yX hm (Int.le_refl _) b;rw[Mm];show jM (aG (dc i 12) (d8 i 12+1))=i;unfold jM;rw[q1,q2];unfold dc d8;omega
 . rfl
theorem QM{i p:Int}(hp:1<=p/\p<=3):eo (Cr i p) p=i:=by
 have hp:p=1\/p=2\/p=3:=by omega
 rcases hp with rfl|rfl|rfl
 . show aN (bf (i+1)-1)=i;exact yR.2
 . have hm:1<=d8 i 12+1/\d8 i 12+1<=12:=by unfold d8;omega
   obtain⟨a,b,c,e⟩:=@qK (dc i 12) _ hm;obtain⟨q1,q2⟩:=yX (y:=dc i 12) (d:=aG (dc i 12) (d8 i 12+1+1)-1) hm (by omega) (by omega);rw[MJ,(ox i).2,show d8 i 12+2=d8 i 12+1+1 by omega];show jM _=i;unfold jM;rw[q1,q2];unfold dc d8;omega
 . rfl
end Go.Ev
