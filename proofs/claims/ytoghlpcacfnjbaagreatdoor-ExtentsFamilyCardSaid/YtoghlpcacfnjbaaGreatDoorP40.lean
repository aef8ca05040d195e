import Derived.Test.YtoghlpcacfnjbaaGreatDoorP39
set_option linter.all false
set_option maxRecDepth 100000
set_option maxHeartbeats 4000000
namespace Go.Ev
open Go Go.Proofs
variable{d p:Int}{S:aQ}{C:List Ci}{i:Nat}{w b0:aD}
def Pz:dP:=λargs=>match args with
 | [.h [.a .i8 a,.a .i64 L,.a .i8 c,.a .i64 H],.a .i64 p]=>some (aH [af .i64 L,ab 1 p,ab p 3,lT L p] (.a0 (.a .i64 (eo L p))))
 | _=>none
def FN:dP:=λargs=>match args with
 | [.h [.a .u8 k,.f,.b ng,.b lg,.d s,.a .i64 e,.a .i64 g,.d mo,.d da,.a .u8 x,.a .u8 y,.a .u8 z,.a .u8 p,.a .i8 a,.a .i64 b,.a .i8 c,.a .i64 d]]=>some (aH [aa k 3,af .i64 b,af .i64 d,ab 1 p,ab p 3,(!(aa a 0) || lT b p),(!(aa c 0) || lT d p),(!(aa a 0&&aa c 0) || (ab (eo b p) (eo d p)&&ab (eo d p-eo b p) 1000000))] (.a0 (.a .i64 (bif aa a 0&&aa c 0 then eo d p-eo b p+1 else -1))))
 | _=>none
theorem pF(h:lT d p)(hp:p=1\/p=2):cE d=true:=by
 unfold lT at h;rcases hp with rfl|rfl<;>simpa [show aa 1 3=false from rfl,show aa 2 3=false from rfl]using h
theorem O3(hS:ak Tryz.prog cfg S):ak Tryz.prog cfg (bb S 63 Pz):=au hS λargs t v he hv=>by
 unfold Pz at he;split at he
 . rename_i a L c H p;cases he;replace hv:=aF hv;obtain⟨⟨h1,h2,h3,h4,-⟩,hv⟩:=hv;rw[aq]at h2 h3;cases hv;have hp:p=1\/p=2\/p=3:=by omega
   refine nF Hq ai (bE 1141144201141144204201204140) (R:=λQ=>(λ(A:Bool)(B:Int)=>(λ(O:Bool)(C E:Int)=>(λ(P T:Bool)(F G I N:Int)=>(λ(U V W Y:Bool)=>(aa p 3->Q (.a .i64 L))/\(aa p 3=false->(aa p 1->A/\Q (.a .i64 (aN L)))/\(aa p 1=false->A/\(O->A/\(P->(U->Q (.a .i64 F))/\(U=false->Q (.a .i64 (IntKind.wrap .i64 F))))/\(P=false->(V->Q (.a .i64 G))/\(V=false->Q (.a .i64 (IntKind.wrap .i64 G)))))/\(O=false->A/\(T->(W->Q (.a .i64 I))/\(W=false->Q (.a .i64 (IntKind.wrap .i64 I))))/\(T=false->(Y->Q (.a .i64 N))/\(Y=false->Q (.a .i64 (IntKind.wrap .i64 N)))))))) (af .i64 F) (af .i64 G) (af .i64 I) (af .i64 N)) (af .i64 C) (af .i64 E) (Int.sub C 1) (Int.sub (IntKind.wrap .i64 C) 1) (Int.sub E 1) (Int.sub (IntKind.wrap .i64 E) 1)) (af .i64 B) (Int.add B (bZ L)) (Int.add (IntKind.wrap .i64 B) (bZ L))) (cE L) (Int.mul 12 (aN L))) (λ_=>by kernel_rfl) λQ' hQ=>?_;try dsimp only
   rcases hp with rfl|rfl|rfl
   . have hc:=pF h4 (.inl rfl);simp only[hc,show aa 1 3=false from rfl,show aa 1 1=true from rfl,reduceCtorEq,zAh];exact hQ
   . have hc:=pF h4 (.inr rfl);have cb:=lO hc;have i1:af .i64 (Int.mul 12 (aN L))=true:=by rw[aE];simp only[eH,eE];show _<=12*aN L/\12*aN L<=_;omega
     have i2:af .i64 (Int.add (Int.mul 12 (aN L)) (bZ L))=true:=by rw[aE];simp only[eH,eE];show _<=12*aN L+bZ L/\12*aN L+bZ L<=_;omega
     have i3:af .i64 (Int.sub (Int.add (Int.mul 12 (aN L)) (bZ L)) 1)=true:=by rw[aE];simp only[eH,eE];show _<=12*aN L+bZ L-1/\12*aN L+bZ L-1<=_;omega
     have e:eo L 2=Int.sub (Int.add (Int.mul 12 (aN L)) (bZ L)) 1:=by show 12*aN L+(bZ L-1)=12*aN L+bZ L-1;omega
     rw[e]at hQ;simp only[hc,i1,i2,i3,show aa 2 3=false from rfl,show aa 2 1=false from rfl,reduceCtorEq,zAh];exact hQ
   . simp only[show aa 3 3=true from rfl,reduceCtorEq,zAh];exact hQ
 . cases he
theorem re(n:Int):IntKind.wrap .u64 n=n%18446744073709551616:=rfl
theorem Le(hp:1<=p/\p<=3)(ok:lT d p)(hd:af .i64 d):af .i64 (CK d p)=true:=by
 have hp:p=1\/p=2\/p=3:=by omega
 rcases hp with rfl|rfl|rfl
 . have cb:=lO (pF ok (.inl rfl));rw[aE];simp only[eH,eE];show _<=bf (aN d)/\bf (aN d)<=_;omega
 . have cb:=lO (pF ok (.inr rfl));rw[aE];simp only[eH,eE];show _<=aG (aN d) (bZ d)/\aG (aN d) (bZ d)<=_;omega
 . exact hd
theorem Ag(hp:1<=p/\p<=3)(ok:lT d p)(hd:af .i64 d) : -9223372036854775808<=eo d p/\eo d p<=9223372036854775807:=by
 have hp:p=1\/p=2\/p=3:=by omega
 rcases hp with rfl|rfl|rfl
 . have cb:=lO (pF ok (.inl rfl));show _<=aN d/\aN d<=_;omega
 . have cb:=lO (pF ok (.inr rfl));show _<=12*aN d+(bZ d-1)/\12*aN d+(bZ d-1)<=_;omega
 . rw[aE]at hd;exact hd
theorem J_(hS:ak Tryz.prog cfg S):ak Tryz.prog cfg (bb S 30 FN):=au hS λargs t v he hv=>by
 unfold FN at he;split at he
 . rename_i k ng lg s e g mo da x y z p a b c d;cases he;replace hv:=aF hv;obtain⟨⟨h1,h2,h3,h4,h5,h6,h7,h8,-⟩,hv⟩:=hv;rw[ao]at h1;subst h1;cases ha:aa a 0 with
   | false=>
     rw[ha]at hv;cases hv;refine nF aW ai (bE 1023380006) (R:=λQ=>(λ(B:Bool)=>(λ(A:Prop)=>A/\A/\A/\A/\A/\B/\Q (.a .i64 (Neg.neg 1))) (not B=false)) (not (aa a 0))) (λ_=>by kernel_rfl) λQ' hQ=>?_;try dsimp only
     simp only[ha,Bool.not_false,Bool.not_true,true_and];exact hQ
   | true=>
     rw[ha]at hv h6 h8;rw[ao]at ha;subst ha;cases hc:aa c 0 with
     | false=>
       rw[hc]at hv;cases hv;refine nF aW ai (bE 12066) (R:=λQ=>not (aa c 0)/\Q (.a .i64 (Neg.neg 1))) (λ_=>by kernel_rfl) λQ' hQ=>?_;simp only[hc,Bool.not_false,true_and];exact hQ
     | true=>
       rw[hc]at hv h7 h8;rw[ao]at hc;subst hc;cases hv;simp only[Bool.not_true,Bool.false_or,Bool.and_self,zAa,aq]at h6 h7 h8;have hp:1<=p/\p<=3:=⟨aq.mp h4,aq.mp h5⟩;obtain⟨b1,b2,_,b4⟩:=Ap hp h6;obtain⟨d1,d2,_,d4⟩:=Ap hp h7;have b5:=Le hp h6 h2;have d5:=Le hp h7 h3;have sb:=Ag hp h6 h2;have sd:=Ag hp h7 h3;have p1:af .i64 p=true:=by rw[aE];simp only[eH,eE];omega
       refine jD (O3 (W5 aW)) ai (bE 114124141221441141241412214441141241412214411412414122144442702052702005702000702566) (R:=λQ=>(λ(G U V:Bool)(W Y:Int)(A:Prop)=>(λ(u4:Bool)(H I:Int)=>(λ(Z u5:Bool)(B u6 u7:Int)=>(λ(u9 ua:Bool)(C E F N ub:Int)(uc:Prop)=>(λ(ud ue ug uh uj uk um un:Bool)(O P T u0 uf ui ul uo:Int)=>(λ(up uq ur ut uu uw ux:Bool)(u1 u2 u3 us uv uy:Int)=>(λ(uz uA uB:Bool)=>G/\af .i64 b/\u4/\lT b p/\G/\af .i64 d/\u4/\lT d p/\G/\af .i64 W/\U/\V/\lT W p/\G/\af .i64 Y/\U/\V/\lT Y p/\(u5->(Z->(u9->(ua->A)/\(ua=false->af .i64 B/\af .i64 ub/\Q (.a .i64 ub)))/\(u9=false->(ud->A)/\(ud=false->(ue->af .i64 uf/\Q (.a .i64 uf))/\(ue=false->(up->Q (.a .i64 u0))/\(up=false->Q (.a .i64 (IntKind.wrap .i64 u0)))))))/\(uc->(ug->(uh->A)/\(uh=false->af .i64 C/\af .i64 ui/\Q (.a .i64 ui)))/\(ug=false->(uq->A)/\(uq=false->(ur->af .i64 us/\Q (.a .i64 us))/\(ur=false->(uz->Q (.a .i64 u1))/\(uz=false->Q (.a .i64 (IntKind.wrap .i64 u1))))))))/\(u5=false->(Z->(uj->(uk->A)/\(uk=false->af .i64 E/\af .i64 ul/\Q (.a .i64 ul)))/\(uj=false->(ut->A)/\(ut=false->(uu->af .i64 uv/\Q (.a .i64 uv))/\(uu=false->(uA->Q (.a .i64 u2))/\(uA=false->Q (.a .i64 (IntKind.wrap .i64 u2)))))))/\(uc->(um->(un->A)/\(un=false->af .i64 F/\af .i64 uo/\Q (.a .i64 uo)))/\(um=false->(uw->A)/\(uw=false->(ux->af .i64 uy/\Q (.a .i64 uy))/\(ux=false->(uB->Q (.a .i64 u3))/\(uB=false->Q (.a .i64 (IntKind.wrap .i64 u3))))))))) (af .i64 u1) (af .i64 u2) (af .i64 u3)) (af .i64 u0) (ab 9223372036854775807 O) (af .i64 O) (ab 9223372036854775807 P) (af .i64 P) (ab 9223372036854775807 T) (af .i64 T) (Int.add (IntKind.wrap .i64 O) 1) (Int.add (IntKind.wrap .i64 P) 1) (Int.add (IntKind.wrap .i64 T) 1) (Int.add O 1) (Int.add P 1) (Int.add T 1)) (ab 9223372036854775807 N) (af .i64 N) (af .u64 C) (ab 9223372036854775807 C) (af .u64 E) (ab 9223372036854775807 E) (af .u64 F) (ab 9223372036854775807 F) (IntKind.wrap .u64 C) (IntKind.wrap .u64 E) (IntKind.wrap .u64 F) (Int.add (IntKind.wrap .i64 N) 1) (Int.add N 1) (Int.add C 1) (Int.add E 1) (Int.add F 1)) (af .u64 B) (ab 9223372036854775807 B) (Int.sub H u6) (Int.sub u7 I) (Int.sub u7 u6) (IntKind.wrap .u64 B) (Int.add B 1) (Z=false)) (af .u64 I) (af .u64 H) (Int.sub H I) (IntKind.wrap .u64 I) (IntKind.wrap .u64 H)) (and U V) (eo Y p) (eo W p)) (af .i64 p) (ab 1 p) (ab p 3) (CK b p) (CK d p) (Q (.a .i64 (Neg.neg 2)))) (λ_=>by kernel_rfl) λQ' hQ=>?_;try dsimp only
       have hQ:Q' (.a .i64 (Int.add (Int.sub (eo d p) (eo b p)) 1)):=hQ _ rfl;try dsimp only
       rw[b4,d4];generalize eo b p=A at *;generalize eo d p=B at *;have eD:Int.sub B A=B-A:=rfl;have c1:ab 9223372036854775807 (Int.sub B A)=false:=bF.mpr (by rw[eD];omega);have r1:af .i64 (Int.sub B A)=true:=by rw[aE,eD];simp only[eH,eE];omega
       have r2:af .i64 (Int.add (Int.sub B A) 1)=true:=by rw[aE];simp only[eH,eE];show _<=B-A+1/\B-A+1<=_;omega
       have r3:af .u64 (Int.sub B A)=true:=by rw[aE,eD];simp only[eH,eE];omega
       by_cases hA:0<=A
       . have uA:af .u64 A=true:=by rw[aE];simp only[eH,eE];omega
         have uB:af .u64 B=true:=by rw[aE];simp only[eH,eE];omega
         simp only[p1,h2,h3,h4,h5,h6,h7,b1,d1,b5,d5,uA,uB,c1,r1,r2,r3,Bool.and_self,reduceCtorEq,zAh];exact hQ
       . have uA:af .u64 A=false:=by rw[<-Bool.not_eq_true,aE];simp only[eH,eE];omega
         by_cases hB:0<=B
         . have uB:af .u64 B=true:=by rw[aE];simp only[eH,eE];omega
           have e0:Int.sub B (IntKind.wrap .u64 A)=B-A-18446744073709551616:=by rw[re];show B-A%18446744073709551616=_;omega
           have uS:af .u64 (Int.sub B (IntKind.wrap .u64 A))=false:=by rw[<-Bool.not_eq_true,aE,e0];simp only[eH,eE];omega
           have e1:IntKind.wrap .u64 (Int.sub B (IntKind.wrap .u64 A))=Int.sub B A:=by rw[e0,re,eD];omega
           simp only[p1,h2,h3,h4,h5,h6,h7,b1,d1,b5,d5,uA,uB,uS,e1,c1,r1,r2,r3,Bool.and_self,reduceCtorEq,zAh];exact hQ
         . have uB:af .u64 B=false:=by rw[<-Bool.not_eq_true,aE];simp only[eH,eE];omega
           have e1:Int.sub (IntKind.wrap .u64 B) (IntKind.wrap .u64 A)=Int.sub B A:=by rw[re,re,eD];show B%18446744073709551616-A%18446744073709551616=_;omega
           simp only[p1,h2,h3,h4,h5,h6,h7,b1,d1,b5,d5,uA,uB,e1,c1,r1,r2,r3,Bool.and_self,reduceCtorEq,zAh];exact hQ
 . cases he
def Oe(c:Ci):List AV:=[.a .i8 0,.a .i64 (iO c.1 c.2.1 c.2.2),.a .i8 0,.a .i64 (iD c.1 c.2.1 c.2.2)]
def cK:List Ci->List AV
 | []=>[]
 | c::l=>.a .i8 0::.a .i64 (iO c.1 c.2.1 c.2.2)::.a .i8 0::.a .i64 (iD c.1 c.2.1 c.2.2)::cK l
def mh(C:List Ci):Bool:=C.all λc=>kY c.1 c.2.1 c.2.2
def wS:List AV->List Ci
 | .a .i64 a::.a .i64 b::.a .i64 c::r=>(a,b,c)::wS r
 | _=>[]
def TJ:List AV->Bool
 | []=>true
 | .a .i64 _::.a .i64 _::.a .i64 _::r=>TJ r
 | _=>false
theorem Do:∀{C:List Ci},wS (bJ C)=C/\TJ (bJ C)=true
 | []=>⟨rfl,rfl⟩
 | c::C=>by
   obtain⟨h1,h2⟩:=Do (C:=C);exact⟨by show c::wS (bJ C)=c::C;rw[h1],h2⟩
theorem Dv:∀{w:List AV},TJ w->bJ (wS w)=w
 | [],_=>rfl
 | .a .i64 a::.a .i64 b::.a .i64 c::r,h=>by
   show .a .i64 a::.a .i64 b::.a .i64 c::bJ (wS r)=_;rw[Dv (show TJ r=true from h)]
 | [.a .i64 _],h=>by cases h
 | [.a .i64 _,.a .i64 _],h=>by cases h
def nU(C:List Ci):AV:=match C.length with
 | 0=>.f
 | k+1=>.c 16 0 (k+1) (.a 0)
def pS(C:List Ci)(w b0:aD):aB:=match C.length with
 | 0=>⟨2,[w,b0],[]⟩
 | _+1=>⟨3,[.a (cK C) true (some 4),w,b0],[]⟩
def Rq:dW:=λvs o=>match vs,o with
 | [.f,.c 15 0 n (.a 0),.a .i64 i],⟨2,[.a w true (some 3),.a F true none],[]⟩=>
   some (aH [aa i 0,TJ w,Nat.beq (wS w).length n,Nat.ble n 1000000,mh (wS w),iw F] (.a0 (.b 0,[nU (wS w),.c 15 0 n (.a 0),.a .i64 (Int.ofNat n)],pS (wS w) (.a w true (some 3)) (.a F true none))))
 | _,_=>none
noncomputable def XT:aQ:=eQ (bb gZ 41 s9) 51 (fl 14 [] RM)
def UI(w F:List AV)(n:Nat)(J:Nat->Value){Q:VQ->Prop}:gG Q (rT XT jE [] 21 0 40 [3,4,5] [.f,.c 15 0 n (.a 0),.a .i64 0] J ⟨2,[.a w true (some 3),.a F true none],[]⟩) (bE 11005202202202204)=((λ(O P:aD)(B I N:AV)(A H:Bool)=>(λ(T U V:AV)=>(λ(C E G:Int)=>(λ(W:List AV)=>(H->A/\bC .i64 T/\A/\bC .i64 U/\A/\bC .i64 V/\kY C E G/\Q (.a,[.c 17 0 1 (fg.a 0),I,.a .i64 1],⟨4,[.a W true (some 4),.a W true none,O,P],[]⟩))/\(H=false->Q (.b 0,[.f,I,.a .i64 0],⟨2,[O,P],[]⟩))) [N,.a .i64 (iO C E G),N,.a .i64 (iD C E G)]) (aK T) (aK U) (aK V)) (List.getD w 0 B) (List.getD w 1 B) (List.getD w 2 B)) (.a w true (some 3)) (.a F true none) (.e []) (.c 15 0 n (fg.a 0)) (.a .i8 0) (aS 0 n) (not (ab (Int.ofNat n) 0))):=by kernel_rfl
def Xh(w cs F:List AV)(n i:Nat)(J:Nat->Value){Q:VQ->Prop}:gG Q (rT XT jE [] 21 0 40 [3,4,5] [.c 16 0 i (.a 0),.c 15 0 n (.a 0),.a .i64 (Int.ofNat i)] J ⟨3,[.a cs true (some 4),.a w true (some 3),.a F true none],[]⟩) (bE 1122520202202202204)=((λ(T U:aD)(E P:AV)(B:Bool)(G:fg)(A:Int)(C O:Nat)=>(λ(W Y Z u1:AV)(V:Bool)(u0:Int)=>(λ(H I N:Int)=>(λ(u2:List AV)=>(V->B/\bC .i64 W/\B/\bC .i64 Y/\B/\bC .i64 Z/\kY H I N/\and (and (Nat.ble O 1000000) true) true/\and true (Nat.beq cs.length (HMul.hMul i 4))/\af .i64 u0/\Q (.a,[.c 18 0 O G,u1,.a .i64 u0],⟨5,[.a (cs++u2) true (some 4),.a u2 true none,aD.b,T,U],[]⟩))/\(V=false->Q (.b 0,[.c 16 0 i G,u1,.a .i64 A],⟨3,[.a cs true (some 4),T,U],[]⟩))) [P,.a .i64 (iO H I N),P,.a .i64 (iD H I N)]) (aK W) (aK Y) (aK Z)) (List.getD w (HAdd.hAdd C 0) E) (List.getD w (HAdd.hAdd C 1) E) (List.getD w (HAdd.hAdd C 2) E) (.c 15 0 n G) (not (ab (Int.ofNat n) A)) (Int.add A 1)) (.a w true (some 3)) (.a F true none) (.e []) (.a .i8 0) (aS i n) (fg.a 0) (Int.ofNat i) (HAdd.hAdd 0 (HMul.hMul i 3)) (HAdd.hAdd i 1)):=by kernel_rfl
theorem Ey:ak Tryz.prog cfg XT:=TF (UJ aW)
theorem Af:∀{l k:List Ci},cK (l++k)=cK l++cK k
 | [],k=>rfl
 | c::l,k=>by
   show _::_::_::_::cK (l++k)=_;rw[Af];rfl
theorem AO:∀{l:List Ci},(cK l).length=l.length*4
 | []=>rfl
 | c::l=>by
   show(cK l).length+1+1+1+1=_;rw[AO,zAf];omega
theorem mw:∀{l:List Ci},bw (cK l)=[]
 | []=>rfl
 | c::l=>by
   show bw (.a .i8 0::.a .i64 (iO c.1 c.2.1 c.2.2)::.a .i8 0::.a .i64 (iD c.1 c.2.1 c.2.2)::cK l)=[];simp only[bw,aC,List.nil_append];exact mw
def I1:Ci:=(0,0,0)
theorem Vp:∀{C:List Ci} {i:Nat},i<C.length->(bJ C).getD (i*3) (.e [])=.a .i64 (C.getD i I1).1/\(bJ C).getD (i*3+1) (.e [])=.a .i64 (C.getD i I1).2.1/\(bJ C).getD (i*3+2) (.e [])=.a .i64 (C.getD i I1).2.2
 | [],i,h=>absurd h (Nat.not_lt_zero i)
 | c::C,0,_=>⟨rfl,rfl,rfl⟩
 | c::C,i+1,h=>by
   have ih:=@Vp C i (by simpa using h);rw[show(i+1)*3=i*3+1+1+1 by omega];exact ih
theorem IU(h:i<C.length):C.take (i+1)=C.take i++[C.getD i I1]:=by
 rw[List.take_add_one,List.getElem?_eq_getElem h,zAd,List.getElem?_eq_getElem h];rfl
theorem Jh(h:C.length=0):nU C=.f/\pS C w b0=⟨2,[w,b0],[]⟩:=by unfold nU pS;rw[h];exact⟨rfl,rfl⟩
theorem tZ(h:0<C.length):nU C=.c 16 0 C.length (.a 0)/\pS C w b0=⟨3,[.a (cK C) true (some 4),w,b0],[]⟩:=by
 obtain⟨k,hk⟩:∃k,C.length=k+1:=⟨_,(Nat.succ_pred_eq_of_pos h).symm⟩;unfold nU pS;rw[hk];exact⟨rfl,rfl⟩
theorem ST:2<=(pS C w b0).n:=by
 unfold pS;split<;>simp
theorem oz{n:Nat}:ab (Int.ofNat n) (Int.ofNat i)=decide (n<=i):=by
 rw[ek];congr 1;rw[eq_iff_iff];simp only[Int.ofNat_eq_natCast];omega
theorem WH:cu Tryz.prog (cH cfg XT) (Cw cfg []) (lb 21 0) 40 [3,4,5] Rq:=by
 intro vs o t Q hv hq J;unfold Rq at hv;split at hv
 . rename_i n i w F;cases hv;replace hq:=cO hq;obtain⟨⟨k1,k2,k3,k4,k5,k6,-⟩,hq⟩:=hq;rw[ao]at k1;rw[aJ]at k3;rw[al]at k4;subst k1;have ew:=Dv k2;generalize wS w=C at *;subst k3 ew;have hq:Q (.b 0,[nU C,.c 15 0 C.length (.a 0),.a .i64 (Int.ofNat C.length)],pS C (.a (bJ C) true (some 3)) (.a F true none)):=hq;refine ia Ey rfl rfl ai (ι:={i:Nat // i<=C.length}) (λx=>[nU (C.take x.1),.c 15 0 C.length (.a 0),.a .i64 (Int.ofNat x.1)]) (λx=>pS (C.take x.1) (.a (bJ C) true (some 3)) (.a F true none)) (λx=>C.length-x.1) 2 (λx=>ST) (λx J=>?_) (Nat.le_refl _) (λJ=>Wk.a0 ⟨⟨0,Nat.zero_le _⟩,J,by simp only[List.take_zero];rfl⟩) J;obtain⟨i,hi⟩:=x;dsimp only;have lt:(C.take i).length=i:=by rw[List.length_take];omega
   have wl:cR (14+2) (.a (bJ C) true (some 3)):=aO gN;have bl:cR (14+2) (.a F true none):=aO (gj.1 k6);have hlow:∀z∈[aD.a (bJ C) true (some 3),.a F true none],cR (14+2) z:=λz hz=>by
    simp only[List.mem_cons,List.not_mem_nil,or_false]at hz;rcases hz with rfl|rfl
    . exact wl
    . exact bl
   have fin:i=C.length->∃vs2 o2,VW cfg (Cw cfg []) 2 40 [3,4,5] [nU (C.take i),.c 15 0 C.length (.a 0),.a .i64 (Int.ofNat i)] (pS (C.take i) (.a (bJ C) true (some 3)) (.a F true none)) vs2 o2/\Q (.b 0,vs2,o2):=λh=>by
    subst h;rw[List.take_length];exact⟨_,_,VW.b0,hq⟩
   have go:i<C.length->∀vs o,VW cfg (Cw cfg []) 2 40 [3,4,5] vs o [nU (C.take i++[C.getD i I1]),.c 15 0 C.length (.a 0),.a .i64 (Int.ofNat (i+1))] (pS (C.take i++[C.getD i I1]) (.a (bJ C) true (some 3)) (.a F true none))->∃x:{i:Nat // i<=C.length},C.length-x.1<C.length-i/\VW cfg (Cw cfg []) 2 40 [3,4,5] vs o [nU (C.take x.1),.c 15 0 C.length (.a 0),.a .i64 (Int.ofNat x.1)] (pS (C.take x.1) (.a (bJ C) true (some 3)) (.a F true none)):=λh vs o hv=>⟨⟨i+1,h⟩,by dsimp only;omega,by
    dsimp only;rw[IU h];exact hv⟩
   have hU:i<C.length->kY (C.getD i I1).1 (C.getD i I1).2.1 (C.getD i I1).2.2=true:=λh=>by
    unfold mh at k5;rw[zAd,List.getElem?_eq_getElem h];exact List.all_eq_true.1 k5 _ (List.getElem_mem _)
   have gc:=@Vp C i;have hp:0<(C.take i++[C.getD i I1]).length:=by rw[zAg];simp
   have hl1:(C.take i++[C.getD i I1]).length=i+1:=by rw[zAg,lt];rfl
   rw[(tZ (w:=.a (bJ C) true (some 3)) (b0:=.a F true none) hp).1,(tZ (w:=.a (bJ C) true (some 3)) (b0:=.a F true none) hp).2,hl1,Af]at go;generalize hc:C.getD i I1=c at *;have e1:cK [c]=[.a .i8 0,.a .i64 (iO c.1 c.2.1 c.2.2),.a .i8 0,.a .i64 (iD c.1 c.2.1 c.2.2)]:=rfl;rw[e1]at go;clear hq hp hl1 k5 k2;by_cases hN:i=0
   . subst hN;rw[(Jh (w:=.a (bJ C) true (some 3)) (b0:=.a F true none) lt).1,(Jh (w:=.a (bJ C) true (some 3)) (b0:=.a F true none) lt).2]at fin ⊢;rw[List.take_zero]at go;refine e8 λQ' hQ=>cg ((UI (bJ C) F C.length J).mpr ?_);dsimp only;have e0:ab (Int.ofNat C.length) 0=decide (C.length<=0):=oz (i:=0);rw[e0];by_cases h0:0<C.length
     . obtain⟨g0,g1,g2⟩:=gc h0;have go3:=hQ (.a,_,_) (go h0 _ _ (fx (tn:=40) (rel:=[3,4,5]) (vs:=[.c 17 0 1 (.a 0),.c 15 0 C.length (.a 0),.a .i64 1]) (vs':=[.c 16 0 1 (.a 0),.c 15 0 C.length (.a 0),.a .i64 1]) (x:=.a (Oe c) true (some 4)) (mid:=[.a (Oe c) true none]) (B:=[.a (bJ C) true (some 3),.a F true none]) (k:=1) (kb:=2) (n:=4) rfl rfl rfl hlow (aO rfl) rfl));try dsimp only
       rw[decide_eq_false (by omega),show(bJ C).getD 0 (.e [])=_ from g0,show(bJ C).getD 1 (.e [])=_ from g1,show(bJ C).getD 2 (.e [])=_ from g2];have hu:=hU h0;have hl:aS 0 C.length=true:=aU.2 h0;simp only[bC,aK,gP,lm,show Nat.beq 3 3=true from rfl,hu,hl,Bool.not_false,reduceCtorEq,zAh];exact go3
     . have fin2:=hQ (.b 0,_,_) (fin (by omega));try dsimp only
       rw[decide_eq_true (by omega)];simp only[Bool.not_true,reduceCtorEq,zAh];exact fin2
   . have hpos:0<(C.take i).length:=by omega
     rw[(tZ (w:=.a (bJ C) true (some 3)) (b0:=.a F true none) hpos).1,(tZ (w:=.a (bJ C) true (some 3)) (b0:=.a F true none) hpos).2,lt]at fin ⊢;have lU:Nat.beq (cK (C.take i)).length (i*4)=true:=aJ.mpr (by rw[AO,lt]);refine e8 λQ' hQ=>cg ((Xh (bJ C) (cK (C.take i)) F C.length i J).mpr ?_);dsimp only;rw[oz];by_cases h0:i<C.length
     . obtain⟨g0,g1,g2⟩:=gc h0;have go3:=hQ (.a,_,_) (go h0 _ _ (fx (tn:=40) (rel:=[3,4,5]) (vs:=[.c 18 0 (i+1) (.a 0),.c 15 0 C.length (.a 0),.a .i64 (Int.ofNat (i+1))]) (vs':=[.c 16 0 (i+1) (.a 0),.c 15 0 C.length (.a 0),.a .i64 (Int.ofNat (i+1))]) (x:=.a (cK (C.take i)++Oe c) true (some 4)) (mid:=[.a (Oe c) true none,.b]) (B:=[.a (bJ C) true (some 3),.a F true none]) (k:=2) (kb:=2) (n:=5) rfl rfl rfl hlow (aO (by rw[gC,mw];rfl)) rfl));try dsimp only
       rw[decide_eq_false (by omega),show 0+i*3+0=i*3 by omega,show 0+i*3+1=i*3+1 by omega,show 0+i*3+2=i*3+2 by omega,g0,g1,g2];have hu:=hU h0;have hl:aS i C.length=true:=aU.2 h0;have b1:Nat.ble (i+1) 1000000=true:=al.mpr (by omega);have b3:af .i64 (Int.add (Int.ofNat i) 1)=true:=by rw[aE];simp only[eH,eE];show _<=(i:Int)+1/\(i:Int)+1<=_;omega
       simp only[bC,aK,gP,lm,show Nat.beq 3 3=true from rfl,hu,hl,b1,b3,lU,Bool.and_true,Bool.not_false,reduceCtorEq,zAh];exact go3
     . have fin2:=hQ (.b 0,_,_) (fin (by omega));try dsimp only
       rw[decide_eq_true (by omega)];simp only[Bool.not_true,reduceCtorEq,zAh];exact fin2
 . cases hv
noncomputable def YY:cx:=iz jE 0 (d9 40 [3,4,5] Rq)
def NV:kS:=λargs ws=>match args,ws with
 | [.h [.a .u8 k,.f,.b ng,.b lg,.d s,.a .i64 e,.a .i64 g,.d mo,.d da,.a .u8 a,.a .u8 b,.a .u8 c,.a .u8 p,.a .i8 ra,.a .i64 rb,.a .i8 rc,.a .i64 rd]],[]=>some (aH [aa k 2,aa g 0,iM ng lg s e mo da,Nat.ble (aP ng s e mo da).length 1000000,!(Nat.beq (aP ng s e mo da).length 0),mh (aP ng s e mo da)] (.a0 (.c 14 0 (aP ng s e mo da).length (.a 0),[.a (cK (aP ng s e mo da)) true (some 4)])))
 | _,_=>none
def Na:bj tab 21=some (dH 21,aL 21):=by kernel_rfl
def MR:(bz (aL 21)).map (·.1)=[0]:=by kernel_rfl
theorem XY{ng lg:Bool}{s:List UInt8}{e:Int}{mo da:List UInt8}{a b c ra rb rc rd:Int}(h:iM ng lg s e mo da)(hl:Nat.ble (aP ng s e mo da).length 1000000)(hn:Nat.beq (aP ng s e mo da).length 0=false)(hu:mh (aP ng s e mo da)) :
 bu Tryz.prog cfg 21 [.h [.a .u8 2,.f,.b ng,.b lg,.d s,.a .i64 e,.a .i64 0,.d mo,.d da,.a .u8 a,.a .u8 b,.a .u8 c,.a .u8 p,.a .i8 ra,.a .i64 rb,.a .i8 rc,.a .i64 rd]] [] (.c 14 0 (aP ng s e mo da).length (.a 0)) [.a (cK (aP ng s e mo da)) true (some 4)]:=by
 refine Bu Ey (L:=YY) Na (by simp) (dv MR λi hi e he st Q hw=>?_) (jJ (bE 10270322056) (R:=λQ=>(λ(B:List AV)(A:Nat)=>(λ(C:Bool)=>iM ng lg s e mo da/\C/\Nat.beq A 0=false/\TJ B/\Nat.beq (List.length (wS B)) A/\C/\mh (wS B)/\(∀J1:Nat->Value,Q (Prod.fst (Prod.fst (nU (wS B),Prod.snd ([nU (wS B),.c 15 0 A (fg.a 0),.a .i64 (Int.ofNat A)],pS (wS B) (.a B true (some 3)) (.a [.a .u8 2,.f,.b ng,.b lg,.d s,.a .i64 e,.a .i64 0,.d mo,.d da,.a .u8 a,.a .u8 b,.a .u8 c,.a .u8 p,.a .i8 ra,.a .i64 rb,.a .i8 rc,.a .i64 rd] true none))),Prod.snd (nU (wS B),Prod.snd ([nU (wS B),.c 15 0 A (fg.a 0),.a .i64 (Int.ofNat A)],pS (wS B) (.a B true (some 3)) (.a [.a .u8 2,.f,.b ng,.b lg,.d s,.a .i64 e,.a .i64 0,.d mo,.d da,.a .u8 a,.a .u8 b,.a .u8 c,.a .u8 p,.a .i8 ra,.a .i64 rb,.a .i8 rc,.a .i64 rd] true none)))),Prod.snd (Prod.fst (nU (wS B),Prod.snd ([nU (wS B),.c 15 0 A (fg.a 0),.a .i64 (Int.ofNat A)],pS (wS B) (.a B true (some 3)) (.a [.a .u8 2,.f,.b ng,.b lg,.d s,.a .i64 e,.a .i64 0,.d mo,.d da,.a .u8 a,.a .u8 b,.a .u8 c,.a .u8 p,.a .i8 ra,.a .i64 rb,.a .i8 rc,.a .i64 rd] true none))),Prod.snd (nU (wS B),Prod.snd ([nU (wS B),.c 15 0 A (fg.a 0),.a .i64 (Int.ofNat A)],pS (wS B) (.a B true (some 3)) (.a [.a .u8 2,.f,.b ng,.b lg,.d s,.a .i64 e,.a .i64 0,.d mo,.d da,.a .u8 a,.a .u8 b,.a .u8 c,.a .u8 p,.a .i8 ra,.a .i64 rb,.a .i8 rc,.a .i64 rd] true none))))))) (Nat.ble A 1000000)) (bJ (aP ng s e mo da)) (List.length (aP ng s e mo da))) (λ_=>by kernel_rfl) λQ' hQ=>?_)
 . have hi:i=0:=by simp at hi;omega
   subst hi;cases he;exact bR (cC.a0 Ey) (by decide) rfl WH hw
 . try dsimp only
   have hp:0<(aP ng s e mo da).length:=by rw[b9]at hn;omega
   generalize aP ng s e mo da=C at *;obtain⟨u1,u2⟩:=@Do C;have cc:Nat.beq C.length C.length=true:=aJ.mpr rfl;try dsimp only
   rw[u1];have nI:iw [AV.a .u8 2,.f,.b ng,.b lg,.d s,.a .i64 e,.a .i64 0,.d mo,.d da,.a .u8 a,.a .u8 b,.a .u8 c,.a .u8 p,.a .i8 ra,.a .i64 rb,.a .i8 rc,.a .i64 rd]=true:=rfl;rw[(tZ (w:=.a (bJ C) true (some 3)) (b0:=.a [AV.a .u8 2,.f,.b ng,.b lg,.d s,.a .i64 e,.a .i64 0,.d mo,.d da,.a .u8 a,.a .u8 b,.a .u8 c,.a .u8 p,.a .i8 ra,.a .i64 rb,.a .i8 rc,.a .i64 rd] true none) hp).1,(tZ (w:=.a (bJ C) true (some 3)) (b0:=.a [AV.a .u8 2,.f,.b ng,.b lg,.d s,.a .i64 e,.a .i64 0,.d mo,.d da,.a .u8 a,.a .u8 b,.a .u8 c,.a .u8 p,.a .i8 ra,.a .i64 rb,.a .i8 rc,.a .i64 rd] true none) hp).2];simp only[h,hl,hn,hu,u2,cc,nI,reduceCtorEq,zAh]
   first|exact λ_=>hQ _ (dL.last (k:=2) rfl rfl (aO mw) rfl)|exact hQ _ (dL.last (k:=2) rfl rfl (aO mw) rfl)
theorem MG(hS:ak Tryz.prog cfg S):ak Tryz.prog cfg (eQ S 21 (fl 14 [] NV)):=by
 refine bm hS (fW dI.lv Az λargs ws t r he hr=>?_);unfold NV at he;split at he
 . rename_i k ng lg s e g mo da a b c p ra rb rc rd;cases he;replace hr:=aF hr;obtain⟨⟨k1,k2,k3,k4,k5,k6,-⟩,hr⟩:=hr;rw[ao]at k1 k2;rw[nr]at k5;subst k1 k2;cases hr;refine⟨XY k3 k4 k5 k6,λx hx=>?_⟩;simp only[zAe]at hx;subst hx;exact aO mw
 . cases he
def pV(R:List Rn)(x:Int):Nat:=(R.filter λr=>cP r.a r.b r.c r.d x).length
noncomputable def ZV:aQ:=eQ (bb gZ 29 YM) 21 (fl 14 [] NV)
def Zf:dW:=λvs o=>match vs,o with
 | [.a .i64 x,.c 15 0 n (.a 0),.a .i64 m,.a .i64 i],⟨2,[.a w true (some 4),.a F true none],[]⟩=>
   some (aH [aa i 0,aa m 0,eJ w,Nat.beq (g8 w).length n,Nat.ble n 1000000,j9 (g8 w),af .i64 x,iw F] (.a0 (.b 0,[.a .i64 x,.c 15 0 n (.a 0),.a .i64 (Int.ofNat (pV (g8 w) x)),.a .i64 (Int.ofNat n)],o)))
 | _,_=>none
theorem BN:ak Tryz.prog cfg ZV:=MG (We aW)
theorem wy:∀{R:List Rn} {i:Nat},eJ (bh R)->i<R.length->af .i64 (R.getD i fo).b/\af .i64 (R.getD i fo).d=true
 | [],i,_,h=>absurd h (Nat.not_lt_zero i)
 | r::R,0,h,_=>by
   simp only[bh,eJ,zAa]at h;exact⟨h.1,h.2.1⟩
 | r::R,i+1,h,hl=>by
   simp only[bh,eJ,zAa]at h;exact @wy R i h.2.2 (by simpa using hl)
theorem A1{R:List Rn}(h:i<R.length):R.take (i+1)=R.take i++[R.getD i fo]:=by
 rw[List.take_add_one,List.getElem?_eq_getElem h,zAd,List.getElem?_eq_getElem h];rfl
theorem MQ{R:List Rn}{x:Int}{i:Nat}(h:i<R.length):Int.ofNat (pV (R.take (i+1)) x)=Int.add (Int.ofNat (pV (R.take i) x)) (bI (cP (R.getD i fo).a (R.getD i fo).b (R.getD i fo).c (R.getD i fo).d x)):=by
 rw[A1 h];unfold pV;rw[List.filter_append,zAg];cases hb:cP (R.getD i fo).a (R.getD i fo).b (R.getD i fo).c (R.getD i fo).d x with
 | true=>simp only[List.filter_cons,hb,if_true,List.filter_nil,zAf,List.length_nil,bI,cond_true];rfl
 | false=>simp only[List.filter_cons,hb,List.filter_nil,List.length_nil,bI,cond_false,Nat.add_zero];exact(Int.add_zero _).symm
theorem Yf:cu Tryz.prog (cH cfg ZV) (Cw cfg []) (lb 11 0) 93 [1,5,6,7] Zf:=by
 intro vs o t Q hv hq J;unfold Zf at hv;split at hv
 . rename_i x n m i w F;cases hv;replace hq:=cO hq;obtain⟨⟨k1,k2,k3,k4,k5,k6,k7,k8,-⟩,hq⟩:=hq;rw[ao]at k1 k2;rw[aJ]at k4;rw[al]at k5;subst k1 k2;have ew:=hZ k3;generalize g8 w=R at *;subst k4 ew;have hq:Q (.b 0,[.a .i64 x,.c 15 0 R.length (.a 0),.a .i64 (Int.ofNat (pV R x)),.a .i64 (Int.ofNat R.length)],⟨2,[.a (bh R) true (some 4),.a F true none],[]⟩):=hq;refine ia BN rfl rfl ai (ι:={i:Nat // i<=R.length}) (λz=>[.a .i64 x,.c 15 0 R.length (.a 0),.a .i64 (Int.ofNat (pV (R.take z.1) x)),.a .i64 (Int.ofNat z.1)]) (λz=>⟨2,[.a (bh R) true (some 4),.a F true none],[]⟩) (λz=>R.length-z.1) 2 (λz=>Nat.le_refl _) (λz J=>?_) (Nat.le_refl _) (λJ=>Wk.a0 ⟨⟨0,Nat.zero_le _⟩,J,rfl⟩) J;obtain⟨i,hi⟩:=z;dsimp only;have fa:=@wH R i;have fr:=@wy R i k3;have one:=@MQ R x i;have hcl:pV (R.take i) x<=1000000:=by
    have h1:pV (R.take i) x<=(R.take i).length:=by unfold pV;exact List.length_filter_le _ _
    rw[List.length_take]at h1;omega
   have hok:i<R.length->aa (bA (R.getD i fo).a (R.getD i fo).b (R.getD i fo).c (R.getD i fo).d) 0=true:=λh=>by
    unfold j9 at k6;rw[zAd,List.getElem?_eq_getElem h];exact List.all_eq_true.1 k6 _ (List.getElem_mem _)
   have fin:i=R.length->∃vs2 o2,VW cfg (Cw cfg []) 2 93 [1,5,6,7] [.a .i64 x,.c 15 0 R.length (.a 0),.a .i64 (Int.ofNat (pV (R.take i) x)),.a .i64 (Int.ofNat i)] ⟨2,[.a (bh R) true (some 4),.a F true none],[]⟩ vs2 o2/\Q (.b 0,vs2,o2):=λh=>by
    subst h;rw[List.take_length];exact⟨_,_,VW.b0,hq⟩
   have go:i<R.length->∀vs o,VW cfg (Cw cfg []) 2 93 [1,5,6,7] vs o [.a .i64 x,.c 15 0 R.length (.a 0),.a .i64 (Int.ofNat (pV (R.take (i+1)) x)),.a .i64 (Int.ofNat (i+1))] ⟨2,[.a (bh R) true (some 4),.a F true none],[]⟩->∃z:{i:Nat // i<=R.length},R.length-z.1<R.length-i/\VW cfg (Cw cfg []) 2 93 [1,5,6,7] vs o [.a .i64 x,.c 15 0 R.length (.a 0),.a .i64 (Int.ofNat (pV (R.take z.1) x)),.a .i64 (Int.ofNat z.1)] ⟨2,[.a (bh R) true (some 4),.a F true none],[]⟩:=λh vs o hv=>⟨⟨i+1,h⟩,by dsimp only;omega,hv⟩;clear hq k6 k3;generalize pV (R.take i) x=m at *;refine jJ (bE 1114114427022704) (R:=λQ=>(λ(A B C:AV)(E:Int)(P:Nat)=>(λ(U:AV)(T:Bool)(G:Int)(V:Nat)=>(λ(W Z u0:AV)(H:Bool)(Y:Nat)=>(λ(u1 u2:AV)(I:Int)(u3:Prop)=>(λ(N:Int)=>(λ(O:Int)=>(λ(u5 u6:AV)(u4:Bool)=>(T->aS i R.length/\bC .i8 U/\bC .i64 W/\bC .i8 u1/\bC .i64 u2/\af .i64 I/\af .i64 N/\af .i64 x/\aa (bA (aK U) I (aK u1) N) 0/\(u4->(H->Q (.a,[A,B,u5,Z],⟨2,[.a (bh R) true (some 4),.a F true none],[]⟩))/\(u3->Q (.a,[A,B,u5,u0],⟨2,[.a (bh R) true (some 4),.a F true none],[]⟩)))/\(u4=false->(H->Q (.a,[A,B,u6,Z],⟨2,[.a (bh R) true (some 4),.a F true none],[]⟩))/\(u3->Q (.a,[A,B,u6,u0],⟨2,[.a (bh R) true (some 4),.a F true none],[]⟩))))/\(T=false->Q (.b 0,[A,B,.a .i64 (Int.ofNat m),.a .i64 E],⟨2,[.a (bh R) true (some 4),.a F true none],[]⟩))) (.a .i64 O) (.a .i64 (IntKind.wrap .i64 O)) (af .i64 O)) (Int.add (Int.ofNat m) (bI (cP (aK U) I (aK u1) N x)))) (aK u2)) (List.getD (bh R) Y C) (List.getD (bh R) (HAdd.hAdd Y 1) C) (aK W) (H=false)) (List.getD (bh R) V C) (.a .i64 G) (.a .i64 (IntKind.wrap .i64 G)) (af .i64 G) (HAdd.hAdd V 1)) (List.getD (bh R) P C) (not (ab (Int.ofNat R.length) E)) (Int.add E 1) (HAdd.hAdd P 1)) (.a .i64 x) (.c 15 0 R.length (fg.a 0)) (.e []) (Int.ofNat i) (HAdd.hAdd 0 (HMul.hMul i 4))) (λ_=>by kernel_rfl) λQ' hQ=>?_;try dsimp only
   rw[oz];by_cases h0:i<R.length
   . obtain⟨g0,g1,g2,g3⟩:=fa h0;obtain⟨r1,r2⟩:=fr h0;have hk:=hok h0;have go2:=go h0;rw[one h0]at go2;have go3:=hQ (.a,_,_) (go2 _ _ VW.b0);have hl:aS i R.length=true:=aU.2 h0;have b3:af .i64 (Int.add (Int.ofNat i) 1)=true:=by rw[aE];simp only[eH,eE];show _<=(i:Int)+1/\(i:Int)+1<=_;omega
     have b4:af .i64 (Int.add (Int.ofNat m) (bI (cP (R.getD i fo).a (R.getD i fo).b (R.getD i fo).c (R.getD i fo).d x)))=true:=by
      rw[aE];simp only[eH,eE];show _<=(m:Int)+bI _/\(m:Int)+bI _<=_;cases cP (R.getD i fo).a (R.getD i fo).b (R.getD i fo).c (R.getD i fo).d x<;>simp only[bI,zAj]<;>omega
     clear go go2 fin;try dsimp only
     rw[decide_eq_false (by omega),show 0+i*4=i*4 by omega,show i*4+1+1+1=i*4+3 by omega,show i*4+1+1=i*4+2 by omega,g0,g1,g2,g3];generalize R.getD i fo=r at *;simp only[bC,aK,gP,lm,show Nat.beq 3 3=true from rfl,show Nat.beq 0 0=true from rfl,hl,b3,b4,r1,r2,k7,hk,Bool.not_false,reduceCtorEq,zAh];exact go3
   . have fin2:=hQ (.b 0,_,_) (fin (by omega));try dsimp only
     rw[decide_eq_true (by omega)];simp only[Bool.not_true,reduceCtorEq,zAh];exact fin2
 . cases hv
end Go.Ev
