import Derived.Test.YtoghlpcacfnjbaaGreatDoorP40
set_option linter.all false
set_option maxRecDepth 100000
set_option maxHeartbeats 4000000
namespace Go.Ev
open Go Go.Proofs
variable{d p:Int}{S:aR}{C:List Ci}{i:Nat}{w b0:aE}
def R_:dJ:=λargs=>match args with
 | [.agg [.int .i8 a,.int .i64 L,.int .i8 c,.int .i64 H],.int .u8 p]=>some (aH [aa a 0,aa c 0,ae .i64 L,ae .i64 H,ab 1 p,ab p 3,jS L p,aa (vI L p) L,aa (AF L p) H] (.ret (.tuple [.int .i64 (cU L p),.int .i64 0])))
 | _=>none
def Ov:dJ:=λargs=>match args with
 | [.agg [.int .i8 a,.int .i64 L,.int .i8 c,.int .i64 H],.int .i64 p]=>some (aH [ae .i64 L,ab 1 p,ab p 3,jS L p] (.ret (.int .i64 (cU L p))))
 | _=>none
def EP:dJ:=λargs=>match args with
 | [.agg [.int .u8 k,.nilslice,.bool ng,.bool lg,.str s,.int .i64 e,.int .i64 g,.str mo,.str da,.int .u8 x,.int .u8 y,.int .u8 z,.int .u8 p,.int .i8 a,.int .i64 b,.int .i8 c,.int .i64 d]]=>some (aH [aa k 3,ae .i64 b,ae .i64 d,ab 1 p,ab p 3,(!(aa a 0) || jS b p),(!(aa c 0) || jS d p),(!(aa a 0&&aa c 0) || (ab (cU b p) (cU d p)&&ab (cU d p-cU b p) 1000000))] (.ret (.int .i64 (bif aa a 0&&aa c 0 then cU d p-cU b p+1 else -1))))
 | _=>none
def SX:aR:=aY R7 65 Ln
theorem Ls:ak Tryz.prog cfg SX:=EG vA
theorem ji(h:jS d p)(hp:p=1\/p=2):bR d=true:=by
 unfold jS at h;rcases hp with rfl|rfl<;>simpa [show aa 1 3=false from rfl,show aa 2 3=false from rfl]using h
theorem SU(hS:ak Tryz.prog cfg S):ak Tryz.prog cfg (aY S 66 R_):=au hS λargs t v he hv=>by
 unfold R_ at he;split at he
 . rename_i a L c H p;cases he;replace hv:=aF hv;obtain⟨⟨h1,h2,h3,h4,h5,h6,h7,h8,h9,-⟩,hv⟩:=hv;rw[al]at h1 h2;rw[ao]at h5 h6;subst h1 h2;cases hv;have hp:p=1\/p=2\/p=3:=by omega
   have hid:aD (.tuple [.int .i64 (cU L p),.int .i64 0])=[]:=by simp[aD,bz]
   rcases hp with rfl|rfl|rfl
   . have hc:=ji h7 (.inl rfl);refine kP Ls ag (bA 1220005145620200056) (R:=λQ=>(λ(B:AV)(A:Bool)=>ae .i64 L/\jS L 1/\(A->Q (.tuple [B,.int .i64 1]))/\(A=false->ae .i64 L/\bR L/\Q (.tuple [.int .i64 (aJ L),B]))) (.int .i64 0) (not (and (and true (and (aa (vI L 1) L) true)) (and (and true (and (aa (AF L 1) H) true)) true)))) (λ_=>by kernel_rfl) (hi:=hid) λQ' hQ=>?_;try dsimp only
     simp only[h3,h7,h8,h9,hc,Bool.and_true,Bool.not_true,reduceCtorEq,zAh];exact hQ
   . have hc:=ji h7 (.inr rfl);have cb:=g8 hc;have i1:ae .i64 (Int.mul 12 (aJ L))=true:=by rw[aB];simp only[dP,dR];show _<=12*aJ L/\12*aJ L<=_;omega
     have i2:ae .i64 (Int.add (Int.mul 12 (aJ L)) (bu L))=true:=by rw[aB];simp only[dP,dR];show _<=12*aJ L+bu L/\12*aJ L+bu L<=_;omega
     have i3:ae .i64 (Int.sub (Int.add (Int.mul 12 (aJ L)) (bu L)) 1)=true:=by rw[aB];simp only[dP,dR];show _<=12*aJ L+bu L-1/\12*aJ L+bu L-1<=_;omega
     refine kP Ls ag (bA 114114411411444220005145620200056) (R:=λQ=>(λ(A:AV)(O:Bool)(B:Int)=>(λ(P:Bool)(C E:Int)=>(λ(T U:Bool)(F G I N:Int)=>(λ(V W Y Z:Bool)=>ae .i64 L/\jS L 2/\(O->Q (.tuple [A,.int .i64 1]))/\(O=false->ae .i64 L/\bR L/\(P->(T->(V->Q (.tuple [.int .i64 F,A]))/\(V=false->Q (.tuple [.int .i64 (IntKind.wrap .i64 F),A])))/\(T=false->(W->Q (.tuple [.int .i64 G,A]))/\(W=false->Q (.tuple [.int .i64 (IntKind.wrap .i64 G),A]))))/\(P=false->(U->(Y->Q (.tuple [.int .i64 I,A]))/\(Y=false->Q (.tuple [.int .i64 (IntKind.wrap .i64 I),A])))/\(U=false->(Z->Q (.tuple [.int .i64 N,A]))/\(Z=false->Q (.tuple [.int .i64 (IntKind.wrap .i64 N),A])))))) (ae .i64 F) (ae .i64 G) (ae .i64 I) (ae .i64 N)) (ae .i64 C) (ae .i64 E) (Int.sub C 1) (Int.sub (IntKind.wrap .i64 C) 1) (Int.sub E 1) (Int.sub (IntKind.wrap .i64 E) 1)) (ae .i64 B) (Int.add B (bu L)) (Int.add (IntKind.wrap .i64 B) (bu L))) (.int .i64 0) (not (and (and true (and (aa (vI L 2) L) true)) (and (and true (and (aa (AF L 2) H) true)) true))) (Int.mul 12 (aJ L))) (λ_=>by kernel_rfl) (hi:=hid) λQ' hQ=>?_;try dsimp only
     have e:cU L 2=Int.sub (Int.add (Int.mul 12 (aJ L)) (bu L)) 1:=by show 12*aJ L+(bu L-1)=12*aJ L+bu L-1;omega
     rw[e]at hQ;try dsimp only
     simp only[h3,h7,h8,h9,hc,i1,i2,i3,Bool.and_true,Bool.not_true,reduceCtorEq,zAh];exact hQ
   . refine kP Ls ag (bA 1005140056200056) (R:=λQ=>(λ(B:AV)(A:Bool)=>ae .i64 L/\(A->Q (.tuple [B,.int .i64 1]))/\(A=false->Q (.tuple [.int .i64 L,B]))) (.int .i64 0) (not (and (and true (and (aa (vI L 3) L) true)) (and (and true (and (aa (AF L 3) H) true)) true)))) (λ_=>by kernel_rfl) (hi:=hid) λQ' hQ=>?_;try dsimp only
     simp only[h3,h7,h8,h9,Bool.and_true,Bool.not_true,reduceCtorEq,zAh];exact hQ
 . cases he
theorem Mo(hS:ak Tryz.prog cfg S):ak Tryz.prog cfg (aY S 63 Ov):=au hS λargs t v he hv=>by
 unfold Ov at he;split at he
 . rename_i a L c H p;cases he;replace hv:=aF hv;obtain⟨⟨h1,h2,h3,h4,-⟩,hv⟩:=hv;rw[ao]at h2 h3;cases hv;have hp:p=1\/p=2\/p=3:=by omega
   refine kP Fo ag (bA 1141144201141144204201204140) (R:=λQ=>(λ(A:Bool)(B:Int)=>(λ(O:Bool)(C E:Int)=>(λ(P T:Bool)(F G I N:Int)=>(λ(U V W Y:Bool)=>(aa p 3->Q (.int .i64 L))/\(aa p 3=false->(aa p 1->A/\Q (.int .i64 (aJ L)))/\(aa p 1=false->A/\(O->A/\(P->(U->Q (.int .i64 F))/\(U=false->Q (.int .i64 (IntKind.wrap .i64 F))))/\(P=false->(V->Q (.int .i64 G))/\(V=false->Q (.int .i64 (IntKind.wrap .i64 G)))))/\(O=false->A/\(T->(W->Q (.int .i64 I))/\(W=false->Q (.int .i64 (IntKind.wrap .i64 I))))/\(T=false->(Y->Q (.int .i64 N))/\(Y=false->Q (.int .i64 (IntKind.wrap .i64 N)))))))) (ae .i64 F) (ae .i64 G) (ae .i64 I) (ae .i64 N)) (ae .i64 C) (ae .i64 E) (Int.sub C 1) (Int.sub (IntKind.wrap .i64 C) 1) (Int.sub E 1) (Int.sub (IntKind.wrap .i64 E) 1)) (ae .i64 B) (Int.add B (bu L)) (Int.add (IntKind.wrap .i64 B) (bu L))) (bR L) (Int.mul 12 (aJ L))) (λ_=>by kernel_rfl) λQ' hQ=>?_;try dsimp only
   rcases hp with rfl|rfl|rfl
   . have hc:=ji h4 (.inl rfl);simp only[hc,show aa 1 3=false from rfl,show aa 1 1=true from rfl,reduceCtorEq,zAh];exact hQ
   . have hc:=ji h4 (.inr rfl);have cb:=g8 hc;have i1:ae .i64 (Int.mul 12 (aJ L))=true:=by rw[aB];simp only[dP,dR];show _<=12*aJ L/\12*aJ L<=_;omega
     have i2:ae .i64 (Int.add (Int.mul 12 (aJ L)) (bu L))=true:=by rw[aB];simp only[dP,dR];show _<=12*aJ L+bu L/\12*aJ L+bu L<=_;omega
     have i3:ae .i64 (Int.sub (Int.add (Int.mul 12 (aJ L)) (bu L)) 1)=true:=by rw[aB];simp only[dP,dR];show _<=12*aJ L+bu L-1/\12*aJ L+bu L-1<=_;omega
     have e:cU L 2=Int.sub (Int.add (Int.mul 12 (aJ L)) (bu L)) 1:=by show 12*aJ L+(bu L-1)=12*aJ L+bu L-1;omega
     rw[e]at hQ;simp only[hc,i1,i2,i3,show aa 2 3=false from rfl,show aa 2 1=false from rfl,reduceCtorEq,zAh];exact hQ
   . simp only[show aa 3 3=true from rfl,reduceCtorEq,zAh];exact hQ
 . cases he
theorem rD(n:Int):IntKind.wrap .u64 n=n%18446744073709551616:=rfl
theorem AH(hp:1<=p/\p<=3)(ok:jS d p)(hd:ae .i64 d):ae .i64 (vI d p)=true:=by
 have hp:p=1\/p=2\/p=3:=by omega
 rcases hp with rfl|rfl|rfl
 . have cb:=g8 (ji ok (.inl rfl));rw[aB];simp only[dP,dR];show _<=bf (aJ d)/\bf (aJ d)<=_;omega
 . have cb:=g8 (ji ok (.inr rfl));rw[aB];simp only[dP,dR];show _<=aG (aJ d) (bu d)/\aG (aJ d) (bu d)<=_;omega
 . exact hd
theorem o8(hp:1<=p/\p<=3)(ok:jS d p)(hd:ae .i64 d) : -9223372036854775808<=cU d p/\cU d p<=9223372036854775807:=by
 have hp:p=1\/p=2\/p=3:=by omega
 rcases hp with rfl|rfl|rfl
 . have cb:=g8 (ji ok (.inl rfl));show _<=aJ d/\aJ d<=_;omega
 . have cb:=g8 (ji ok (.inr rfl));show _<=12*aJ d+(bu d-1)/\12*aJ d+(bu d-1)<=_;omega
 . rw[aB]at hd;exact hd
theorem Lx(hS:ak Tryz.prog cfg S):ak Tryz.prog cfg (aY S 30 EP):=au hS λargs t v he hv=>by
 unfold EP at he;split at he
 . rename_i k ng lg s e g mo da x y z p a b c d;cases he;replace hv:=aF hv;obtain⟨⟨h1,h2,h3,h4,h5,h6,h7,h8,-⟩,hv⟩:=hv;rw[al]at h1;subst h1;cases ha:aa a 0 with
   | false=>
     rw[ha]at hv;cases hv;refine kP aV ag (bA 1023380006) (R:=λQ=>(λ(B:Bool)=>(λ(A:Prop)=>A/\A/\A/\A/\A/\B/\Q (.int .i64 (Neg.neg 1))) (not B=false)) (not (aa a 0))) (λ_=>by kernel_rfl) λQ' hQ=>?_;try dsimp only
     simp only[ha,Bool.not_false,Bool.not_true,true_and];exact hQ
   | true=>
     rw[ha]at hv h6 h8;rw[al]at ha;subst ha;cases hc:aa c 0 with
     | false=>
       rw[hc]at hv;cases hv;refine kP aV ag (bA 12066) (R:=λQ=>not (aa c 0)/\Q (.int .i64 (Neg.neg 1))) (λ_=>by kernel_rfl) λQ' hQ=>?_;simp only[hc,Bool.not_false,true_and];exact hQ
     | true=>
       rw[hc]at hv h7 h8;rw[al]at hc;subst hc;cases hv;simp only[Bool.not_true,Bool.false_or,Bool.and_self,zAa,ao]at h6 h7 h8;have hp:1<=p/\p<=3:=⟨ao.mp h4,ao.mp h5⟩;obtain⟨b1,b2,_,b4⟩:=pE hp h6;obtain⟨d1,d2,_,d4⟩:=pE hp h7;have b5:=AH hp h6 h2;have d5:=AH hp h7 h3;have sb:=o8 hp h6 h2;have sd:=o8 hp h7 h3;have p1:ae .i64 p=true:=by rw[aB];simp only[dP,dR];omega
       refine iI (Mo (VY aV)) ag (bA 114124141221441141241412214441141241412214411412414122144442702052702005702000702566) (R:=λQ=>(λ(G U V:Bool)(W Y:Int)(A:Prop)=>(λ(u4:Bool)(H I:Int)=>(λ(Z u5:Bool)(B u6 u7:Int)=>(λ(u9 ua:Bool)(C E F N ub:Int)(uc:Prop)=>(λ(ud ue ug uh uj uk um un:Bool)(O P T u0 uf ui ul uo:Int)=>(λ(up uq ur ut uu uw ux:Bool)(u1 u2 u3 us uv uy:Int)=>(λ(uz uA uB:Bool)=>G/\ae .i64 b/\u4/\jS b p/\G/\ae .i64 d/\u4/\jS d p/\G/\ae .i64 W/\U/\V/\jS W p/\G/\ae .i64 Y/\U/\V/\jS Y p/\(u5->(Z->(u9->(ua->A)/\(ua=false->ae .i64 B/\ae .i64 ub/\Q (.int .i64 ub)))/\(u9=false->(ud->A)/\(ud=false->(ue->ae .i64 uf/\Q (.int .i64 uf))/\(ue=false->(up->Q (.int .i64 u0))/\(up=false->Q (.int .i64 (IntKind.wrap .i64 u0)))))))/\(uc->(ug->(uh->A)/\(uh=false->ae .i64 C/\ae .i64 ui/\Q (.int .i64 ui)))/\(ug=false->(uq->A)/\(uq=false->(ur->ae .i64 us/\Q (.int .i64 us))/\(ur=false->(uz->Q (.int .i64 u1))/\(uz=false->Q (.int .i64 (IntKind.wrap .i64 u1))))))))/\(u5=false->(Z->(uj->(uk->A)/\(uk=false->ae .i64 E/\ae .i64 ul/\Q (.int .i64 ul)))/\(uj=false->(ut->A)/\(ut=false->(uu->ae .i64 uv/\Q (.int .i64 uv))/\(uu=false->(uA->Q (.int .i64 u2))/\(uA=false->Q (.int .i64 (IntKind.wrap .i64 u2)))))))/\(uc->(um->(un->A)/\(un=false->ae .i64 F/\ae .i64 uo/\Q (.int .i64 uo)))/\(um=false->(uw->A)/\(uw=false->(ux->ae .i64 uy/\Q (.int .i64 uy))/\(ux=false->(uB->Q (.int .i64 u3))/\(uB=false->Q (.int .i64 (IntKind.wrap .i64 u3))))))))) (ae .i64 u1) (ae .i64 u2) (ae .i64 u3)) (ae .i64 u0) (ab 9223372036854775807 O) (ae .i64 O) (ab 9223372036854775807 P) (ae .i64 P) (ab 9223372036854775807 T) (ae .i64 T) (Int.add (IntKind.wrap .i64 O) 1) (Int.add (IntKind.wrap .i64 P) 1) (Int.add (IntKind.wrap .i64 T) 1) (Int.add O 1) (Int.add P 1) (Int.add T 1)) (ab 9223372036854775807 N) (ae .i64 N) (ae .u64 C) (ab 9223372036854775807 C) (ae .u64 E) (ab 9223372036854775807 E) (ae .u64 F) (ab 9223372036854775807 F) (IntKind.wrap .u64 C) (IntKind.wrap .u64 E) (IntKind.wrap .u64 F) (Int.add (IntKind.wrap .i64 N) 1) (Int.add N 1) (Int.add C 1) (Int.add E 1) (Int.add F 1)) (ae .u64 B) (ab 9223372036854775807 B) (Int.sub H u6) (Int.sub u7 I) (Int.sub u7 u6) (IntKind.wrap .u64 B) (Int.add B 1) (Z=false)) (ae .u64 I) (ae .u64 H) (Int.sub H I) (IntKind.wrap .u64 I) (IntKind.wrap .u64 H)) (and U V) (cU Y p) (cU W p)) (ae .i64 p) (ab 1 p) (ab p 3) (vI b p) (vI d p) (Q (.int .i64 (Neg.neg 2)))) (λ_=>by kernel_rfl) λQ' hQ=>?_;try dsimp only
       have hQ:Q' (.int .i64 (Int.add (Int.sub (cU d p) (cU b p)) 1)):=hQ _ rfl;try dsimp only
       rw[b4,d4];generalize cU b p=A at *;generalize cU d p=B at *;have eD:Int.sub B A=B-A:=rfl;have c1:ab 9223372036854775807 (Int.sub B A)=false:=bY.mpr (by rw[eD];omega);have r1:ae .i64 (Int.sub B A)=true:=by rw[aB,eD];simp only[dP,dR];omega
       have r2:ae .i64 (Int.add (Int.sub B A) 1)=true:=by rw[aB];simp only[dP,dR];show _<=B-A+1/\B-A+1<=_;omega
       have r3:ae .u64 (Int.sub B A)=true:=by rw[aB,eD];simp only[dP,dR];omega
       by_cases hA:0<=A
       . have uA:ae .u64 A=true:=by rw[aB];simp only[dP,dR];omega
         have uB:ae .u64 B=true:=by rw[aB];simp only[dP,dR];omega
         simp only[p1,h2,h3,h4,h5,h6,h7,b1,d1,b5,d5,uA,uB,c1,r1,r2,r3,Bool.and_self,reduceCtorEq,zAh];exact hQ
       . have uA:ae .u64 A=false:=by rw[<-Bool.not_eq_true,aB];simp only[dP,dR];omega
         by_cases hB:0<=B
         . have uB:ae .u64 B=true:=by rw[aB];simp only[dP,dR];omega
           have e0:Int.sub B (IntKind.wrap .u64 A)=B-A-18446744073709551616:=by rw[rD];show B-A%18446744073709551616=_;omega
           have uS:ae .u64 (Int.sub B (IntKind.wrap .u64 A))=false:=by rw[<-Bool.not_eq_true,aB,e0];simp only[dP,dR];omega
           have e1:IntKind.wrap .u64 (Int.sub B (IntKind.wrap .u64 A))=Int.sub B A:=by rw[e0,rD,eD];omega
           simp only[p1,h2,h3,h4,h5,h6,h7,b1,d1,b5,d5,uA,uB,uS,e1,c1,r1,r2,r3,Bool.and_self,reduceCtorEq,zAh];exact hQ
         . have uB:ae .u64 B=false:=by rw[<-Bool.not_eq_true,aB];simp only[dP,dR];omega
           have e1:Int.sub (IntKind.wrap .u64 B) (IntKind.wrap .u64 A)=Int.sub B A:=by rw[rD,rD,eD];show B%18446744073709551616-A%18446744073709551616=_;omega
           simp only[p1,h2,h3,h4,h5,h6,h7,b1,d1,b5,d5,uA,uB,e1,c1,r1,r2,r3,Bool.and_self,reduceCtorEq,zAh];exact hQ
 . cases he
def N1(c:Ci):List AV:=[.int .i8 0,.int .i64 (jQ c.1 c.2.1 c.2.2),.int .i8 0,.int .i64 (jV c.1 c.2.1 c.2.2)]
def gq:List Ci->List AV
 | []=>[]
 | c::l=>.int .i8 0::.int .i64 (jQ c.1 c.2.1 c.2.2)::.int .i8 0::.int .i64 (jV c.1 c.2.1 c.2.2)::gq l
def sR(C:List Ci):Bool:=C.all λc=>nz c.1 c.2.1 c.2.2
def vT:List AV->List Ci
 | .int .i64 a::.int .i64 b::.int .i64 c::r=>(a,b,c)::vT r
 | _=>[]
def SY:List AV->Bool
 | []=>true
 | .int .i64 _::.int .i64 _::.int .i64 _::r=>SY r
 | _=>false
theorem Co:∀{C:List Ci},vT (bF C)=C/\SY (bF C)=true
 | []=>⟨rfl,rfl⟩
 | c::C=>by
   obtain⟨h1,h2⟩:=Co (C:=C);exact⟨by show c::vT (bF C)=c::C;rw[h1],h2⟩
theorem Cn:∀{w:List AV},SY w->bF (vT w)=w
 | [],_=>rfl
 | .int .i64 a::.int .i64 b::.int .i64 c::r,h=>by
   show .int .i64 a::.int .i64 b::.int .i64 c::bF (vT r)=_;rw[Cn (show SY r=true from h)]
 | [.int .i64 _],h=>by cases h
 | [.int .i64 _,.int .i64 _],h=>by cases h
def ny(C:List Ci):AV:=match C.length with
 | 0=>.nilslice
 | k+1=>.slice 16 0 (k+1) (.rest 0)
def pF(C:List Ci)(w b0:aE):aC:=match C.length with
 | 0=>⟨2,[w,b0],[]⟩
 | _+1=>⟨3,[.cells (gq C) true (some 4),w,b0],[]⟩
def QU:d9:=λvs o=>match vs,o with
 | [.nilslice,.slice 15 0 n (.rest 0),.int .i64 i],⟨2,[.cells w true (some 3),.cells F true none],[]⟩=>
   some (aH [aa i 0,SY w,Nat.beq (vT w).length n,Nat.ble n 1000000,sR (vT w),e_ F] (.ret (.exit 0,[ny (vT w),.slice 15 0 n (.rest 0),.int .i64 (Int.ofNat n)],pF (vT w) (.cells w true (some 3)) (.cells F true none))))
 | _,_=>none
noncomputable def W6:aR:=fw (aY gX 41 s9) 51 (fy 14 [] Pk)
def WT(w F:List AV)(n:Nat)(J:Nat->Value){Q:VQ->Prop}:fx Q (rT W6 io [] 21 0 40 [3,4,5] [.nilslice,.slice 15 0 n (.rest 0),.int .i64 0] J ⟨2,[.cells w true (some 3),.cells F true none],[]⟩) (bA 11005202202202204)=((λ(O P:aE)(B I N:AV)(A H:Bool)=>(λ(T U V:AV)=>(λ(C E G:Int)=>(λ(W:List AV)=>(H->A/\cq .i64 T/\A/\cq .i64 U/\A/\cq .i64 V/\nz C E G/\Q (.normal,[.slice 17 0 1 (eZ.rest 0),I,.int .i64 1],⟨4,[.cells W true (some 4),.cells W true none,O,P],[]⟩))/\(H=false->Q (.exit 0,[.nilslice,I,.int .i64 0],⟨2,[O,P],[]⟩))) [N,.int .i64 (jQ C E G),N,.int .i64 (jV C E G)]) (bC T) (bC U) (bC V)) (List.getD w 0 B) (List.getD w 1 B) (List.getD w 2 B)) (.cells w true (some 3)) (.cells F true none) (.tuple []) (.slice 15 0 n (eZ.rest 0)) (.int .i8 0) (aW 0 n) (not (ab (Int.ofNat n) 0))):=by kernel_rfl
def Ud(w cs F:List AV)(n i:Nat)(J:Nat->Value){Q:VQ->Prop}:fx Q (rT W6 io [] 21 0 40 [3,4,5] [.slice 16 0 i (.rest 0),.slice 15 0 n (.rest 0),.int .i64 (Int.ofNat i)] J ⟨3,[.cells cs true (some 4),.cells w true (some 3),.cells F true none],[]⟩) (bA 1122520202202202204)=((λ(T U:aE)(E P:AV)(B:Bool)(G:eZ)(A:Int)(C O:Nat)=>(λ(W Y Z u1:AV)(V:Bool)(u0:Int)=>(λ(H I N:Int)=>(λ(u2:List AV)=>(V->B/\cq .i64 W/\B/\cq .i64 Y/\B/\cq .i64 Z/\nz H I N/\and (and (Nat.ble O 1000000) true) true/\and true (Nat.beq cs.length (HMul.hMul i 4))/\ae .i64 u0/\Q (.normal,[.slice 18 0 O G,u1,.int .i64 u0],⟨5,[.cells (cs++u2) true (some 4),.cells u2 true none,aE.dead,T,U],[]⟩))/\(V=false->Q (.exit 0,[.slice 16 0 i G,u1,.int .i64 A],⟨3,[.cells cs true (some 4),T,U],[]⟩))) [P,.int .i64 (jQ H I N),P,.int .i64 (jV H I N)]) (bC W) (bC Y) (bC Z)) (List.getD w (HAdd.hAdd C 0) E) (List.getD w (HAdd.hAdd C 1) E) (List.getD w (HAdd.hAdd C 2) E) (.slice 15 0 n G) (not (ab (Int.ofNat n) A)) (Int.add A 1)) (.cells w true (some 3)) (.cells F true none) (.tuple []) (.int .i8 0) (aW i n) (eZ.rest 0) (Int.ofNat i) (HAdd.hAdd 0 (HMul.hMul i 3)) (HAdd.hAdd i 1)):=by kernel_rfl
theorem D6:ak Tryz.prog cfg W6:=PM (TN aV)
theorem zu:∀{l k:List Ci},gq (l++k)=gq l++gq k
 | [],k=>rfl
 | c::l,k=>by
   show _::_::_::_::gq (l++k)=_;rw[zu];rfl
theorem zo:∀{l:List Ci},(gq l).length=l.length*4
 | []=>rfl
 | c::l=>by
   show(gq l).length+1+1+1+1=_;rw[zo,zAd];omega
theorem lG:∀{l:List Ci},bz (gq l)=[]
 | []=>rfl
 | c::l=>by
   show bz (.int .i8 0::.int .i64 (jQ c.1 c.2.1 c.2.2)::.int .i8 0::.int .i64 (jV c.1 c.2.1 c.2.2)::gq l)=[];simp only[bz,aD,List.nil_append];exact lG
def If:Ci:=(0,0,0)
theorem UO:∀{C:List Ci} {i:Nat},i<C.length->(bF C).getD (i*3) (.tuple [])=.int .i64 (C.getD i If).1/\(bF C).getD (i*3+1) (.tuple [])=.int .i64 (C.getD i If).2.1/\(bF C).getD (i*3+2) (.tuple [])=.int .i64 (C.getD i If).2.2
 | [],i,h=>absurd h (Nat.not_lt_zero i)
 | c::C,0,_=>⟨rfl,rfl,rfl⟩
 | c::C,i+1,h=>by
   have ih:=@UO C i (by simpa using h);rw[show(i+1)*3=i*3+1+1+1 by omega];exact ih
theorem Hw(h:i<C.length):C.take (i+1)=C.take i++[C.getD i If]:=by
 rw[List.take_add_one,List.getElem?_eq_getElem h,zAe,List.getElem?_eq_getElem h];rfl
theorem IB(h:C.length=0):ny C=.nilslice/\pF C w b0=⟨2,[w,b0],[]⟩:=by unfold ny pF;rw[h];exact⟨rfl,rfl⟩
theorem sL(h:0<C.length):ny C=.slice 16 0 C.length (.rest 0)/\pF C w b0=⟨3,[.cells (gq C) true (some 4),w,b0],[]⟩:=by
 obtain⟨k,hk⟩:∃k,C.length=k+1:=⟨_,(Nat.succ_pred_eq_of_pos h).symm⟩;unfold ny pF;rw[hk];exact⟨rfl,rfl⟩
theorem RT:2<=(pF C w b0).n:=by
 unfold pF;split<;>simp
theorem jB{n:Nat}:ab (Int.ofNat n) (Int.ofNat i)=decide (n<=i):=by
 rw[ea];congr 1;rw[eq_iff_iff];simp only[Int.ofNat_eq_natCast];omega
theorem Wd:cx Tryz.prog (cH cfg W6) (Cw cfg []) (lb 21 0) 40 [3,4,5] QU:=by
 intro vs o t Q hv hq J;unfold QU at hv;split at hv
 . rename_i n i w F;cases hv;replace hq:=cL hq;obtain⟨⟨k1,k2,k3,k4,k5,k6,-⟩,hq⟩:=hq;rw[al]at k1;rw[aK]at k3;rw[aq]at k4;subst k1;have ew:=Cn k2;generalize vT w=C at *;subst k3 ew;have hq:Q (.exit 0,[ny C,.slice 15 0 C.length (.rest 0),.int .i64 (Int.ofNat C.length)],pF C (.cells (bF C) true (some 3)) (.cells F true none)):=hq;refine im D6 rfl rfl ag (ι:={i:Nat // i<=C.length}) (λx=>[ny (C.take x.1),.slice 15 0 C.length (.rest 0),.int .i64 (Int.ofNat x.1)]) (λx=>pF (C.take x.1) (.cells (bF C) true (some 3)) (.cells F true none)) (λx=>C.length-x.1) 2 (λx=>RT) (λx J=>?_) (Nat.le_refl _) (λJ=>Wk.refl ⟨⟨0,Nat.zero_le _⟩,J,by simp only[List.take_zero];rfl⟩) J;obtain⟨i,hi⟩:=x;dsimp only;have lt:(C.take i).length=i:=by rw[List.length_take];omega
   have wl:cR (14+2) (.cells (bF C) true (some 3)):=aO gK;have bl:cR (14+2) (.cells F true none):=aO (fY.1 k6);have hlow:∀z∈[aE.cells (bF C) true (some 3),.cells F true none],cR (14+2) z:=λz hz=>by
    simp only[List.mem_cons,List.not_mem_nil,or_false]at hz;rcases hz with rfl|rfl
    . exact wl
    . exact bl
   have fin:i=C.length->∃vs2 o2,VW cfg (Cw cfg []) 2 40 [3,4,5] [ny (C.take i),.slice 15 0 C.length (.rest 0),.int .i64 (Int.ofNat i)] (pF (C.take i) (.cells (bF C) true (some 3)) (.cells F true none)) vs2 o2/\Q (.exit 0,vs2,o2):=λh=>by
    subst h;rw[List.take_length];exact⟨_,_,VW.refl,hq⟩
   have go:i<C.length->∀vs o,VW cfg (Cw cfg []) 2 40 [3,4,5] vs o [ny (C.take i++[C.getD i If]),.slice 15 0 C.length (.rest 0),.int .i64 (Int.ofNat (i+1))] (pF (C.take i++[C.getD i If]) (.cells (bF C) true (some 3)) (.cells F true none))->∃x:{i:Nat // i<=C.length},C.length-x.1<C.length-i/\VW cfg (Cw cfg []) 2 40 [3,4,5] vs o [ny (C.take x.1),.slice 15 0 C.length (.rest 0),.int .i64 (Int.ofNat x.1)] (pF (C.take x.1) (.cells (bF C) true (some 3)) (.cells F true none)):=λh vs o hv=>⟨⟨i+1,h⟩,by dsimp only;omega,by
    dsimp only;rw[Hw h];exact hv⟩
   have hU:i<C.length->nz (C.getD i If).1 (C.getD i If).2.1 (C.getD i If).2.2=true:=λh=>by
    unfold sR at k5;rw[zAe,List.getElem?_eq_getElem h];exact List.all_eq_true.1 k5 _ (List.getElem_mem _)
   have gc:=@UO C i;have hp:0<(C.take i++[C.getD i If]).length:=by rw[zAg];simp
   have hl1:(C.take i++[C.getD i If]).length=i+1:=by rw[zAg,lt];rfl
   rw[(sL (w:=.cells (bF C) true (some 3)) (b0:=.cells F true none) hp).1,(sL (w:=.cells (bF C) true (some 3)) (b0:=.cells F true none) hp).2,hl1,zu]at go;generalize hc:C.getD i If=c at *;have e1:gq [c]=[.int .i8 0,.int .i64 (jQ c.1 c.2.1 c.2.2),.int .i8 0,.int .i64 (jV c.1 c.2.1 c.2.2)]:=rfl;rw[e1]at go;clear hq hp hl1 k5 k2;by_cases hN:i=0
   . subst hN;rw[(IB (w:=.cells (bF C) true (some 3)) (b0:=.cells F true none) lt).1,(IB (w:=.cells (bF C) true (some 3)) (b0:=.cells F true none) lt).2]at fin ⊢;rw[List.take_zero]at go;refine dD λQ' hQ=>bG ((WT (bF C) F C.length J).mpr ?_);dsimp only;have e0:ab (Int.ofNat C.length) 0=decide (C.length<=0):=jB (i:=0);rw[e0];by_cases h0:0<C.length
     . obtain⟨g0,g1,g2⟩:=gc h0;have go3:=hQ (.normal,_,_) (go h0 _ _ (fu (tn:=40) (rel:=[3,4,5]) (vs:=[.slice 17 0 1 (.rest 0),.slice 15 0 C.length (.rest 0),.int .i64 1]) (vs':=[.slice 16 0 1 (.rest 0),.slice 15 0 C.length (.rest 0),.int .i64 1]) (x:=.cells (N1 c) true (some 4)) (mid:=[.cells (N1 c) true none]) (B:=[.cells (bF C) true (some 3),.cells F true none]) (k:=1) (kb:=2) (n:=4) rfl rfl rfl hlow (aO rfl) rfl));try dsimp only
       rw[decide_eq_false (by omega),show(bF C).getD 0 (.tuple [])=_ from g0,show(bF C).getD 1 (.tuple [])=_ from g1,show(bF C).getD 2 (.tuple [])=_ from g2];have hu:=hU h0;have hl:aW 0 C.length=true:=aS.2 h0;simp only[cq,bC,gN,kS,show Nat.beq 3 3=true from rfl,hu,hl,Bool.not_false,reduceCtorEq,zAh];exact go3
     . have fin2:=hQ (.exit 0,_,_) (fin (by omega));try dsimp only
       rw[decide_eq_true (by omega)];simp only[Bool.not_true,reduceCtorEq,zAh];exact fin2
   . have hpos:0<(C.take i).length:=by omega
     rw[(sL (w:=.cells (bF C) true (some 3)) (b0:=.cells F true none) hpos).1,(sL (w:=.cells (bF C) true (some 3)) (b0:=.cells F true none) hpos).2,lt]at fin ⊢;have lU:Nat.beq (gq (C.take i)).length (i*4)=true:=aK.mpr (by rw[zo,lt]);refine dD λQ' hQ=>bG ((Ud (bF C) (gq (C.take i)) F C.length i J).mpr ?_);dsimp only;rw[jB];by_cases h0:i<C.length
     . obtain⟨g0,g1,g2⟩:=gc h0;have go3:=hQ (.normal,_,_) (go h0 _ _ (fu (tn:=40) (rel:=[3,4,5]) (vs:=[.slice 18 0 (i+1) (.rest 0),.slice 15 0 C.length (.rest 0),.int .i64 (Int.ofNat (i+1))]) (vs':=[.slice 16 0 (i+1) (.rest 0),.slice 15 0 C.length (.rest 0),.int .i64 (Int.ofNat (i+1))]) (x:=.cells (gq (C.take i)++N1 c) true (some 4)) (mid:=[.cells (N1 c) true none,.dead]) (B:=[.cells (bF C) true (some 3),.cells F true none]) (k:=2) (kb:=2) (n:=5) rfl rfl rfl hlow (aO (by rw[gu,lG];rfl)) rfl));try dsimp only
       rw[decide_eq_false (by omega),show 0+i*3+0=i*3 by omega,show 0+i*3+1=i*3+1 by omega,show 0+i*3+2=i*3+2 by omega,g0,g1,g2];have hu:=hU h0;have hl:aW i C.length=true:=aS.2 h0;have b1:Nat.ble (i+1) 1000000=true:=aq.mpr (by omega);have b3:ae .i64 (Int.add (Int.ofNat i) 1)=true:=by rw[aB];simp only[dP,dR];show _<=(i:Int)+1/\(i:Int)+1<=_;omega
       simp only[cq,bC,gN,kS,show Nat.beq 3 3=true from rfl,hu,hl,b1,b3,lU,Bool.and_true,Bool.not_false,reduceCtorEq,zAh];exact go3
     . have fin2:=hQ (.exit 0,_,_) (fin (by omega));try dsimp only
       rw[decide_eq_true (by omega)];simp only[Bool.not_true,reduceCtorEq,zAh];exact fin2
 . cases hv
noncomputable def Xo:cz:=iz io 0 (eb 40 [3,4,5] QU)
def QI:lB:=λargs ws=>match args,ws with
 | [.agg [.int .u8 k,.nilslice,.bool ng,.bool lg,.str s,.int .i64 e,.int .i64 g,.str mo,.str da,.int .u8 a,.int .u8 b,.int .u8 c,.int .u8 p,.int .i8 ra,.int .i64 rb,.int .i8 rc,.int .i64 rd]],[]=>some (aH [aa k 2,aa g 0,kM ng lg s e mo da,Nat.ble (bZ ng s e mo da).length 1000000,!(Nat.beq (bZ ng s e mo da).length 0),sR (bZ ng s e mo da)] (.ret (.slice 14 0 (bZ ng s e mo da).length (.rest 0),[.cells (gq (bZ ng s e mo da)) true (some 4)])))
 | _,_=>none
def MO:bh tab 21=some (dC 21,aN 21):=by kernel_rfl
def KE:(bj (aN 21)).map (·.1)=[0]:=by kernel_rfl
theorem Xh{ng lg:Bool}{s:List UInt8}{e:Int}{mo da:List UInt8}{a b c ra rb rc rd:Int}(h:kM ng lg s e mo da)(hl:Nat.ble (bZ ng s e mo da).length 1000000)(hn:Nat.beq (bZ ng s e mo da).length 0=false)(hu:sR (bZ ng s e mo da)) :
 bt Tryz.prog cfg 21 [.agg [.int .u8 2,.nilslice,.bool ng,.bool lg,.str s,.int .i64 e,.int .i64 0,.str mo,.str da,.int .u8 a,.int .u8 b,.int .u8 c,.int .u8 p,.int .i8 ra,.int .i64 rb,.int .i8 rc,.int .i64 rd]] [] (.slice 14 0 (bZ ng s e mo da).length (.rest 0)) [.cells (gq (bZ ng s e mo da)) true (some 4)]:=by
 refine Bp D6 (L:=Xo) MO (by simp) (dv KE λi hi e he st Q hw=>?_) (jT (bA 10270322056) (R:=λQ=>(λ(B:List AV)(A:Nat)=>(λ(C:Bool)=>kM ng lg s e mo da/\C/\Nat.beq A 0=false/\SY B/\Nat.beq (List.length (vT B)) A/\C/\sR (vT B)/\(∀J1:Nat->Value,Q (Prod.fst (Prod.fst (ny (vT B),Prod.snd ([ny (vT B),.slice 15 0 A (eZ.rest 0),.int .i64 (Int.ofNat A)],pF (vT B) (.cells B true (some 3)) (.cells [.int .u8 2,.nilslice,.bool ng,.bool lg,.str s,.int .i64 e,.int .i64 0,.str mo,.str da,.int .u8 a,.int .u8 b,.int .u8 c,.int .u8 p,.int .i8 ra,.int .i64 rb,.int .i8 rc,.int .i64 rd] true none))),Prod.snd (ny (vT B),Prod.snd ([ny (vT B),.slice 15 0 A (eZ.rest 0),.int .i64 (Int.ofNat A)],pF (vT B) (.cells B true (some 3)) (.cells [.int .u8 2,.nilslice,.bool ng,.bool lg,.str s,.int .i64 e,.int .i64 0,.str mo,.str da,.int .u8 a,.int .u8 b,.int .u8 c,.int .u8 p,.int .i8 ra,.int .i64 rb,.int .i8 rc,.int .i64 rd] true none)))),Prod.snd (Prod.fst (ny (vT B),Prod.snd ([ny (vT B),.slice 15 0 A (eZ.rest 0),.int .i64 (Int.ofNat A)],pF (vT B) (.cells B true (some 3)) (.cells [.int .u8 2,.nilslice,.bool ng,.bool lg,.str s,.int .i64 e,.int .i64 0,.str mo,.str da,.int .u8 a,.int .u8 b,.int .u8 c,.int .u8 p,.int .i8 ra,.int .i64 rb,.int .i8 rc,.int .i64 rd] true none))),Prod.snd (ny (vT B),Prod.snd ([ny (vT B),.slice 15 0 A (eZ.rest 0),.int .i64 (Int.ofNat A)],pF (vT B) (.cells B true (some 3)) (.cells [.int .u8 2,.nilslice,.bool ng,.bool lg,.str s,.int .i64 e,.int .i64 0,.str mo,.str da,.int .u8 a,.int .u8 b,.int .u8 c,.int .u8 p,.int .i8 ra,.int .i64 rb,.int .i8 rc,.int .i64 rd] true none))))))) (Nat.ble A 1000000)) (bF (bZ ng s e mo da)) (List.length (bZ ng s e mo da))) (λ_=>by kernel_rfl) λQ' hQ=>?_)
 . have hi:i=0:=by simp at hi;omega
   subst hi;cases he;exact b7 (cF.good D6) (by decide) rfl Wd hw
 . try dsimp only
   have hp:0<(bZ ng s e mo da).length:=by rw[cr]at hn;omega
   generalize bZ ng s e mo da=C at *;obtain⟨u1,u2⟩:=@Co C;have cc:Nat.beq C.length C.length=true:=aK.mpr rfl;try dsimp only
   rw[u1];have nI:e_ [AV.int .u8 2,.nilslice,.bool ng,.bool lg,.str s,.int .i64 e,.int .i64 0,.str mo,.str da,.int .u8 a,.int .u8 b,.int .u8 c,.int .u8 p,.int .i8 ra,.int .i64 rb,.int .i8 rc,.int .i64 rd]=true:=rfl;rw[(sL (w:=.cells (bF C) true (some 3)) (b0:=.cells [AV.int .u8 2,.nilslice,.bool ng,.bool lg,.str s,.int .i64 e,.int .i64 0,.str mo,.str da,.int .u8 a,.int .u8 b,.int .u8 c,.int .u8 p,.int .i8 ra,.int .i64 rb,.int .i8 rc,.int .i64 rd] true none) hp).1,(sL (w:=.cells (bF C) true (some 3)) (b0:=.cells [AV.int .u8 2,.nilslice,.bool ng,.bool lg,.str s,.int .i64 e,.int .i64 0,.str mo,.str da,.int .u8 a,.int .u8 b,.int .u8 c,.int .u8 p,.int .i8 ra,.int .i64 rb,.int .i8 rc,.int .i64 rd] true none) hp).2];simp only[h,hl,hn,hu,u2,cc,nI,reduceCtorEq,zAh]
   first|exact λ_=>hQ _ (dL.last (k:=2) rfl rfl (aO lG) rfl)|exact hQ _ (dL.last (k:=2) rfl rfl (aO lG) rfl)
theorem Pi(hS:ak Tryz.prog cfg S):ak Tryz.prog cfg (fw S 21 (fy 14 [] QI)):=by
 refine bm hS (ga dG.lv AD λargs ws t r he hr=>?_);unfold QI at he;split at he
 . rename_i k ng lg s e g mo da a b c p ra rb rc rd;cases he;replace hr:=aF hr;obtain⟨⟨k1,k2,k3,k4,k5,k6,-⟩,hr⟩:=hr;rw[al]at k1 k2;rw[mr]at k5;subst k1 k2;cases hr;refine⟨Xh k3 k4 k5 k6,λx hx=>?_⟩;simp only[zAf]at hx;subst hx;exact aO lG
 . cases he
def pM(R:List Rn)(x:Int):Nat:=(R.filter λr=>co r.a r.b r.c r.d x).length
noncomputable def Yp:aR:=fw (aY gX 29 XK) 21 (fy 14 [] QI)
def YD:d9:=λvs o=>match vs,o with
 | [.int .i64 x,.slice 15 0 n (.rest 0),.int .i64 m,.int .i64 i],⟨2,[.cells w true (some 4),.cells F true none],[]⟩=>
   some (aH [aa i 0,aa m 0,eQ w,Nat.beq (jD w).length n,Nat.ble n 1000000,iM (jD w),ae .i64 x,e_ F] (.ret (.exit 0,[.int .i64 x,.slice 15 0 n (.rest 0),.int .i64 (Int.ofNat (pM (jD w) x)),.int .i64 (Int.ofNat n)],o)))
 | _,_=>none
theorem BA:ak Tryz.prog cfg Yp:=Pi (We aV)
theorem Gw:∀{R:List Rn} {i:Nat},eQ (bB R)->i<R.length->ae .i64 (R.getD i j7).b/\ae .i64 (R.getD i j7).d=true
 | [],i,_,h=>absurd h (Nat.not_lt_zero i)
 | r::R,0,h,_=>by
   simp only[bB,eQ,zAa]at h;exact⟨h.1,h.2.1⟩
 | r::R,i+1,h,hl=>by
   simp only[bB,eQ,zAa]at h;exact @Gw R i h.2.2 (by simpa using hl)
theorem Ic{R:List Rn}(h:i<R.length):R.take (i+1)=R.take i++[R.getD i j7]:=by
 rw[List.take_add_one,List.getElem?_eq_getElem h,zAe,List.getElem?_eq_getElem h];rfl
theorem Lf{R:List Rn}{x:Int}{i:Nat}(h:i<R.length):Int.ofNat (pM (R.take (i+1)) x)=Int.add (Int.ofNat (pM (R.take i) x)) (bI (co (R.getD i j7).a (R.getD i j7).b (R.getD i j7).c (R.getD i j7).d x)):=by
 rw[Ic h];unfold pM;rw[List.filter_append,zAg];cases hb:co (R.getD i j7).a (R.getD i j7).b (R.getD i j7).c (R.getD i j7).d x with
 | true=>simp only[List.filter_cons,hb,if_true,List.filter_nil,zAd,List.length_nil,bI,cond_true];rfl
 | false=>simp only[List.filter_cons,hb,List.filter_nil,List.length_nil,bI,cond_false,Nat.add_zero];exact(Int.add_zero _).symm
theorem YJ:cx Tryz.prog (cH cfg Yp) (Cw cfg []) (lb 11 0) 93 [1,5,6,7] YD:=by
 intro vs o t Q hv hq J;unfold YD at hv;split at hv
 . rename_i x n m i w F;cases hv;replace hq:=cL hq;obtain⟨⟨k1,k2,k3,k4,k5,k6,k7,k8,-⟩,hq⟩:=hq;rw[al]at k1 k2;rw[aK]at k4;rw[aq]at k5;subst k1 k2;have ew:=iH k3;generalize jD w=R at *;subst k4 ew;have hq:Q (.exit 0,[.int .i64 x,.slice 15 0 R.length (.rest 0),.int .i64 (Int.ofNat (pM R x)),.int .i64 (Int.ofNat R.length)],⟨2,[.cells (bB R) true (some 4),.cells F true none],[]⟩):=hq;refine im BA rfl rfl ag (ι:={i:Nat // i<=R.length}) (λz=>[.int .i64 x,.slice 15 0 R.length (.rest 0),.int .i64 (Int.ofNat (pM (R.take z.1) x)),.int .i64 (Int.ofNat z.1)]) (λz=>⟨2,[.cells (bB R) true (some 4),.cells F true none],[]⟩) (λz=>R.length-z.1) 2 (λz=>Nat.le_refl _) (λz J=>?_) (Nat.le_refl _) (λJ=>Wk.refl ⟨⟨0,Nat.zero_le _⟩,J,rfl⟩) J;obtain⟨i,hi⟩:=z;dsimp only;have fa:=@BK R i;have fr:=@Gw R i k3;have one:=@Lf R x i;have hcl:pM (R.take i) x<=1000000:=by
    have h1:pM (R.take i) x<=(R.take i).length:=by unfold pM;exact List.length_filter_le _ _
    rw[List.length_take]at h1;omega
   have hok:i<R.length->aa (a_ (R.getD i j7).a (R.getD i j7).b (R.getD i j7).c (R.getD i j7).d) 0=true:=λh=>by
    unfold iM at k6;rw[zAe,List.getElem?_eq_getElem h];exact List.all_eq_true.1 k6 _ (List.getElem_mem _)
   have fin:i=R.length->∃vs2 o2,VW cfg (Cw cfg []) 2 93 [1,5,6,7] [.int .i64 x,.slice 15 0 R.length (.rest 0),.int .i64 (Int.ofNat (pM (R.take i) x)),.int .i64 (Int.ofNat i)] ⟨2,[.cells (bB R) true (some 4),.cells F true none],[]⟩ vs2 o2/\Q (.exit 0,vs2,o2):=λh=>by
    subst h;rw[List.take_length];exact⟨_,_,VW.refl,hq⟩
   have go:i<R.length->∀vs o,VW cfg (Cw cfg []) 2 93 [1,5,6,7] vs o [.int .i64 x,.slice 15 0 R.length (.rest 0),.int .i64 (Int.ofNat (pM (R.take (i+1)) x)),.int .i64 (Int.ofNat (i+1))] ⟨2,[.cells (bB R) true (some 4),.cells F true none],[]⟩->∃z:{i:Nat // i<=R.length},R.length-z.1<R.length-i/\VW cfg (Cw cfg []) 2 93 [1,5,6,7] vs o [.int .i64 x,.slice 15 0 R.length (.rest 0),.int .i64 (Int.ofNat (pM (R.take z.1) x)),.int .i64 (Int.ofNat z.1)] ⟨2,[.cells (bB R) true (some 4),.cells F true none],[]⟩:=λh vs o hv=>⟨⟨i+1,h⟩,by dsimp only;omega,hv⟩;clear hq k6 k3;generalize pM (R.take i) x=m at *;refine jT (bA 1114114427022704) (R:=λQ=>(λ(A B C:AV)(E:Int)(P:Nat)=>(λ(U:AV)(T:Bool)(G:Int)(V:Nat)=>(λ(W Z u0:AV)(H:Bool)(Y:Nat)=>(λ(u1 u2:AV)(I:Int)(u3:Prop)=>(λ(N:Int)=>(λ(O:Int)=>(λ(u5 u6:AV)(u4:Bool)=>(T->aW i R.length/\cq .i8 U/\cq .i64 W/\cq .i8 u1/\cq .i64 u2/\ae .i64 I/\ae .i64 N/\ae .i64 x/\aa (a_ (bC U) I (bC u1) N) 0/\(u4->(H->Q (.normal,[A,B,u5,Z],⟨2,[.cells (bB R) true (some 4),.cells F true none],[]⟩))/\(u3->Q (.normal,[A,B,u5,u0],⟨2,[.cells (bB R) true (some 4),.cells F true none],[]⟩)))/\(u4=false->(H->Q (.normal,[A,B,u6,Z],⟨2,[.cells (bB R) true (some 4),.cells F true none],[]⟩))/\(u3->Q (.normal,[A,B,u6,u0],⟨2,[.cells (bB R) true (some 4),.cells F true none],[]⟩))))/\(T=false->Q (.exit 0,[A,B,.int .i64 (Int.ofNat m),.int .i64 E],⟨2,[.cells (bB R) true (some 4),.cells F true none],[]⟩))) (.int .i64 O) (.int .i64 (IntKind.wrap .i64 O)) (ae .i64 O)) (Int.add (Int.ofNat m) (bI (co (bC U) I (bC u1) N x)))) (bC u2)) (List.getD (bB R) Y C) (List.getD (bB R) (HAdd.hAdd Y 1) C) (bC W) (H=false)) (List.getD (bB R) V C) (.int .i64 G) (.int .i64 (IntKind.wrap .i64 G)) (ae .i64 G) (HAdd.hAdd V 1)) (List.getD (bB R) P C) (not (ab (Int.ofNat R.length) E)) (Int.add E 1) (HAdd.hAdd P 1)) (.int .i64 x) (.slice 15 0 R.length (eZ.rest 0)) (.tuple []) (Int.ofNat i) (HAdd.hAdd 0 (HMul.hMul i 4))) (λ_=>by kernel_rfl) λQ' hQ=>?_;try dsimp only
   rw[jB];by_cases h0:i<R.length
   . obtain⟨g0,g1,g2,g3⟩:=fa h0;obtain⟨r1,r2⟩:=fr h0;have hk:=hok h0;have go2:=go h0;rw[one h0]at go2;have go3:=hQ (.normal,_,_) (go2 _ _ VW.refl);have hl:aW i R.length=true:=aS.2 h0;have b3:ae .i64 (Int.add (Int.ofNat i) 1)=true:=by rw[aB];simp only[dP,dR];show _<=(i:Int)+1/\(i:Int)+1<=_;omega
     have b4:ae .i64 (Int.add (Int.ofNat m) (bI (co (R.getD i j7).a (R.getD i j7).b (R.getD i j7).c (R.getD i j7).d x)))=true:=by
      rw[aB];simp only[dP,dR];show _<=(m:Int)+bI _/\(m:Int)+bI _<=_;cases co (R.getD i j7).a (R.getD i j7).b (R.getD i j7).c (R.getD i j7).d x<;>simp only[bI,zAj]<;>omega
     clear go go2 fin;try dsimp only
     rw[decide_eq_false (by omega),show 0+i*4=i*4 by omega,show i*4+1+1+1=i*4+3 by omega,show i*4+1+1=i*4+2 by omega,g0,g1,g2,g3];generalize R.getD i j7=r at *;simp only[cq,bC,gN,kS,show Nat.beq 3 3=true from rfl,show Nat.beq 0 0=true from rfl,hl,b3,b4,r1,r2,k7,hk,Bool.not_false,reduceCtorEq,zAh];exact go3
   . have fin2:=hQ (.exit 0,_,_) (fin (by omega));try dsimp only
     rw[decide_eq_true (by omega)];simp only[Bool.not_true,reduceCtorEq,zAh];exact fin2
 . cases hv
end Go.Ev
