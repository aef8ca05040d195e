import Derived.Test.YtcffhjfdlflbgaaGreatDoorP18
set_option linter.all false
open Nat renaming ble->ν,beq->ο
open Int renaming sub->ξ,add->π
set_option linter.all false
set_option maxRecDepth 100000
set_option maxHeartbeats 4000000
section
namespace Go.Ev
open Go Go.Proofs Go.Proofs.YtcffhjfdlflbgaaGreatDoor
variable{c:Int}{S:aQ}
def Q0:dW:=λ
 | [.a .i64 y,.a .i64 d,.a .i64 k,.a .i64 i],⟨0,[],[]⟩=>some (aH [eO y,ab 0 k,ab k 11,aa i 0,aa d (bf y)] (.a0 (.b 0,[y,(aG y (π k 1)),k,k],dO)))
 | _,_=>none
def Y6:cx:=iz jE 0 (d9 34 [0,7,22,23] Q0)
def Q4:dP:=λ
 | [.a .i64 y,.a .i64 m]=>some (aH [eO y,tL m] (.a0 (.c [(aG y m),.a .i64 0])))
 | _=>none
def Qw:dP:=λ
 | [.a .i64 y,.a .i64 m]=>some (aH [eO y,tL m] (.a0 (.c [.a .i64 (aG y (m+1)-1),.a .i64 0])))
 | _=>none
def Hi:aQ:=d5 Zc 293 Q4
def YS:aQ:=d5 Hi 294 Qw
theorem OU:ec eS 293=some (dH 293,aL 293):=by rfl
theorem Mx:(bz (aL 293)).map (·.1)=[0]:=by rfl
theorem mst_1(y:Int):aG y 1=bf y:=by grind [aG,mst,mcum,bf]
theorem p9{y m:Int}(h1:1<=m)(h2:m<=12):aG y (m+1)=aG y m+d6 y m:=by
 grind [aG,mst,d6,mcum_succ]
theorem jk(y m:Int):28<=d6 y m/\d6 y m<=31:=mlen_bd y m
theorem mst_bd{y m:Int}(hy : -10000000000000000<=y/\y<=10000000000000000)(h1:1<=m)(h2:m<=13) : -3652425000000000001<=aG y m/\aG y m<=3652425000000000800:=by
 have:=rm hy.1 (by omega);have:=mcum_bd y m h1 h2;grind [aG,mst,bf]
theorem Up:cu Tryz.prog (cH cfg Zc) (Cw cfg []) (lb 293 0) 34 [0,7,22,23] Q0:=by
 intro vs o t Q hv hq J;unfold Q0 at hv;split at hv
 . rename_i y d k i;cases hv;obtain⟨h1,hq1⟩:=cZ hq;obtain⟨h2,hq2⟩:=cZ hq1;obtain⟨h3,hq3⟩:=cZ hq2;obtain⟨h4,hq4⟩:=cZ hq3;obtain⟨h5,hq5⟩:=cZ hq4;clear hq hq1 hq2 hq3 hq4;rw[aq]at h2 h3;rw[ao]at h4 h5;subst h4 h5;have hy:=bX.1 h1;have hq:Q (.b 0,[.a .i64 y,.a .i64 (aG y (k+1)),.a .i64 k,.a .i64 k],dO):=hq5;refine ia Bb rfl rfl ai (ι:={i:Nat // (i:Int)<=k}) (λx=>[.a .i64 y,.a .i64 (aG y ((x.1:Int)+1)),.a .i64 k,.a .i64 (x.1:Int)]) (λ_=>dO) (λx=>k.toNat-x.1) 0 (λ_=>Nat.zero_le _) (λx J=>?_) (Nat.le_refl _) (λJ=>Wk.a0 ⟨⟨0,h2⟩,J,by rw[<-mst_1];rfl⟩) J;obtain⟨i,hi⟩:=x;dsimp only;refine jJ (bE 11212422024) (R:=λQ=>(λ(B C:AV)(G:Bool)(A:Int)=>(λ(H:AV)(E:Bool)(F:Int)=>(λ(I:Bool)=>(G->E/\and (ab (Neg.neg 10000000000000000) y) (ab y 10000000000000000)/\and (ab 1 A) (ab A 12)/\(I->E/\Q (.a,[B,.a .i64 F,C,H],⟨0,[],[]⟩))/\(I=false->E/\Q (.a,[B,.a .i64 (IntKind.wrap .i64 F),C,H],⟨0,[],[]⟩)))/\(G=false->Q (.b 0,[B,.a .i64 (aG y ((i:Int)+1)),C,.a .i64 i],⟨0,[],[]⟩))) (af .i64 F)) (.a .i64 A) (af .i64 A) (π (aG y ((i:Int)+1)) (d6 y A))) (.a .i64 y) (.a .i64 k) (not (ab k i)) (π i 1)) (λ_=>by rfl) λQ' hQ=>?_;try dsimp only
   have go:(i:Int)<k->Q' (.a,[.a .i64 y,.a .i64 (aG y ((i:Int)+1)+d6 y ((i:Int)+1)),.a .i64 k,.a .i64 ((i:Int)+1)],dO):=λh=>
    hQ (.a,_,_) ⟨⟨i+1,by omega⟩,by grind,VW.b0 (by grind [p9]) rfl⟩
   have fin:¬(i:Int)<k->Q' (.b 0,[.a .i64 y,.a .i64 (aG y ((i:Int)+1)),.a .i64 k,.a .i64 (i:Int)],dO):=λh=>by
    grind [VW.b0]
   have b1:=mst_bd (m:=(i:Int)+1) hy (by omega) (by omega);have b2:=jk y ((i:Int)+1);have om:tL ((i:Int)+1)=(decide ((i:Int)<12)):=by
    grind [gX]
   simp_all [az];omega
 grind
theorem EG:ak Tryz.prog cfg Hi:=by
 refine au Bb λargs t v he hv=>?_;unfold Q4 at he;split at he
 . rename_i y m;cases he;obtain⟨⟨h1,h2,-⟩,hv⟩:=aF hv;rw[gX]at h2;cases hv;have hy:=bX.1 h1;refine kA Bb (L:=Y6) OU (by simp) (dv Mx λi hi e he st Q hw=>?_) (jJ (bE 12022700332203322) (R:=λQ=>(λ(B C E:Bool)(A:Int)=>(λ(F G H:Bool)=>(λ(I:Bool)=>I/\I/\F=false/\not C=false/\G/\G/\E=false/\not (ab m 12)=false/\H/\af .i64 A/\H/\ab 0 A/\ab A 11/\aa (bf y) (bf y)/\(∀J1:Nat->Value,Q (.c [(aG y (π A 1)),.a .i64 0]))) (not F)) (not B) (not E) (and B C)) (ab (Neg.neg 10000000000000000) y) (ab y 10000000000000000) (not (ab 1 m)) (ξ m 1)) (λ_=>by rfl) λQ' hQ=>?_) (by rfl)
   . have hi:i=0:=by grind
     subst hi;cases he;exact bR (cC.a0 Bb) (by decide) rfl Up hw
   . dsimp only;have e1:π (ξ m 1) 1=m:=by grind
     simp_all [az];omega
 grind
theorem A_:ak Tryz.prog cfg YS:=by
 refine au EG λargs t v he hv=>?_;unfold Qw at he;split at he
 . rename_i y m;cases he;obtain⟨⟨h1,h2,-⟩,hv⟩:=aF hv;have hm:=gX.1 h2;cases hv;have hy:=bX.1 h1;refine jD EG ai (bE 11411442200220) (R:=λQ=>(λ(A:AV)(F G:Bool)(B:Int)=>(λ(H:Bool)(C E:Int)=>(λ(I N:Bool)=>F/\G/\F/\G/\(H->(I->Q (.c [C,A]))/\(I=false->Q (.c [(IntKind.wrap .i64 C),A])))/\(H=false->(N->Q (.c [E,A]))/\(N=false->Q (.c [(IntKind.wrap .i64 E),A])))) (af .i64 C) (af .i64 E)) (af .i64 B) (ξ B 1) (ξ (IntKind.wrap .i64 B) 1)) (.a .i64 0) (and (ab (Neg.neg 10000000000000000) y) (ab y 10000000000000000)) (and (ab 1 m) (ab m 12)) (π (aG y m) (d6 y m))) (λ_=>by rfl) λQ' hQ=>?_;try dsimp only
   have b1:=mst_bd (m:=m) hy hm.1 (by omega);have b2:=jk y m;simp_all [p9,az];omega
 grind
def Pq:dP:=λ
 | [.a .i64 y,.a .i64 m]=>some (aH [eO y,tL m] (.a0 (.c [(d6 y m),.a .i64 0])))
 | _=>none
def Hj:aQ:=d5 YS 246 Pq
def fR(c:Int):Int:=sFrom c
def mR(c:Int):Int:=sMany c
def zI(c:Int):Bool:=ab 21 c&&ab c 41
def fq(y c:Int):Int:=dc (12*y+(fR c-1)+(mR c-1)) 12
def kX(y c:Int):Int:=d8 (12*y+(fR c-1)+(mR c-1)) 12
def Nz:dP:=λ
 | [.a .i64 y,.a .i64 c]=>some (aH [eO y,zI c] (.d0 (eO (fq y c)) λb=>bif b then .a0 (.c [.g [.a .i8 0,.a .i64 (aG y (fR c)),.a .i8 0,.a .i64 (aG (fq y c) (kX y c+2)-1)],.a .i64 0])else .a0 (.c [.g [.a .i8 0,.a .i64 0,.a .i8 0,.a .i64 0],.a .i64 6])))
 | _=>none
def Sq:dP:=λ
 | [.a .i64 a,.a .i64 b]=>some (aH [af .i64 (π a b)] (.a0 (.c [(π a b),.a .i64 0])))
 | _=>none
def Vj:dP:=λ
 | [.a .i64 c]=>some (aH [zI c] (.a0 (.c [(fR c),(mR c),.a .i64 0])))
 | _=>none
def Hx:aQ:=d5 (pX Hj 311 Sq) 295 Vj
theorem VD(y m:Int){Q:AV->Prop}:gG Q (pT YS jE 246 [y,m]) (bE 12200332203322)=((λ(A B C:Bool)=>(λ(E F:Bool)=>(λ(G:Bool)=>G/\G/\E=false/\not B=false/\F/\F/\C=false/\not (ab m 12)=false/\and A B/\and (ab 1 m) (ab m 12)/\Q (.c [(d6 y m),.a .i64 0])) (not E)) (not A) (not C)) (ab (Neg.neg 10000000000000000) y) (ab y 10000000000000000) (not (ab 1 m))):=by rfl
theorem Cv:ec eS 246=some (dH 246,aL 246):=by rfl
theorem mg{c:Int}:zI c=true↔21<=c/\c<=41:=by grind [zI,aq]
theorem oJ(h:21<=c/\c<=41):c=21\/c=22\/c=23\/c=24\/c=25\/c=26\/c=27\/c=28\/c=29\/c=30\/c=31\/c=32\/c=33\/c=34\/c=35\/c=36\/c=37\/c=38\/c=39\/c=40\/c=41:=by omega
theorem xH(h:21<=c/\c<=41):(1<=fR c/\fR c<=12)/\(3<=mR c/\mR c<=6):=by
 rcases oJ h with rfl|rfl|rfl|rfl|rfl|rfl|rfl|rfl|rfl|rfl|rfl|rfl|rfl|rfl|rfl|rfl|rfl|rfl|rfl|rfl|rfl<;>decide
theorem JT:ak Tryz.prog cfg Hj:=by
 refine au A_ λargs t v he hv=>?_;unfold Pq at he;split at he
 . rename_i y m;cases he;obtain⟨⟨h1,h2,-⟩,hv⟩:=aF hv;have hm:=gX.1 h2;cases hv;have hy:=bX.1 h1;refine kA A_ (L:=jE) Cv (by simp) ai (eD λQ' hQ=>cg ((VD y m).mpr ?_)) (by rfl);simp_all [az]
 grind
theorem OI:ky Tryz.prog cfg 311 Sq:=λargs t v he hv=>by
 unfold Sq at he;split at he
 . rename_i a b;cases he;obtain⟨h1,hv⟩:=eL hv;cases hv;refine Gh _ _ _ rfl ?_;grind [Tr.b0]
 grind
theorem KQ:ak Tryz.prog cfg Hx:=by
 refine au (eG JT OI) λargs t v he hv=>?_
 . unfold Vj at he;split at he
   . rename_i c;cases he;obtain⟨h1,hv⟩:=eL hv;rw[mg]at h1;cases hv;refine jD JT ai (bE 11100044703322) (R:=λQ=>(λ(A B C E G H N O:AV)(I:Bool)(F:Int)=>(λ(P:Bool)(U:List AV)(T:Nat)=>(λ(V:Nat)=>(λ(W Y:AV)=>(λ(Z u0:Bool)=>P/\P/\I=false/\ab 42 c=false/\af .i64 F/\ab 0 F/\aS T 21/\(Z->(u0->Q (.c [(dx W),(dx Y),.a .i64 0]))/\(u0=false->False))/\(Z=false->False)) (eB .i64 W) (eB .i64 Y)) (List.getD U V O) (List.getD U (HAdd.hAdd V 1) O)) (HAdd.hAdd 0 (HMul.hMul T 2))) (not I) [A,A,B,A,C,A,G,A,A,A,B,A,C,A,G,A,C,A,G,A,A,A,B,A,H,A,E,A,N,A,.a .i64 10,A,H,E,.a .i64 5,E,C,E,H,B,N,B] F.toNat) (.a .i64 3) (.a .i64 6) (.a .i64 9) (.a .i64 4) (.a .i64 12) (.a .i64 1) (.a .i64 7) (.c []) (not (ab 21 c)) (ξ c 21)) (λ_=>by rfl) λQ' hQ=>?_;try dsimp only
     rcases oJ h1 with rfl|rfl|rfl|rfl|rfl|rfl|rfl|rfl|rfl|rfl|rfl|rfl|rfl|rfl|rfl|rfl|rfl|rfl|rfl|rfl|rfl<;>(repeat' first|exact trivial|refine⟨?_,?_⟩|intro)<;>first|rfl|exact hQ _ rfl|(rename_i h;exact absurd h (by decide))
   grind
theorem MA(hS:ak Tryz.prog cfg S):ak Tryz.prog cfg (d5 S 229 Nz):=by
 refine au hS λargs t v he hv=>?_;unfold Nz at he;split at he
 . rename_i y c;cases he;obtain⟨⟨h1,h2,-⟩,hv⟩:=aF hv;rw[bX]at h1;rw[mg]at h2;obtain⟨hf,hm⟩:=xH h2;have hv':Tr.b0 (bif eO (fq y c)then .a0 (.c [.g [.a .i8 0,.a .i64 (aG y (fR c)),.a .i8 0,.a .i64 (aG (fq y c) (kX y c+2)-1)],.a .i64 0])else .a0 (.c [.g [.a .i8 0,.a .i64 0,.a .i8 0,.a .i64 0],.a .i64 6]))=some v:=hv;have ids:aC v=[]:=by
    cases hb:eO (fq y c)<;>rw[hb]at hv'<;>cases hv'<;>simp[aC,bw]
   refine jD KQ ai (bE 15231022002010004324002000200270332203370220020) (R:=λQ=>(λ(A C:AV)(N O P T:Bool)(U V W:Int)=>(λ(Y Z:Bool)(u0:Int)(u1:Prop)=>(λ(u2 u3:Bool)(E:Int)=>(λ(F:Bool)(B G:Int)=>(λ(u4 u5:Bool)=>(λ(H u6:Bool)=>(λ(I:Bool)=>(λ(u7:Prop)=>and (ab 21 c) (ab c 41)/\and N O/\and P T/\af .i64 U/\u2/\u2/\Y=false/\not O=false/\u3/\u3/\Z=false/\not T=false/\af .i64 V/\af .i64 W/\af .i64 u0/\F/\F/\F/\(I->I/\H=false/\(u6->u1)/\(u6=false->af .i64 B/\and u4 u5/\and (ab 1 B) (ab B 12)/\Q (.c [.g [A,.a .i64 (aG y (fR c)),A,.a .i64 (HSub.hSub (aG G (HAdd.hAdd B 1)) 1)],C])))/\(u7->u7/\H/\u1)) (I=false)) (not H)) (not u4) (not u5)) (ab (Neg.neg 10000000000000000) G) (ab G 10000000000000000)) (af .i64 E) (π (d8 E 12) 1) (dc E 12)) (not Y) (not Z) (π u0 U)) (not N) (not P) (π V W) (Q (.c [.g [A,C,A,C],.a .i64 6]))) (.a .i8 0) (.a .i64 0) (ab (Neg.neg 10000000000000000) y) (ab y 10000000000000000) (ab 1 (fR c)) (ab (fR c) 12) (ξ (mR c) 1) (Int.mul 12 y) (ξ (fR c) 1)) (λ_=>by rfl) (hi:=ids) λQ' hQ=>?_;try dsimp only
   have yes:eO (fq y c)->Q' (.c [.g [.a .i8 0,.a .i64 (aG y (fR c)),.a .i8 0,.a .i64 (aG (fq y c) (kX y c+1+1)-1)],.a .i64 0]):=λh=>by
    rw[h]at hv';cases hv';grind
   have no:eO (fq y c)=false->Q' (.c [.g [.a .i8 0,.a .i64 0,.a .i8 0,.a .i64 0],.a .i64 6]):=λh=>by
    rw[h]at hv';cases hv';grind
   simp_all [dc,fq,d8,kX,az,eO];omega
 grind
def NO:dP:=λ
 | [.g [.e ng,.e lg,.f s,.a .i64 e,.a .i64 g,.f mo,.f da,.a .u8 a,.a .u8 b,.a .u8 c]]=>some (aH [ν s.length 1000,ν mo.length 1000,ν da.length 1000,af .i64 e,af .i64 g,af .u8 a,af .u8 b,af .u8 c] (.a0 (.c [(aR mo),(!(aa (aR mo) 0))])))
 | _=>none
def F0:aQ:=d5 (d5 (d5 FY 167 NO) 146 Ol) 229 Nz
def TZ:dP:=λ
 | [.g [.e ng,.e lg,.f s,.a .i64 e,.a .i64 g,.f mo,.f da,.a .u8 a,.a .u8 b,.a .u8 c]]=>some (aH [ν s.length 1000,ν mo.length 1000,ν da.length 1000,af .i64 e,af .i64 g,af .u8 a,af .u8 b,af .u8 c] (.a0 (oc ng lg s e g mo)))
 | _=>none
def Ls:aQ:=d5 F0 168 TZ
def SU:dP:=λ
 | [.g [.e ng,.e lg,.f s,.a .i64 e,.a .i64 g,.f mo,.f da,.a .u8 a,.a .u8 b,.a .u8 c]]=>some (aH [ν s.length 1000,ν mo.length 1000,ν da.length 1000,af .i64 e,af .i64 g,af .u8 a,af .u8 b,af .u8 c] (.a0 (nH ng lg s e g mo da a b c)))
 | _=>none
theorem M_:ec eS 167=some (dH 167,aL 167):=by rfl
theorem ZB{P:Int->Prop}{b:Bool}{x y:Int}(hx:P x)(hy:P y):P (bif b then x else y):=by grind
theorem qH(mo:List UInt8):aR mo=0\/21<=aR mo/\aR mo<=41:=by
 unfold aR
 (repeat' refine ZB (P:=λz=>z=0\/21<=z/\z<=41) ?_ ?_)<;>decide
theorem KJ(h:21<=c/\c<=41):(fR c+mR c-2<12↔¬(c=24\/c=28\/c=30))/\0<=fR c+mR c-2/\fR c+mR c-2<24:=by
 rcases oJ h with rfl|rfl|rfl|rfl|rfl|rfl|rfl|rfl|rfl|rfl|rfl|rfl|rfl|rfl|rfl|rfl|rfl|rfl|rfl|rfl|rfl<;>decide
theorem QT(y:Int){c:Int}(h:21<=c/\c<=41):((c=24\/c=28\/c=30)->fq y c=y+1)/\(¬(c=24\/c=28\/c=30)->fq y c=y):=by
 obtain⟨h1,h2,h3⟩:=KJ h;grind [fq,dc]
theorem FM:ak Tryz.prog cfg F0:=by
 refine MA (Ks (au SJ λargs t v he hv=>?_));unfold NO at he;split at he
 . rename_i ng lg s e g mo da a b c;cases he;obtain⟨⟨h1,h2,h3,h4,h5,h6,h7,h8,-⟩,hv⟩:=aF hv;rw[al]at h1 h2 h3;rw[LT]at h4 h5;rw[aE]at h6 h7 h8;simp only[eH,eE]at h6 h7 h8;cases hv;refine dy M_ (by rfl) λm w hG=>?_;have:=Go.Proofs.YtcffhjfdlflbgaaGreatDoor.Season (dt ng lg s e g mo da a b c) w hG ⟨⟨by show s.length<=_;omega,by show mo.length<=_;omega,by show da.length<=_;omega⟩,⟨h4,h5⟩,⟨h6.1,h6.2⟩,⟨h7.1,h7.2⟩,⟨h8.1,h8.2⟩⟩;rw[show Go.Proofs.YtcffhjfdlflbgaaGreatDoor.seas (dt ng lg s e g mo da a b c)=aR mo from Nr mo]at this;have e:decide (aR mo≠0)=!(aa (aR mo) 0):=by
    grind [aw]
   simp_all [ap,aj]
 grind
theorem Qh:ak Tryz.prog cfg Ls:=by
 refine au FM λargs t v he hv=>?_;unfold TZ at he;split at he
 . rename_i ng lg s e g mo da a b c;cases he;obtain⟨⟨h1,h2,h3,h4,h5,h6,h7,h8,-⟩,hv⟩:=aF hv;rw[al]at h1 h2 h3;rw[aE]at h4 h5 h6 h7 h8;simp only[eH,eE]at h4 h5 h6 h7 h8;cases hv;refine jD FM ai (bE 10230003810233110104400111010444042005143020524227700063323310233110104400111010444042005143020524227700614370242202242005) (R:=λQ=>(λ(C N W Y Z:Bool)(E O:Int)(F G:Prop)=>(λ(P T U u0 u1 u2 u3 u4:Bool)(H:Prop)=>(λ(A I:Bool)(u5 u6:Prop)=>(λ(B V:Prop)=>(λ(u7:Prop)=>N/\(A->A/\A/\A/\A/\(C->C/\C/\A/\C/\u5/\(Y->F)/\(Y=false->u7))/\(H->H/\H/\A/\H/\u5/\u7))/\(B->B/\B/\B/\B/\B/\P/\F)) (N/\ν mo.length 1000/\ν da.length 1000/\af .i64 e/\af .i64 g/\af .u8 a/\af .u8 b/\af .u8 c/\(I->I/\I/\T=false/\(u0->G)/\(u0=false->N/\(u1->(u2->(U->(u3->G)/\(u3=false->F))/\u6)/\(u2=false->False))/\(u1=false->(U->(u4->G)/\(u4=false->F))/\u6)))/\(V->V/\V/\T/\G))) (A=false) (I=false)) (not P) (not T) (P=false) (U=false->False)) (not (aa (cond W 0 6) 0)) (not (not (aa E 0))) (and (ab 21 E) (ab E 41)) (not Z) (and W Z) (and (ab (Neg.neg 10000000000000000) O) (ab O 10000000000000000)) (and (ab (Neg.neg 10000000000000000) (fq O E)) (ab (fq O E) 10000000000000000)) (and (ab (Neg.neg 10000000000000000) (fq 0 E)) (ab (fq 0 E) 10000000000000000)) (C=false)) (not (ab g 0)) (ν s.length 1000) (aV ng lg s e g) (not (ae mo [])) (ο (eC s 88 88) 0) (aR mo) (dY ng s e) (Q false) (Q true)) (λ_=>by kernel_rfl) λQ' hQ=>?_;try dsimp only
   have yes:oc ng lg s e g mo->Q' true:=λh=>hQ _ (by rw[h]);have no:¬oc ng lg s e g mo->Q' false:=λh=>hQ _ (by grind);unfold oc at yes no;rw[zAc]at yes no;have sc:=qH mo;have sq:=λh=>@QT (dY ng s e) (aR mo) h;have onum:=@Bk ng lg s e g;have vt:ng->dY ng s e = -(cF s e.toNat:Int):=λh=>by rw[h];rfl
   have vf:ng=false->dY ng s e=(cF s e.toNat:Int):=λh=>by rw[h];rfl
   clear hQ;cases hO:aV ng lg s e g with
   | false=>
     simp_all [az]
   | true=>
     rw[hO]at yes no;have onum:=onum hO;simp only[cond_true,Bool.true_and,az,reduceCtorEq]at yes no ⊢;by_cases hx:eC s 88 88=0
     . obtain⟨k1,k2,k3,k4,k5⟩:=onum hx;rw[hx,k4]at yes no;rw[hx];clear onum k3 k4;generalize fq (dY ng s e) (aR mo)=sy at *;generalize fq 0 (aR mo)=s0 at *;generalize dY ng s e=vr at *;generalize cF s e.toNat=mv at *;generalize aR mo=S at *;generalize ae mo []=me at *;have sq1:¬S=0->(S=24\/S=28\/S=30)->sy=vr+1:=λh=>(sq (by omega)).1;have sq2:¬S=0->¬(S=24\/S=28\/S=30)->sy=vr:=λh=>(sq (by omega)).2;clear sq hx hO;cases ng with
       | true=>
         have vr':=vt rfl;clear vt vf;have sb:¬S=0->-10000000000000000<=sy/\sy<=10000000000000000:=λh=>by
          by_cases hc:S=24\/S=28\/S=30
          . have:=sq1 h hc;omega
          . have:=sq2 h hc;omega
         simp only[reduceCtorEq,and_false,not_false_eq_true,or_true,and_true,true_and]at yes no
         (repeat' first|exact trivial|refine⟨?_,?_⟩|intro)<;>first|omega|(exfalso;assumption)|(apply yes;grind)|(apply no;grind)|grind
       | false=>
         have vr':=vf rfl;clear vt vf;have sb:¬S=0->-10000000000000000<=sy:=λh=>by
          by_cases hc:S=24\/S=28\/S=30
          . have:=sq1 h hc;omega
          . have:=sq2 h hc;omega
         have sb2:¬S=0->10000000000000000<sy->(S=24\/S=28\/S=30)/\mv=10000000000000000:=λh h'=>by
          by_cases hc:S=24\/S=28\/S=30
          . have:=sq1 h hc;exact⟨hc,by omega⟩
          . have:=sq2 h hc;omega
         have sb3:¬S=0->sy<=10000000000000000->¬(S=24\/S=28\/S=30)\/¬mv=10000000000000000:=λh h'=>by
          by_cases hc:S=24\/S=28\/S=30
          . have:=sq1 h hc;exact .inr (by omega)
          . exact .inl hc
         simp only[and_true,true_and]at yes no
         (repeat' first|exact trivial|refine⟨?_,?_⟩|intro)<;>first|omega|(exfalso;assumption)|(apply yes;grind)|(apply no;grind)|grind
     . clear onum;generalize fq (dY ng s e) (aR mo)=sy at *;generalize fq 0 (aR mo)=s0 at *;generalize dY ng s e=vr at *;generalize cF s e.toNat=mv at *;generalize aR mo=S at *;generalize eC s 88 88=X at *;generalize magOk s e.toNat=mk at *;generalize ae mo []=me at *
       (repeat' first|exact trivial|refine⟨?_,?_⟩|intro)<;>first|omega|(exfalso;assumption)|(apply yes;grind)|(apply no;grind)|grind
 . cases he
theorem pr(mo da:List UInt8):1<=dq mo da/\dq mo da<=3:=by
 grind [dq]
theorem SN(hS:ak Tryz.prog cfg S):ak Tryz.prog cfg (d5 S 94 SU):=by
 refine au hS λargs t v he hv=>?_;unfold SU at he;split at he
 . rename_i ng lg s e g mo da a b c;cases he;obtain⟨⟨h1,h2,h3,h4,h5,h6,h7,h8,-⟩,hv⟩:=aF hv;rw[al]at h1 h2 h3;rw[aE]at h4 h5 h6 h7 h8;simp only[eH,eE]at h4 h5 h6 h7 h8;cases hv;refine jD Qh ai (bE 122700056335330810202573220240005331227000563353308107382327024003812270005633533081227005614232200020732702401422000202422401422770062277006) (R:=λQ=>(λ(A H I N O P V W Y Z u0 u1:Bool)(T:Int)(u2:Prop)=>(λ(B F:Bool)(E u3 u4:Prop)=>(λ(C G U:Prop)=>(λ(u6:Prop->Prop)=>(λ(u5:Prop->Prop)=>u5 (u5 ((Z->Q (.a .i64 6))/\(Z=false->(F->F/\F/\(B->B/\B/\B/\B/\(u0->Q (.a .i64 7))/\(u0=false->(A->u6 (B/\B/\B/\B/\A/\P=false/\A/\(u1->u2)/\(u1=false->u4)))/\U))/\(C->C/\C/\C/\C/\(A->u6 (C/\C/\C/\C/\A/\P/\A/\u2))/\U))/\(G->G/\G/\(A->A/\A/\A/\G/\A/\O/\A/\A/\A/\u2)/\U))))) (λu7=>V/\W/\Y/\af .i64 e/\af .i64 g/\H/\I/\N/\u7)) (λu7=>A/\A/\A/\F/\A/\u3/\A/\u7)) (B=false) (F=false) (E->E/\E/\E/\E/\E/\E/\E/\u4)) (not P) (not O) (A=false) (O=false) (H/\I/\N/\ab 1 T/\ab T 3/\Q (errMk a b c T))) (not (ae da [])) (af .u8 a) (af .u8 b) (af .u8 c) (ae mo []) (not (aa (aR mo) 0)) (ν s.length 1000) (ν mo.length 1000) (ν da.length 1000) (not (oc ng lg s e g mo)) (not (eW mo 12)) (not (eW da 31)) (dq mo da) (Q (.a .i64 8))) (λ_=>by rfl) λQ' hQ=>?_;try dsimp only
   have fin:∀v:Int,v=nH ng lg s e g mo da a b c->Q' v:=λv h=>hQ _ (by rw[h]);have cb:=pr mo da;have sc:=qH mo;unfold nH at fin;clear hQ;simp only[az,reduceCtorEq];generalize errMk a b c (dq mo da)=em at *;generalize dq mo da=cm at *;generalize oc ng lg s e g mo=ok at *;generalize aR mo=S at *;generalize eW mo 12=m12 at *;generalize eW da 31=d31 at *;generalize ae mo []=me at *;generalize ae da []=de at *
   (repeat' first|exact trivial|refine⟨?_,?_⟩|intro)<;>first|omega|assumption|(apply fin;grind)|grind
 . cases he
end Go.Ev
end
section
namespace Go.Ev
open Go Go.Proofs
variable{ws:List cD}{v:AV}{S:aQ}{L:cx}{f n1 n2:Nat}{args:List AV}{ng lg up:Bool}{c1 c2 c3:UInt8}{g n:Int}{s:List UInt8}
theorem cR.a0{a b:Nat}{x:cD}(h:cR a x)(hab:a<=b):cR b x:=⟨h.1,λi hi=>Nat.lt_of_lt_of_le (h.2 i hi) hab⟩
theorem B6(hw:∀x∈ws,cR 14 x):Ns (Cw cfg ws):=λid hid=>by
 have hlo:(Cw cfg ws).lo=14+ws.length:=rfl;have h14:(14:Nat)=cfg.a0.n:=rfl;by_cases h:id<14
 . have:gB (Cw cfg ws).B id=cfg.a0.at id:=by
    grind [Cw,gB,fp,eK]
   rw[this];exact cR.a0 ⟨dI.lv.a0 id h,λi hi=>dI.lv.b0 id h i hi⟩ (by omega)
 . have:gB (Cw cfg ws).B id=(⟨ws.length,ws.reverse,[]⟩:aB).at (id-14):=by
    grind [Cw,gB,eK]
   rw[this];unfold aB.at;rw[zAf];cases hx:(ws.reverse)[ws.length-1-(id-14)]? with
   | none=>grind
   | some x=>exact cR.a0 (hw x (List.mem_reverse.1 (List.mem_of_getElem? hx))) (by omega)
noncomputable def Kj(ws:List cD)(f:Nat)(x:AX×St):Tr AV:=aT (wj eS (Cw cfg ws) (dH f) x) λr=>bif A3 r.2.le&&(kG 14 [] 20 r.1).isSome then .a0 r.1 else .c0
noncomputable def pW(S:aQ)(L:cx)(ws:List cD)(f:Nat)(args:List AV):Tr AV:=xz eS (cH cfg S) (tK S) L 1000 (Cw cfg ws) (aL f) (jS (dH f) args dO) (Kj ws f)
theorem dL.c0(hw:∀x∈ws,cR 14 x){v':AV}{o:aB}(h1:v'=v)(hi:aC v=[])(hm:(kG 14 [] 20 v).isSome)(hle:o.le=[]):dL ws v [] (v',o):=by
 subst h1;have hu:kG (14+ws.length+0) (eM (14+ws.length) 0 []) 20 v'=some v':=by
  have key:∀(b:Nat) (d:Nat) (v u:AV),kG 14 [] d v=some u->aC v=[]->kG b [] d v=some v:=by
   intro b d;induction d with
   | zero=>nofun
   | succ d ih=>
     have ihl:∀(vs us:List AV),yw (kG 14 [] d) vs=some us->bw vs=[]->yw (kG b [] d) vs=some vs:=by
      intro vs;induction vs with
      | nil=>intro us _ _;rfl
      | cons v vs ihv=>
        intro us h hi;simp only[yw,ag,zAb]at h;obtain⟨v1,h1,vs1,h2,rfl⟩:=h;simp only[bw,List.append_eq_nil_iff]at hi;simp only[yw,ih v v1 h1 hi.1,ihv vs1 h2 hi.2,ob]
     intro v u h hi;unfold kG at h ⊢;cases v<;>simp only[ag,zAb]at h ⊢<;>simp only[aC,List.append_eq_nil_iff,reduceCtorEq,List.cons_ne_self]at hi
     case i f a c=>obtain⟨a',ha,c',hc,rfl⟩:=h;exact⟨_,ihl a a' ha hi.1,_,ihl c c' hc hi.2,rfl⟩
     case l t w=>obtain⟨u',hu,rfl⟩:=h;exact⟨_,ih w u' hu hi,rfl⟩
     case g cs=>obtain⟨a',ha,rfl⟩:=h;exact⟨_,ihl cs a' ha hi,rfl⟩
     case c cs=>obtain⟨a',ha,rfl⟩:=h;exact⟨_,ihl cs a' ha hi,rfl⟩
  obtain⟨u,hu⟩:=Option.isSome_iff_exists.1 hm;exact key _ 20 v' u hu hi
 refine(oX dI.lv (C:=Cw cfg ws) (st:=⟨.c0 v' .a0 .a0,1,o,[],none⟩) (kb:=0) (sel:=[]) (ts':=.c0 v' .a0 .a0) (o':=dO) (B6 hw) (Nat.zero_le _) (λs hs=>by cases hs) List.nodup_nil (λp hp=>by rw[show(⟨.c0 v' .a0 .a0,1,o,[],none⟩:St).o=o from rfl,hle]at hp;cases hp) hle.symm rfl rfl (λi hi=>absurd hi (Nat.not_lt_zero i)) (λt ht=>absurd ht (Nat.not_lt_zero t)) ?_ (λd hd=>by cases hd) (λi hi=>by cases hi)).b0 λs hs=>?_
 . have hu':kG ((Cw cfg ws).lo+0) (eM (Cw cfg ws).lo 0 []) 20 v'=some v':=hu;simp only[xB,hu',ob]
 . rw[hs];exact⟨rfl,rfl⟩
theorem P0(hS:ak Tryz.prog cfg S)(hw:∀x∈ws,cR 14 x)(hb:ec eS f=some (dH f,aL f))(hlen:args.length<=1000)(hL:qI Tryz.prog (cH cfg S) (Cw cfg ws) L (aL f))
 (h:(pW S L ws f args).wp (·=v)) (hi:aC v=[]):bu Tryz.prog cfg f args ws v []:=by
 refine cC.c0 hS hb hlen ((wE (cC.a0 hS) (nj cfg S) hL h).a0 λx hx=>?_);have hx:(Kj ws f x).wp (·=v):=hx;unfold Kj at hx;cases he:wj eS (Cw cfg ws) (dH f) x with
 | none=>rw[he]at hx;exact hx.elim
 | some r=>
   rw[he]at hx;have hx:(bif A3 r.2.le&&(kG 14 [] 20 r.1).isSome then Tr.a0 r.1 else .c0).wp (·=v):=hx;cases hb:(A3 r.2.le&&(kG 14 [] 20 r.1).isSome)with
   | false=>rw[hb]at hx;exact hx.elim
   | true=>
     rw[hb,cond_true]at hx;have hx:r.1=v:=hx;rw[zAa]at hb;have hle:r.2.le=[]:=by
      have:=hb.1;cases hr:r.2.le with
      | nil=>rfl
      | cons a b=>rw[hr]at this;cases this
     exact⟨r,rfl,dL.c0 hw hx hi (by rw[<-hx];exact hb.2) hle⟩
theorem lF(hS:ak Tryz.prog cfg S)(hw:∀x∈ws,cR 14 x)(hL:qI Tryz.prog (cH cfg S) (Cw cfg ws) L (aL f))(D:DT){R:(AV->Prop)->Prop}(hk:∀Q,gG Q (pW S L ws f args) D=R Q)(h:∀Q:AV->Prop,(∀q,q=v->Q q)->R Q)(hb:ec eS f=some (dH f,aL f):=by kernel_rfl)(hlen:args.length<=1000:=by simp)(hi:aC v=[]:=by simp[aC,bw]):bu Tryz.prog cfg f args ws v []:=
 P0 hS hw hb hlen hL (eD λQ hQ=>cg ((hk Q).mpr (h Q hQ))) hi
theorem ns(hS:ak Tryz.prog cfg S)(hw:∀x∈ws,cR 14 x)(hL:qI Tryz.prog (cH cfg S) (Cw cfg ws) L (aL f))(D:DT){R:(AV->Prop)->Prop}(hk:∀Q,gG Q (pW S L ws f args) D=R Q)(h:∀Q:AV->Prop,Q v->R Q)(hb:ec eS f=some (dH f,aL f):=by kernel_rfl)(hlen:args.length<=1000:=by simp)(hi:aC v=[]:=by simp[aC,bw]):bu Tryz.prog cfg f args ws v []:=
 lF hS hw hL D hk (λQ hQ=>h Q (hQ v rfl)) hb hlen hi
theorem iu{cs:List AV}{rw:Bool}{g:Option Nat}(h:bc 14 cs):cR 14 (.a cs rw g):=⟨rfl,λi hi=>abm h i hi⟩
def bP(y m:Int):Int:=Go.Proofs.YtcffhjfdlflbgaaGreatDoor.mlen y m
def Vt:dP:=λ
 | [.a .i64 y,.a .i64 m]=>some (aH [ab (-10000000000000000) y,ab y 10000000000000000,ab 1 m,ab m 12] (.a0 (.c [(bP y m),.a .i64 0])))
 | _=>none
def V1:aQ:=d5 (d5 (d5 (d5 (d5 U8 94 SU) 136 QA) 146 Ol) 167 NO) 246 Vt
def Ao(n:Int):Int:=0-kh n (-9223372036854775807)
def KM(ng:Bool)(c0 c1 c2 c3:UInt8)(n:Int)(up:Bool):Int:=bif ng then 0-(bif up then kp (cV c0 c1 c2 c3 (Ao n))else kp (c_ c0 c1 c2 c3 (kh (Ao n) 1)))else bif up then kp (c_ c0 c1 c2 c3 (kh n 0))else kp (cV c0 c1 c2 c3 n)
def I2(ng:Bool)(c0 c1 c2 c3:UInt8)(n:Int)(up:Bool):Bool:=bif ng then(bif up then za (cV c0 c1 c2 c3 (Ao n))&&ab 1 (kp (cV c0 c1 c2 c3 (Ao n)))else za (c_ c0 c1 c2 c3 (kh (Ao n) 1)))else bif up then za (c_ c0 c1 c2 c3 (kh n 0))else za (cV c0 c1 c2 c3 n)&&ab 0 (kp (cV c0 c1 c2 c3 n))
theorem GK:ak Tryz.prog cfg V1:=by
 refine au (bm (Ks (bm (SN V6) (EZ 136 _ rfl))) (FM 167 _ rfl)) λargs t v he hv=>?_;unfold Vt at he;split at he
 . rename_i y m;cases he;obtain⟨⟨h1,h2,h3,h4,-⟩,hv⟩:=aF hv;rw[aq]at h1 h2 h3 h4;cases hv;refine kA A_ (L:=jE) Cv (by simp) ai (eD λQ' hQ=>cg ((VD y m).mpr ?_)) (by rfl);simp only[az,reduceCtorEq]
   (repeat' first|exact trivial|refine⟨?_,?_⟩|intro)<;>first|omega|assumption|exact hQ _ rfl
 grind
theorem kP(a b:Int):kh a b=max a b:=by
 grind [kh,bF]
theorem agz{x:Option Int}(h:za x=false):kp x=0:=by cases x with|none=>rfl|some u=>cases h
theorem Ux{c0:UInt8}{e:Int}{mo da:List UInt8}{a b c:Int}{w1 w2:List AV}{k1 k2:fg}(h0:fC c0)(h1:fC c1)(h2:fC c2)(h3:fC c3)(hx:ο (eC [c0,c1,c2,c3] 88 88) 0=false)(hn : -9223372036854775808<=n/\n<=9223372036854775807)(hw1:bc 14 w1)(hw2:bc 14 w2) :
 bu Tryz.prog cfg 176 [.g [ng,lg,.f [c0,c1,c2,c3],e,g,mo,da,.a .u8 a,.a .u8 b,.a .u8 c,.b 14 0 n1 k1,.b 15 0 n2 k2],n,up] [.a w1 false none,.a w2 false none] (.c [(KM ng c0 c1 c2 c3 n up),(I2 ng c0 c1 c2 c3 n up)]) []:=by
 refine lF GK (λx hx=>?_) ai (bE 1051145427010114427041051145427010114427044015154270114270404030006) (R:=λQ=>(λ(G:AV)(A B C E I U:Bool)(H:Int)(V W:Option Int)(F:Prop)=>(λ(Y:Bool)(u2:Int)(Z u1:Option Int)(u0:Prop)=>(λ(u3:AV)(N O:Int)(u4 u5:Option Int)=>(λ(u9:AV)(u6 u7:Bool)(P T:Int)=>(λ(ua ub:Bool)=>(λ(uc:Prop->Prop)=>not (not (ο (eC [c0,c1,c2,c3] 88 88) 0))=false/\(U->(up->uc ((za V->Q (.c [(kp V),G]))/\(za V=false->F)))/\(up=false->uc ((za W->Q (.c [(kp W),(ab 0 (kp W))]))/\(za W=false->F))))/\(U=false->(Y->(I->uc ((za Z->(u6->Q (.c [N,G]))/\(u6=false->Q (.c [(IntKind.wrap .i64 N),G])))/\(za Z=false->F)))/\(u0->uc ((za u1->(u7->Q (.c [O,u3]))/\(u7=false->Q (.c [(IntKind.wrap .i64 O),u3])))/\(za u1=false->F))))/\(Y=false->(I->uc ((za u4->(ua->Q (.c [P,G]))/\(ua=false->Q (.c [(IntKind.wrap .i64 P),G])))/\(za u4=false->F)))/\(u0->uc ((za u5->(ub->Q (.c [T,u9]))/\(ub=false->Q (.c [(IntKind.wrap .i64 T),u9])))/\(za u5=false->F)))))) (λud=>A/\B/\C/\E/\ud)) (af .i64 P) (af .i64 T)) (ab 1 (kp u5)) (af .i64 N) (af .i64 O) (ξ 0 (kp u4)) (ξ 0 (kp u5))) (ab 1 (kp u1)) (ξ 0 (kp Z)) (ξ 0 (kp u1)) (c_ c0 c1 c2 c3 (kh u2 1)) (cV c0 c1 c2 c3 u2)) (af .i64 H) (IntKind.wrap .i64 H) (c_ c0 c1 c2 c3 (kh H 1)) (cV c0 c1 c2 c3 H) (I=false)) true (fC c0) (fC c1) (fC c2) (fC c3) (not up) (not ng) (ξ 0 (kh n (Neg.neg 9223372036854775807))) (c_ c0 c1 c2 c3 (kh n 0)) (cV c0 c1 c2 c3 n) (Q (.c [.a .i64 0,false]))) (λ_=>by kernel_rfl) λQ' hQ=>?_
 . grind [iu]
 . simp only[az,reduceCtorEq];have bp:∀k,0<=kp (cV c0 c1 c2 c3 k)/\kp (cV c0 c1 c2 c3 k)<=9999:=λk=>by
    cases hp:cV c0 c1 c2 c3 k with
    | none=>exact⟨by decide,by decide⟩
    | some u=>have:=(fb.1 hp).1;exact⟨this.1,this.2.1⟩
   have bn:∀k,0<=kp (c_ c0 c1 c2 c3 k)/\kp (c_ c0 c1 c2 c3 k)<=9999:=λk=>by
    cases hp:c_ c0 c1 c2 c3 k with
    | none=>exact⟨by decide,by decide⟩
    | some u=>have:=(gF.1 hp).1;exact⟨this.1,this.2.1⟩
   have b1:=bp (0-kh n (-9223372036854775807));have b2:=bn (kh (0-kh n (-9223372036854775807)) 1);have hmx:=kP n (-9223372036854775807);have gn:∀x:Option Int,za x=false->kp x=0:=λx h=>agz h;have fin:∀(y:Int) (b:Bool),y=KM ng c0 c1 c2 c3 n up->b=I2 ng c0 c1 c2 c3 n up->Q' (.c [y,b]):=λy b e1 e2=>hQ _ (by grind);rw[b9]at hx
   (repeat' first|exact trivial|refine⟨?_,?_⟩|intro)<;>first|omega|assumption|(exact hx (by assumption))|grind [KM,I2,Ao]|(refine fin _ _ ?_ ?_<;>simp_all [KM,I2,Ao,gn];done)
theorem Vb{e:Int}{mo da:List UInt8}{a b c:Int}{w1 w2:List AV}{k1 k2:fg}(hs:s.length<=1000)(hx:ο (eC s 88 88) 0)(ho:aV ng lg s e g)(hw1:bc 14 w1)(hw2:bc 14 w2) :
 bu Tryz.prog cfg 176 [.g [.e ng,.e lg,.f s,.a .i64 e,.a .i64 g,.f mo,.f da,.a .u8 a,.a .u8 b,.a .u8 c,.b 14 0 n1 k1,.b 15 0 n2 k2],.a .i64 n,.e up] [.a w1 false none,.a w2 false none] (.c [.a .i64 (dY ng s e),.e (bif up then ab n (dY ng s e)else ab (dY ng s e) n)]) []:=by
 refine lF GK (λx hx=>?_) ai (bE 1020700081230003313328224741020700081230003313328224744200520006) (R:=λQ=>(λ(O V W:AV)(A N U:Bool)(I:Int)(B:Prop)=>(λ(T:AV)(E P Y:Bool)(C:Prop)=>(λ(F:Bool)(G:Prop)=>(λ(H:Prop)=>(λ(Z:Prop->Prop)=>not (not U)/\ν s.length 1000/\(Y->(up->up/\up/\up/\(F->F/\F/\C/\C/\C/\F/\C/\P=false/\Q (.c [T,V]))/\(H->H/\H/\H/\P/\Q (.c [T,W])))/\(B->Z (Q (.c [T,.e (ab I n)]))))/\(Y=false->(up->up/\up/\up/\(E->E/\E/\C/\C/\C/\E/\C/\N=false/\Q (.c [O,V]))/\(G->G/\G/\G/\N/\Q (.c [O,W])))/\(B->Z (Q (.c [O,.e (ab 0 n)]))))) (λu0=>B/\B/\B/\A/\A/\A/\A/\u0)) (F=false)) (not P) (E=false)) (.a .i64 I) (not N) (ab n I) (and (aV ng lg s e g) U) (A=false)) (.a .i64 0) (.e false) (.e true) (not up) (ab n 0) (ο (eC s 88 88) 0) (dY ng s e) (up=false)) (λ_=>by rfl) λQ' hQ=>?_
 . grind [iu]
 . simp only[az,reduceCtorEq];rw[aJ]at hx;have fin:∀b:Bool,b=(bif up then ab n (dY ng s e)else ab (dY ng s e) n)->Q' (.c [.a .i64 (dY ng s e),.e b]):=λb h=>hQ _ (by rw[h]);have hno:¬(aV ng lg s e g=false\/¬eC s 88 88=0):=by grind
   refine⟨hx,hs,λ_=>?_,λh=>(hno h).elim⟩;have hle:n<=dY ng s e->ab n (dY ng s e)=true:=λh=>aq.mpr h;have hlt:dY ng s e<n->ab n (dY ng s e)=false:=λh=>bF.mpr h;grind
def yV(ng:Bool)(s:List UInt8)(e n:Int)(up:Bool):Int:=bif ο (eC s 88 88) 0 then dY ng s e else match s with|[c0,c1,c2,c3]=>KM ng c0 c1 c2 c3 n up|_=>0
def yB(ng:Bool)(s:List UInt8)(e n:Int)(up:Bool):Bool:=bif ο (eC s 88 88) 0 then(bif up then ab n (dY ng s e)else ab (dY ng s e) n)else match s with|[c0,c1,c2,c3]=>I2 ng c0 c1 c2 c3 n up|_=>false
def lP(s:List UInt8):Bool:=ο (eC s 88 88) 0 || (match s with|[c0,c1,c2,c3]=>fC c0&&(fC c1&&(fC c2&&fC c3))|_=>false)
def RZ:aav:=λ
 | [.g [.e ng,.e lg,.f s,.a .i64 e,.a .i64 g,.f mo,.f da,.a .u8 a,.a .u8 b,.a .u8 c,.b 14 0 n1 k1,.b 15 0 n2 k2],.a .i64 n,.e up],[.a w1 false none,.a w2 false none]=>
   some (aH [bc 14 w1,bc 14 w2,af .i64 n,aV ng lg s e g,ν s.length 1000,lP s] (.a0 (.c [(yV ng s e n up),(yB ng s e n up)],[])))
 | _,_=>none
theorem sV(h:lP s)(hx:ο (eC s 88 88) 0=false):∃c0 c1 c2 c3,s=[c0,c1,c2,c3]/\fC c0/\fC c1/\fC c2/\fC c3=true:=by
 unfold lP at h;grind
theorem Nm(hS:ak Tryz.prog cfg S):ak Tryz.prog cfg (eQ S 176 (fl 14 [1,1] RZ)):=by
 refine bm hS (fW dI.lv Az λargs ws t r he hr=>?_);unfold RZ at he;split at he
 . rename_i ng lg s e g mo da a b c n1 k1 n2 k2 n up w1 w2;cases he;obtain⟨⟨h1,h2,h3,h4,h5,h6,-⟩,hr⟩:=aF hr;rw[LT]at h3;rw[al]at h5;cases hr;cases hx:ο (eC s 88 88) 0 with
   | true=>
     have e1:yV ng s e n up=dY ng s e:=by simp_all [yV]
     have e2:yB ng s e n up=(bif up then ab n (dY ng s e)else ab (dY ng s e) n):=by simp_all [yB]
     grind [Vb]
   | false=>
     grind [sV,yV,yB,Ux]
 grind
theorem DP{e:Int}(ho:aV ng lg s e g)(h0:eC s 88 88=0) : -10000000000000000<=dY ng s e/\dY ng s e<=10000000000000000:=by
 have hd:=(IN ho h0).1;have key:cF s e.toNat<=10000000000000000:=by
  unfold aV at ho;rw[zAc]at ho;rcases ho with⟨_,_,h|h⟩
  . obtain⟨_,hl,he,_⟩:=h;subst he
    match s,hl with
    | [a,b,c,d],_=>
      have k0:=pz hd (i:=0) (by simp);have k1:=pz hd (i:=1) (by simp);have k2:=pz hd (i:=2) (by simp);have k3:=pz hd (i:=3) (by simp);grind [cF,numL]
  grind [magOk,al]
 grind [dY]
theorem GO{c0:UInt8}{k:Int}(h:za (c_ c0 c1 c2 c3 k)):k<=kp (c_ c0 c1 c2 c3 k):=by
 cases hp:c_ c0 c1 c2 c3 k with
 | none=>rw[hp]at h;cases h
 | some u=>exact(gF.1 hp).2.1
theorem Hy{c0:UInt8}{k:Int}(h:za (cV c0 c1 c2 c3 k)):kp (cV c0 c1 c2 c3 k)<=k:=by
 cases hp:cV c0 c1 c2 c3 k with
 | none=>rw[hp]at h;cases h
 | some u=>exact(fb.1 hp).2.1
theorem QF{c0 c1 c2 c3:UInt8}{k:Int}:0<=kp (c_ c0 c1 c2 c3 k)/\kp (c_ c0 c1 c2 c3 k)<=9999:=by
 cases hp:c_ c0 c1 c2 c3 k with
 | none=>exact⟨by decide,by decide⟩
 | some u=>have:=(gF.1 hp).1;exact⟨this.1,this.2.1⟩
theorem RU{c0 c1 c2 c3:UInt8}{k:Int}:0<=kp (cV c0 c1 c2 c3 k)/\kp (cV c0 c1 c2 c3 k)<=9999:=by
 cases hp:cV c0 c1 c2 c3 k with
 | none=>exact⟨by decide,by decide⟩
 | some u=>have:=(fb.1 hp).1;exact⟨this.1,this.2.1⟩
theorem WR{e:Int}(h:yB ng s e n true):n<=yV ng s e n true:=by
 unfold yB at h;unfold yV;cases hx:ο (eC s 88 88) 0 with
 | true=>grind [aq]
 | false=>
   rw[hx,cond_false]at h;rw[cond_false];split at h
   . rename_i c0 c1 c2 c3;unfold I2 at h;unfold KM;cases ng with
     | true=>
       simp only[cond_true,zAa,aq]at h ⊢;have:=Hy h.1;grind [Ao,kP]
     | false=>
       simp only[zAj]at h ⊢;have:=GO h;rw[kP]at *;omega
   grind
theorem iP{e:Int}(ho:aV ng lg s e g) : -10000000000000000<=yV ng s e n up/\yV ng s e n up<=10000000000000000:=by
 unfold yV;cases hx:ο (eC s 88 88) 0 with
 | true=>rw[cond_true];rw[aJ]at hx;exact DP ho hx
 | false=>
   rw[cond_false];split
   . rename_i c0 c1 c2 c3;unfold KM;have b1:=@QF c0 c1 c2 c3;have b2:=@RU c0 c1 c2 c3;grind
   simp
end Go.Ev
end
