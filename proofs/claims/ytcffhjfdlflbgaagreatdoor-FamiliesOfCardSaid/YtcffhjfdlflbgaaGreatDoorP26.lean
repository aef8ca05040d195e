import Derived.Test.YtcffhjfdlflbgaaGreatDoorP25
set_option linter.all false
open UInt8 renaming ofNat->ν
open Int renaming add->ξ,tmod->ο,tmod_eq_emod_of_nonneg->ς,tdiv_eq_ediv_of_nonneg->τ,ofNat->ω,tdiv->Β,sub->Γ
open HAdd renaming hAdd->π
open Nat renaming ble->σ
open HSub renaming hSub->υ
open List renaming take->χ,drop->Α
set_option linter.all false
set_option maxRecDepth 100000
set_option maxHeartbeats 4000000
namespace Go.Ev
open Go Go.Proofs
variable{c y a k:Int}{S:aQ}
def M5:aQ:=eQ (d5 (d5 (d5 (pX gZ 48 Pm) 46 tw) 47 YD) 49 BG) 45 (fl 14 [4] Ff)
theorem abK:ak Tryz.prog cfg M5:=amI (W5 (Ue (aeN (eG aW RQ))))
def ko(a b:UInt8):Int:=10*(ω a.toNat-48)+(ω b.toNat-48)
def XR(l:List UInt8):Int:=match l with
 | [a,b]=>ko a b
 | _=>0
def H4(l:List UInt8):Bool:=match l with
 | []=>true
 | [a,b]=>dB a&&dB b
 | _=>false
def eN(i:Int):Int:=aG (dc i 12) (d8 i 12+1)
def YV:dW:=λvs o=>match vs,o with
 | [.a .i64 y,.h 14 0,.a .i64 f,.a .i64 n,.a .i64 lo,.a .i64 hi,.a .i64 k],⟨2,[.a w true none,.a [.a .i8 0,.a .i64 0,.a .i8 0,.a .i64 0] true none],[]⟩=>some (aH [eO y,aa k 0,aa hi (eN (12*y+f-1)-1),tL f,ab 3 n,ab n 6] (.a0 (.b 0,[.a .i64 y,.h 14 0,.a .i64 f,.a .i64 n,.a .i64 lo,.a .i64 (eN (12*y+f-1+n)-1),.a .i64 n],o)))
 | _,_=>none
def LF:cx:=iz jE 0 (d9 49 [0,4,5,6,7,8,9] YV)
def vR(lo hi:Int):AV:=.g [.a .i8 0,lo,.a .i8 0,hi]
def K0:dP:=λ
 | [.a .i64 y,.a .i64 c]=>some (aH [eO y,zI c,eO (fq y c)] (.a0 (vR (aG y (fR c)) (aG (fq y c) (kX y c+2)-1))))
 | _=>none
def iO(y m d:Int):Int:=bif aa m 0 then bf y else bif ab 13 m then aG y (fR m)else bif aa d 0 then aG y m else aG y m+d-1
def iD(y m d:Int):Int:=bif aa m 0 then bf (y+1)-1 else bif ab 13 m then aG (fq y m) (kX y m+2)-1 else bif aa d 0 then aG y (m+1)-1 else aG y m+d-1
def kY(y m d:Int):Bool:=eO y&&(ab 0 d&&ab d 31&&(aa m 0 || (tL m || zI m&&eO (fq y m))))
def s9:dP:=λ
 | [.a .i64 y,.a .i64 m,.a .i64 d]=>some (aH [kY y m d] (.a0 (vR (iO y m d) (iD y m d))))
 | _=>none
theorem Sj:ec eS 159=some (dH 159,aL 159):=by rfl
theorem Ox:(bz (aL 159)).map (·.1)=[0]:=by rfl
theorem VS(y:Int):aG y 13=aG (y+1) 1:=Go.Proofs.YtcffhjfdlflbgaaGreatDoor.mst_next y
theorem af1(i:Int):eN (i+1)=eN i+d6 (dc i 12) (d8 i 12+1)/\eN (i+1)=aG (dc i 12) (d8 i 12+2):=by
 have hm:0<=d8 i 12/\d8 i 12<=11:=by unfold d8;omega
 have hs:=@p9 (dc i 12) (d8 i 12+1) (by omega) (by omega);have e:eN (i+1)=aG (dc i 12) (d8 i 12+2):=by
  unfold eN;by_cases h:d8 i 12=11<;>grind [dc,d8,VS]
 refine⟨?_,e⟩;rw[e,show d8 i 12+2=d8 i 12+1+1 by omega,hs];rfl
theorem EX(i:Int)(k:Nat):eN i+28*k<=eN (i+k)/\eN (i+k)<=eN i+31*k:=by
 induction k with
 | zero=>simp
 | succ k ih=>
   have h:=(af1 (i+k)).1;have b:=jk (dc (i+k) 12) (d8 (i+k) 12+1);grind
theorem Yw:cu Tryz.prog (cH cfg R3) (Cw cfg []) (lb 159 0) 49 [0,4,5,6,7,8,9] YV:=by
 intro vs o t Q hv hq J;unfold YV at hv;split at hv
 . rename_i y f n lo hi k w;cases hv;replace hq:=cO hq;obtain⟨⟨h1,h2,h3,h4,h5,h6,-⟩,hq⟩:=hq;rw[ao]at h2 h3;rw[bX]at h1;rw[gX]at h4;rw[aq]at h5 h6;subst h2 h3;simp only[aH,Tr.wp]at hq;have e0:eN (12*y+f-1)=aG y f:=by
    unfold eN;rw[show dc (12*y+f-1) 12=y by unfold dc;omega,show d8 (12*y+f-1) 12+1=f by unfold d8;omega]
   have b0:=@mst_bd y f h1 h4.1 (by omega);refine ia vW rfl rfl ai (ι:={k:Nat // (k:Int)<=n}) (λx=>[.a .i64 y,.h 14 0,.a .i64 f,.a .i64 n,.a .i64 lo,.a .i64 (eN (12*y+f-1+x.1)-1),.a .i64 x.1]) (λ_=>⟨2,[.a w true none,.a [.a .i8 0,.a .i64 0,.a .i8 0,.a .i64 0] true none],[]⟩) (λx=>(n-x.1).toNat) 2 (λ_=>Nat.le_refl _) (λx J=>?_) (Nat.le_refl _) (λJ=>Wk.a0 ⟨⟨0,by omega⟩,J,by dsimp only;rw[show 12*y+f-1+((0:Nat):Int)=12*y+f-1 by omega];rfl⟩) J;obtain⟨k,hk⟩:=x;dsimp only;have hs:=(af1 (12*y+f-1+k)).1;have bk:=EX (12*y+f-1) k;have e1:f+k<=12->dc (12*y+f-1+k) 12=y/\d8 (12*y+f-1+k) 12+1=f+k:=λh=>by unfold dc d8;omega
   have e2:12<f+k->dc (12*y+f-1+k) 12=y+1/\d8 (12*y+f-1+k) 12+1=f+k-12:=λh=>by unfold dc d8;omega
   refine jJ (bE 117017022424) (R:=λQ=>(λ(B C E F G O P:AV)(H:Bool)(A I N:Int)=>(λ(Y:AV)(T V W:Bool)(U Z:Int)=>(λ(u0:Int)=>(H->af .i64 A/\(T->af .i64 U/\V/\V/\af .i64 u0/\W/\Q (.a,[B,C,E,F,G,.a .i64 u0,Y],⟨2,[.a w true none,.a [O,P,O,P] true none],[]⟩))/\(T=false->af .i64 y/\af .i64 Z/\W/\Q (.a,[B,C,E,F,G,.a .i64 Z,Y],⟨2,[.a w true none,.a [O,P,O,P] true none],[]⟩)))/\(H=false->Q (.b 0,[B,C,E,F,G,.a .i64 (eN (12*y+f-1+k)-1),.a .i64 k],⟨2,[.a w true none,.a [O,P,O,P] true none],[]⟩))) (ξ (eN (12*y+f-1+k)-1) (d6 I U))) (.a .i64 N) (not (ab A 12)) (af .i64 I) (af .i64 N) (Γ A 12) (ξ (eN (12*y+f-1+k)-1) (d6 y A))) (.a .i64 y) (.h 14 0) (.a .i64 f) (.a .i64 n) (.a .i64 lo) (.a .i8 0) (.a .i64 0) (not (ab n k)) (ξ f k) (ξ y 1) (ξ k 1)) (λ_=>by kernel_rfl) λQ' hQ=>?_;try dsimp only
   have m1:=jk y (f+k);have m2:=jk (y+1) (f+k-12);have next:∀x:Int,k<n->x=eN (12*y+f-1+k+1)-1->∃z:{k:Nat // (k:Int)<=n},(n-z.1).toNat<(n-k).toNat/\VW cfg (Cw cfg []) 2 49 [0,4,5,6,7,8,9] [.a .i64 y,.h 14 0,.a .i64 f,.a .i64 n,.a .i64 lo,.a .i64 x,.a .i64 (k+1)] ⟨2,[.a w true none,.a [.a .i8 0,.a .i64 0,.a .i8 0,.a .i64 0] true none],[]⟩ [.a .i64 y,.h 14 0,.a .i64 f,.a .i64 n,.a .i64 lo,.a .i64 (eN (12*y+f-1+z.1)-1),.a .i64 z.1] ⟨2,[.a w true none,.a [.a .i8 0,.a .i64 0,.a .i8 0,.a .i64 0] true none],[]⟩:=λx hk h=>by
    subst h;exact⟨⟨k+1,by omega⟩,by dsimp only;omega,VW.b0 (by dsimp only;rw[show 12*y+f-1+((k+1:Nat):Int)=12*y+f-1+k+1 by omega];rfl) rfl⟩
   have fin:(k:Int)=n->Q (.b 0,[.a .i64 y,.h 14 0,.a .i64 f,.a .i64 n,.a .i64 lo,.a .i64 (eN (12*y+f-1+k)-1),.a .i64 k],⟨2,[.a w true none,.a [.a .i8 0,.a .i64 0,.a .i8 0,.a .i64 0] true none],[]⟩):=λh=>by rw[h];exact hq
   clear hq;rw[hs]at next;have next1:=λx (h:f+k<=12)=>by have:=next x;rw[(e1 h).1,(e1 h).2]at this;exact this
   have next2:=λx (h:12<f+k)=>by have:=next x;rw[(e2 h).1,(e2 h).2]at this;exact this
   clear next e1 e2 hs;generalize eN (12*y+f-1+k)=H at *;generalize d6 y (f+k)=l1 at *;generalize d6 (y+1) (f+k-12)=l2 at *;simp only[az,reduceCtorEq]
   (repeat' first|exact trivial|refine⟨?_,?_⟩|intro)<;>first|omega|refine hQ _ ?_
   . exact next2 _ (by omega) (by omega) (by omega)
   . exact next1 _ (by omega) (by omega) (by omega)
   . exact⟨_,_,VW.a0,fin (by omega)⟩
 . cases hv
theorem WS(h:21<=c/\c<=41):List.getD [AV.a .i64 3,AV.a .i64 6,AV.a .i64 9,AV.a .i64 12,AV.a .i64 3,AV.a .i64 6,AV.a .i64 9,AV.a .i64 12,AV.a .i64 9,AV.a .i64 12,AV.a .i64 3,AV.a .i64 6,AV.a .i64 1,AV.a .i64 4,AV.a .i64 7,AV.a .i64 10,AV.a .i64 1,AV.a .i64 5,AV.a .i64 9,AV.a .i64 1,AV.a .i64 7] (0+(Γ c 21).toNat*1) (AV.c [])=(fR c):=by
 rcases oJ h with rfl|rfl|rfl|rfl|rfl|rfl|rfl|rfl|rfl|rfl|rfl|rfl|rfl|rfl|rfl|rfl|rfl|rfl|rfl|rfl|rfl<;>rfl
theorem VY(h:21<=c/\c<=41):(39<c->mR c=6)/\(36<c/\c<=39->mR c=4)/\(c<=36->mR c=3):=by
 rcases oJ h with rfl|rfl|rfl|rfl|rfl|rfl|rfl|rfl|rfl|rfl|rfl|rfl|rfl|rfl|rfl|rfl|rfl|rfl|rfl|rfl|rfl<;>decide
theorem Wu(hS:ak Tryz.prog cfg S):ak Tryz.prog cfg (d5 S 159 K0):=by
 refine au hS λargs t v he hv=>?_;unfold K0 at he;split at he
 . rename_i y c;cases he;replace hv:=aF hv;obtain⟨⟨h1,h2,h3,-⟩,hv⟩:=hv;cases hv;have h1':=bX.1 h1;rw[mg]at h2;obtain⟨⟨f1,f2⟩,n1,n2⟩:=xH h2;refine kA vW (L:=LF) Sj (by simp) (dv Ox λi hi e he st Q hw=>?_) (jJ (bE 111111544021115440240044203111115440211154402400442011111544021115440240044204447) (R:=λQ=>(λ(B F U V W Y u7:AV)(A u8 u9:Bool)(T:Int)=>(λ(ua:Nat)(ub:Prop)=>(λ(uc:AV)=>(λ(ud:Bool)(C:Int)=>(λ(E G:Bool)(H ue:Int)=>(λ(u0:AV)(I:Bool)(Z uf:Int)(u1 u2:Prop)=>(λ(N O P:Bool)(u3:Prop)=>(λ(u4 u5 u6 ug uh ui:Prop)=>af .i64 T/\ab 0 T/\aS ua 21/\(ud->(u8->(u9->A/\(E->(G->(N->A/\(O->ug)/\u4)/\(u5->A/\(P->ug)/\u6))/\u1)/\u2)/\(ub->A/\(E->(G->(N->A/\(O->uh)/\u4)/\(u5->A/\(P->uh)/\u6))/\u1)/\u2))/\(u8=false->ub/\A/\(E->(G->(N->A/\(O->ui)/\u4)/\(u5->A/\(P->ui)/\u6))/\u1)/\u2))/\(ud=false->False)) (O=false->False) (N=false) (P=false->False) ((I->(∀J1:Nat->Value,Q (.g [B,u0,B,.a .i64 (υ (eN (π H 6)) 1)])))/\u3) ((I->(∀J1:Nat->Value,Q (.g [B,u0,B,.a .i64 (υ (eN (π H 4)) 1)])))/\u3) ((I->(∀J1:Nat->Value,Q (.g [B,u0,B,.a .i64 (υ (eN (π H 3)) 1)])))/\u3)) (af .i64 Z) (aa Z uf) (aa (IntKind.wrap .i64 Z) uf) (I=false->False)) (.a .i64 ue) (and E (ab C 12)) (Γ ue 1) (υ (eN H) 1) (G=false->False) (E=false->False)) (ab 1 C) (ab C 13) (υ (π (HMul.hMul 12 y) C) 1) (υ (π (aG y C) 1) 1)) (eB .i64 uc) (dx uc)) (List.getD [U,V,F,W,U,V,F,W,F,W,U,V,Y,.a .i64 4,u7,.a .i64 10,Y,.a .i64 5,F,Y,u7] (π 0 (HMul.hMul ua 1)) (.c []))) T.toNat (u9=false)) (.a .i8 0) (.a .i64 9) (.a .i64 3) (.a .i64 6) (.a .i64 12) (.a .i64 1) (.a .i64 7) (and (ab (Neg.neg 10000000000000000) y) (ab y 10000000000000000)) (not (ab c 36)) (not (ab c 39)) (Γ c 21)) (λ_=>by kernel_rfl) λQ' hQ=>?_) (by rfl)
   . have hi:i=0:=by grind
     subst hi;cases he;exact bR (cC.a0 vW) (by decide) rfl Yw hw
   . try dsimp only
     have hs:=(af1 (12*y+fR c-1+(mR c-1))).2;rw[show 12*y+fR c-1+(mR c-1)+1=12*y+fR c-1+mR c by omega,show 12*y+fR c-1+(mR c-1)=12*y+(fR c-1)+(mR c-1)by omega]at hs;have e0:eN (12*y+fR c-1)=aG y (fR c):=by
      unfold eN;rw[show dc (12*y+fR c-1) 12=y by unfold dc;omega,show d8 (12*y+fR c-1) 12+1=fR c by unfold d8;omega]
     have b0:=@mst_bd y (fR c) h1' f1 (by omega);have i0:∀n:Int,dx (.a .i64 n)=n:=λ_=>rfl;have ka:∀n:Int,eB .i64 (.a .i64 n)=true:=λn=>rfl;obtain⟨m1,m2,m3⟩:=VY h2;rw[WS h2];simp only[i0,ka];have fin:∀n:Int,n=mR c->Q' (vR (aG y (fR c)) (eN (12*y+fR c-1+n)-1)):=λn h=>by
      rw[h,hs];exact hQ _ rfl
     unfold vR at fin;clear hQ hs;rw[e0];simp only[az,reduceCtorEq];rw[show aG y (fR c)+1-1=aG y (fR c)by omega]
     (repeat' first|exact trivial|refine⟨?_,?_⟩|intro)<;>first|omega|exact fin _ (by omega)|(rename_i h;rw[bX.2 h1']at h;exact h)|(rename_i h;rw[gX.2 ⟨f1,f2⟩]at h;cases h)|(rename_i h;rw[bX.2 h1']at h;cases h)
 . cases he
theorem ju{m d:Int}:kY y m d=true↔(-10000000000000000<=y/\y<=10000000000000000)/\(0<=d/\d<=31)/\(m=0\/(1<=m/\m<=12)\/(21<=m/\m<=41)/\eO (fq y m)=true):=by
 grind [kY,bX,ao,gX,aq,mg]
theorem UJ(hS:ak Tryz.prog cfg S):ak Tryz.prog cfg (d5 S 87 s9):=by
 refine au hS λargs t v he hv=>?_;unfold s9 at he;split at he
 . rename_i y m d;cases he;obtain⟨h1,hv'⟩:=eL hv;clear hv;have hv:=hv';clear hv'
   cases hv;obtain⟨hy,hd,hm⟩:=ju.1 h1;have hm1:0<=m/\m<=41:=by omega
   have bl:0<=iE y/\iE y<=1:=Go.Proofs.YtcffhjfdlflbgaaGreatDoor.lp_01 y;have b1:=@rm y hy.1 (by omega);have b2:1<=m->m<=12->-3652425000000000001<=aG y m/\aG y m<=3652425000000000800:=λk1 k2=>mst_bd hy k1 (by omega);have hn:=jk y m;have ys:bf (y+1)=bf y+365+iE y:=Go.Proofs.YtcffhjfdlflbgaaGreatDoor.yst_succ y;have ms:1<=m->m<=12->aG y (m+1)=aG y m+d6 y m:=λk1 k2=>p9 k1 k2;have yb:=bX.2 hy;have cb:=@mg m;refine nF (Wu vW) ai (bE 100227022701007000700070410704100220220204) (R:=λQ=>(λ(A N:AV)(B C E F H:Bool)(G I:Int)=>(λ(O P:Int)=>(λ(T:Int)=>(λ(U:Prop->Prop)=>(aa m 0->F/\F/\af .i64 G/\af .i64 y/\af .i64 O/\Q (.g [A,(bf y),A,O]))/\(aa m 0=false->(H->B/\zI m/\eO (fq y m)/\Q (.g [A,(aG y (fR m)),A,(υ (aG (fq y m) (π (kX y m) 2)) 1)]))/\(H=false->(aa d 0->B/\C/\E/\B/\C/\E/\af .i64 y/\af .i64 P/\af .i64 T/\Q (.g [A,I,A,T]))/\(aa d 0=false->U (U (Q (.g [A,N,A,N]))))))) (λu0=>B/\C/\E/\ab 1 d/\ab d 31/\u0)) (Γ P 1)) (ξ G (iE y)) (ξ I (d6 y m))) (.a .i8 0) (υ (π (aG y m) d) 1) (eO y) (ab 1 m) (ab m 13) (and (ab (Neg.neg 10000000000000000) y) (ab y 10000000000000001)) (not (ab m 12)) (ξ (bf y) 364) (υ (π (aG y m) 1) 1)) (λ_=>by rfl) (hi:=(by rfl)) λQ' hQ=>?_;try dsimp only
   unfold vR iO iD at hQ;rw[yb];generalize fq y m=sy at *;generalize kX y m=sm at *;generalize aG y (fR m)=k1 at *;generalize aG sy (sm+2)=k2 at *;cases hm0:aa m 0 with
   | true=>
     rw[hm0,cond_true,cond_true,ys]at hQ;rw[ao]at hm0;simp only[az,reduceCtorEq];grind
   | false=>
     rw[hm0,cond_false,cond_false]at hQ;rw[aw]at hm0;cases h13:ab 13 m with
     | true=>
       grind [aq]
     | false=>
       rw[h13,cond_false,cond_false]at hQ;rw[bF]at h13;have e:=ms (by omega) (by omega);have b2:=b2 (by omega) (by omega);cases hd0:aa d 0 with
       | true=>
         simp_all [az];omega
       | false=>
         simp_all [az];omega
 grind
def yq:aQ:=d5 R7 229 Nz
theorem amZ(ng lg:Bool)(s:List UInt8)(e g:Int)(mo da:List UInt8)(a b c y m d:Int){Q:AV->Prop}:gG Q (pT yq jE 147 [.g [ng,lg,s,e,g,mo,da,.a .u8 a,.a .u8 b,.a .u8 c],.g [y,m,d]]) (bE 1052020020)=((λ(A:AV)=>ae mo []/\eO y/\eO y/\Q (.c [.g [A,(bf y),A,(υ (bf (π y 1)) 1)],.a .i64 0])) (.a .i8 0)):=by rfl
theorem anE(ng lg:Bool)(s:List UInt8)(e g:Int)(mo da:List UInt8)(a b c y m d:Int){Q:AV->Prop}:gG Q (pT yq jE 147 [.g [ng,lg,s,e,g,mo,da,.a .u8 a,.a .u8 b,.a .u8 c],.g [y,m,d]]) (bE 1000220220220220201000220220204010104220004030)=((λ(A B:AV)(G H I:Bool)(N:Int)=>(λ(O:Bool)(P:Int)=>(λ(T:Bool)(E:Int)=>(λ(C:Bool)(F:Int)=>(λ(U:Int)=>(λ(V:Int)=>(λ(W:Bool)(Y:Int)=>(λ(u0:AV)(Z:Bool)=>ae mo []=false/\(G->eO y/\zI m/\(H->Q (.c [.g [A,(aG y (fR m)),A,(υ (aG (fq y m) (π (kX y m) 2)) 1)],B]))/\(H=false->Q (.c [.g [A,B,A,B],.a .i64 6])))/\(G=false->(I->O/\T/\C/\C/\eO F/\Q (.c [.g [A,U,A,(υ (aG F (π (j8 E) 2)) 1)],B]))/\(I=false->O/\T/\C/\C/\eO F/\W/\Z/\W/\Z/\Q (.c [.g [A,u0,A,u0],B])))) Y (af .i64 Y)) (af .i64 V) (Γ V 1)) (ξ U d)) (aG F (π (j8 E) 1))) (af .i64 E) (dc E 12)) (af .i64 P) (Γ P 1)) (af .i64 N) (ξ N m)) (.a .i8 0) (.a .i64 0) (not (ab m 12)) (eO (fq y m)) (ae da []) (Int.mul 12 y)):=by rfl
theorem afC:ec eS 147=some (dH 147,aL 147):=by rfl
theorem J6:ak Tryz.prog cfg yq:=MA yF
theorem Dj(s t:List UInt8)(a b:Int):eC (s++t) a b=eC s a b+eC t a b:=by
 grind [eC]
theorem Oo{s:List UInt8}(h:eC s 88 88=0):∀c∈s,c.toNat≠88:=λc hc h88=>by
 grind [eC,List.filter_eq_nil_iff]
theorem Yz{mo t:List UInt8}{r:Int}(h1:H4 t/\XR t=c)(h2:r=0\/(H4 mo/\XR mo=r)):(bif ae mo t then c else r)=0\/(H4 mo/\XR mo=bif ae mo t then c else r):=by
 cases hb:ae mo t<;>grind [bV]
theorem L6(mo:List UInt8):aR mo=0\/(H4 mo/\XR mo=aR mo):=by
 unfold aR
 (repeat' refine Yz ⟨by decide,by decide⟩ ?_)
 simp
theorem N_(hc:21<=c/\c<=41)(hy : -10000000000000000<=y/\y<=10000000000000000)(h:(c≠24/\c≠28/\c≠30)\/y≠10000000000000000):eO (fq y c)=true:=by
 obtain⟨h1,h2,h3⟩:=KJ hc;grind [bX,fq,dc]
theorem Gx{m d:Int}(h:kY y m d) : -3652425000000000002<=iO y m d/\iO y m d<=iD y m d/\iD y m d<=3652425000000002000:=by
 obtain⟨hy,hd,hm⟩:=ju.1 h;unfold iO iD;cases hm0:aa m 0 with
 | true=>
   have b1:=@rm y hy.1 (by omega);have ys:bf (y+1)=bf y+365+iE y:=Go.Proofs.YtcffhjfdlflbgaaGreatDoor.yst_succ y;have bl:0<=iE y/\iE y<=1:=Go.Proofs.YtcffhjfdlflbgaaGreatDoor.lp_01 y;grind
 | false=>
   rw[aw]at hm0;simp only[cond_false];cases h13:ab 13 m with
   | true=>
     rw[aq]at h13;simp only[cond_true];have hc:21<=m/\m<=41:=by omega
     obtain⟨⟨f1,f2⟩,n1,n2⟩:=xH hc;have b0:=@mst_bd y (fR m) hy f1 (by omega);have hs:=(af1 (12*y+fR m-1+(mR m-1))).2;rw[show 12*y+fR m-1+(mR m-1)+1=12*y+fR m-1+mR m by omega,show 12*y+fR m-1+(mR m-1)=12*y+(fR m-1)+(mR m-1)by omega]at hs;have e0:eN (12*y+fR m-1)=aG y (fR m):=by
      grind [eN,dc,d8]
     have bk:=EX (12*y+fR m-1) (mR m).toNat;grind [fq,kX]
   | false=>
     rw[bF]at h13;simp only[cond_false];have b2:=@mst_bd y m hy (by omega) (by omega);have e:=@p9 y m (by omega) (by omega);have hn:=jk y m;grind
theorem yR:aN (bf y)=y/\aN (bf (y+1)-1)=y:=by
 have ys:bf (y+1)=bf y+365+iE y:=Go.Proofs.YtcffhjfdlflbgaaGreatDoor.yst_succ y;have bl:0<=iE y/\iE y<=1:=Go.Proofs.YtcffhjfdlflbgaaGreatDoor.lp_01 y;refine⟨Go.Proofs.YtcffhjfdlflbgaaGreatDoor.yOf_unique (Int.le_refl _) ?_,Go.Proofs.YtcffhjfdlflbgaaGreatDoor.yOf_unique ?_ ?_⟩<;>grind [bf]
theorem eF{b:Int}(h:a<=b):bf a<=bf b:=Go.Proofs.YtcffhjfdlflbgaaGreatDoor.yst_le h
theorem n9:bf (-10000000000000000) = -3652425000000000000/\bf 10000000000000000=3652425000000000000:=by decide
abbrev Um:List UInt8:=[ν 48,ν 49,ν 50,ν 51,ν 52,ν 53,ν 54,ν 55,ν 56,ν 57]
def Bc(k:Int):UInt8:=Um.getD k.toNat 0
def d0(n:Int):UInt8:=Bc (n%10000/1000)
def d1(n:Int):UInt8:=Bc (n%10000/100%10)
def d2(n:Int):UInt8:=Bc (n%10000/10%10)
def d3(n:Int):UInt8:=Bc (n%10000%10)
def SX:dP:=λ
 | [.a .u16 n]=>some (aH [ab 0 n,ab n 65535] (.a0 (.f [d0 n,d1 n,d2 n,d3 n])))
 | _=>none
theorem tY(h:0<=k/\k<=9):k=0\/k=1\/k=2\/k=3\/k=4\/k=5\/k=6\/k=7\/k=8\/k=9:=by omega
theorem wC(h:0<=k/\k<=9):Α k.toNat (χ (ξ k 1).toNat Um)=[Bc k]:=by
 rcases tY h with rfl|rfl|rfl|rfl|rfl|rfl|rfl|rfl|rfl|rfl<;>rfl
theorem oZ(h:0<=k/\k<=9):((Bc k).toNat:Int)=48+k:=by
 rcases tY h with rfl|rfl|rfl|rfl|rfl|rfl|rfl|rfl|rfl|rfl<;>rfl
theorem Re(hS:ak Tryz.prog cfg S):ak Tryz.prog cfg (d5 S 123 SX):=by
 refine au hS λargs t v he hv=>?_;unfold SX at he;split at he
 . rename_i n;cases he;obtain⟨⟨h1,h2,-⟩,hv⟩:=aF hv;cases hv;rw[aq]at h1 h2;have e0:ο n 10000=n%10000:=ς h1;have e1:Β (n%10000) 1000=n%10000/1000:=τ (by omega);have e2:Β (n%10000) 100=n%10000/100:=τ (by omega);have e3:Β (n%10000) 10=n%10000/10:=τ (by omega);have e4:ο (n%10000/100) 10=n%10000/100%10:=ς (by omega);have e5:ο (n%10000/10) 10=n%10000/10%10:=ς (by omega);have e6:ο (n%10000) 10=n%10000%10:=ς (by omega);refine nF aW ai (bE 111142270042270200204227020020770200) (R:=λQ=>(λ(A:Int)(B:List UInt8)=>(λ(C E W Y:Int)=>(λ(Z u1 u2:Bool)(F G H I:Int)(u0 u3:Nat)=>(λ(O P:Int)(N T u4 u5:Nat)=>(λ(u6 u7:List UInt8)(U V:Nat)=>(λ(u8 u9:List UInt8)=>(λ(ua:Bool)(ub:List UInt8)=>(λ(uc:Bool)(ud:List UInt8)=>(λ(ue:Bool)=>Z/\Z/\af .u16 F/\ab 0 F/\σ N 10/\ab 0 C/\σ u0 N/\u1/\u1/\af .u16 O/\ab 0 O/\σ U 10/\ab 0 G/\σ u4 U/\(ua->u2/\u2/\af .u16 P/\ab 0 P/\σ V 10/\ab 0 H/\σ u5 V/\(uc->af .u16 I/\ab 0 I/\σ T 10/\ab 0 E/\σ u3 T/\(ue->Q (ud++u7))/\(ue=false->False))/\(uc=false->False))/\(ua=false->False)) (σ (π ud.length u7.length) 1000000)) (σ (π ub.length u9.length) 1000000) (ub++u9)) (σ (π u6.length u8.length) 1000000) (u6++u8)) (Α u4 (χ U B)) (Α u5 (χ V B))) (Α u0 (χ N B)) (Α u3 (χ T B)) O.toNat P.toNat) (ξ G 1) (ξ H 1) F.toNat I.toNat G.toNat H.toNat) (af .u16 C) (af .u16 W) (af .u16 Y) (ξ C 1) (ο W 10) (ο Y 10) (ξ E 1) C.toNat E.toNat) (Β A 1000) (ο A 10) (Β A 100) (Β A 10)) (ο n 10000) [ν 48,ν 49,ν 50,ν 51,ν 52,ν 53,ν 54,ν 55,ν 56,ν 57]) (λ_=>by rfl) λQ' hQ=>?_;try dsimp only
   unfold d0 d1 d2 d3 at hQ;try dsimp only
   rw[e0,e1,e2,e3,e4,e5,e6,wC (k:=n%10000/1000) (by omega),wC (k:=n%10000/100%10) (by omega),wC (k:=n%10000/10%10) (by omega),wC (k:=n%10000%10) (by omega)];generalize Bc _=x0 at *;generalize Bc _=x1 at *;generalize Bc _=x2 at *;generalize Bc _=x3 at *;simp only[az,reduceCtorEq]
   (repeat' first|exact trivial|refine⟨?_,?_⟩|intro)<;>first|contradiction|omega|assumption|exact hQ|(exfalso;simp_all)
 . cases he
def Rh(a b n:Int):List UInt8:=[bif aa 0 a || aa 0 b then ν 88 else d0 n,bif aa 1 a || aa 1 b then ν 88 else d1 n,bif aa 2 a || aa 2 b then ν 88 else d2 n,bif aa 3 a || aa 3 b then ν 88 else d3 n]
def I3(n z0:Int):List UInt8:=[Bc (z0%9+1),d0 n,d1 n,d2 n,d3 n]
def gw(f n z0 z1:Int):List UInt8:=bif aa (f%6) 3 then Rh (z0%4) (z1%4) n else bif aa (f%6) 5 then(bif ab (z1%3) 0 then I3 n z0 else χ (1+z1%5).toNat (I3 n z0))else[d0 n,d1 n,d2 n,d3 n]
def kQ(f z1:Int):Int:=bif aa (f%6) 5 then(bif ab (z1%3) 0 then 0 else 1+z1/16%11)else 0
def dr(f n z0 z1:Int):Int:=bif aa (f%6) 4 then 1+z0%4 else bif aa (f%6) 5 then z0/16%(ω (gw f n z0 z1).length+kQ f z1+1)else 0
def sY(f:Int):Bool:=aa (f%6) 5
def qV(f:Int)(ng:Bool)(n z0 z1:Int):Bool:=ng&&aV ng (sY f) (gw f n z0 z1) (kQ f z1) (dr f n z0 z1)
def ZX:dP:=λ
 | [.g [.a .u8 f,.e ng,.a .u16 n,.a .u8 z0,.a .u8 z1]]=>some (aH [af .u8 f,af .u16 n,af .u8 z0,af .u8 z1] (.a0 (.g [(qV f ng n z0 z1),(sY f),(gw f n z0 z1),(kQ f z1),(dr f n z0 z1)])))
 | _=>none
def Ny:aQ:=d5 (d5 gZ 124 alT) 123 SX
theorem yG:ak Tryz.prog cfg Ny:=Re (bm aW (MB 124 _ rfl))
theorem LX(h:0<=k/\k<=8):Α k.toNat (χ (ξ k 1).toNat [ν 49,ν 50,ν 51,ν 52,ν 53,ν 54,ν 55,ν 56,ν 57])=[Bc (k+1)]:=by
 rcases tY ⟨h.1,by omega⟩with rfl|rfl|rfl|rfl|rfl|rfl|rfl|rfl|rfl|rfl<;>first|rfl|omega
theorem TO{b:Bool}:aa (bI b) 0=!b:=by cases b<;>rfl
theorem Ry:(aa 0 0/\aa 0 1=false/\aa 0 2=false/\aa 0 3=false)/\(aa 1 0=false/\aa 1 1/\aa 1 2=false/\aa 1 3=false)/\(aa 2 0=false/\aa 2 1=false/\aa 2 2/\aa 2 3=false)/\(aa 3 0=false/\aa 3 1=false/\aa 3 2=false/\aa 3 3=true):=by decide
theorem tm{b:Int}(h:0<=a):ο a b=a%b:=ς h
theorem td{b:Int}(h:0<=a):Β a b=a/b:=τ h
theorem WB(hS:ak Tryz.prog cfg S):ak Tryz.prog cfg (d5 S 64 ZX):=by
 refine au hS λargs t v he hv=>?_;unfold ZX at he;split at he
 . rename_i f ng n z0 z1;cases he;obtain⟨⟨h1,h2,h3,h4,-⟩,hv⟩:=aF hv;cases hv;rw[aE]at h1 h2 h3 h4;simp only[eH,eE]at h1 h2 h3 h4;have tf:ο f 6=f%6:=tm h1.1;have cf:f%6<=2\/f%6=3\/f%6=4\/f%6=5:=by omega
   rcases cf with cf|cf|cf|cf
   . refine nF yG ai (bE 100510005455800022000) (R:=λQ=>(λ(A C:AV)(B:Int)(E:List UInt8)=>(λ(F:Bool)=>ab 0 n/\ab n 65535/\aa B 3=false/\aa B 4=false/\aa B 5=false/\(F->Q (.g [C,C,E,A,A]))/\(F=false->Q (.g [ng,C,E,A,A]))) (aa (bI (aV ng false E 0 0)) 0)) (.a .i64 0) false (ο f 6) [d0 n,d1 n,d2 n,d3 n]) (λ_=>by kernel_rfl) λQ' hQ=>?_;try dsimp only
     have e3:aa (f%6) 3=false:=aw.mpr (by omega);have e4:aa (f%6) 4=false:=aw.mpr (by omega);have e5:aa (f%6) 5=false:=aw.mpr (by omega);simp only[qV,sY,gw,kQ,dr,e3,e4,e5,cond_false]at hQ;try dsimp only
     rw[tf,e3,e4,e5,TO];generalize aV _ _ _ _ _=o at *;cases o<;>cases ng<;>simp only[az,reduceCtorEq]<;>(repeat' first|exact trivial|refine⟨?_,?_⟩|intro)<;>first|contradiction|omega|grind|exact hQ
   . refine nF yG ai (bE 100510005466100510005400064376100510005466337000437610051000546633763370004375233100510005466100510005400064376100510005466337000437523310051000546610051000540006437523310051000545628610051000545628000432246100510005466337523310051000545628633224000432246100510005466337633752331005100054663375233100510005456286332246332240004322402525200022000) (R:=λQ=>(λ(A B H:AV)(u2 u3:Int)(F O P T U:UInt8)=>(λ(V u4 u5 u6 u7 ua ub:Bool)(uf ug uh ui uj uk ul um un uo:List UInt8)=>(λ(C E I u9 up uq ur us ut uu uv uw ux uy:Bool)(W Y Z u0 uc ud:Prop)=>(λ(G N u1 ue uz uA uB uC uD uE:Prop)=>(λ(uG:Prop->Prop)=>(λ(uF:Prop->Prop)=>ab 0 n/\ab n 65535/\aa (ο f 6) 3/\af .i64 u2/\af .i64 u3/\(u9->u9/\u9/\ua=false/\(aa 0 u3->(I->I/\I/\uc/\ud/\(C->uG (Y/\uF uz))/\(N->N/\N/\u4/\uA))/\(u1->u1/\u1/\u5/\uB))/\(aa 0 u3=false->(I->I/\I/\uc/\(ub->(C->uG (Y/\uF uC))/\(N->N/\N/\u4/\uD))/\(ud->(C->uG ((u6->uF uE)/\(Y->uF ((uv->Q (.g [B,B,ul,A,A]))/\(uv=false->Q (.g [H,B,ul,A,A]))))))/\(N->N/\N/\u4/\E/\E/\E/\Z/\(u7->uE)/\(u0->(uw->Q (.g [B,B,um,A,A]))/\(uw=false->Q (.g [H,B,um,A,A]))))))/\(u1->u1/\u1/\u5/\C/\uG ((u6->uD)/\(Y->E/\E/\E/\Z/\(u7->uC)/\(u0->(ux->Q (.g [B,B,un,A,A]))/\(ux=false->Q (.g [H,B,un,A,A]))))))))/\(ue->ue/\ue/\ua/\I/\I/\I/\uc/\(ub->uB)/\(ud->C/\uG ((u6->uA)/\(Y->E/\E/\E/\Z/\(u7->uz)/\(u0->(uy->Q (.g [B,B,uo,A,A]))/\(uy=false->Q (.g [H,B,uo,A,A])))))))) (λuH=>G/\G/\G/\V/\uH)) (λuH=>C/\C/\W/\uH)) (E=false) (C=false) (I=false) (u9=false) ((up->Q (.g [B,B,uf,A,A]))/\(up=false->Q (.g [H,B,uf,A,A]))) (E/\E/\E/\Z/\u0/\(uq->Q (.g [B,B,ug,A,A]))/\(uq=false->Q (.g [H,B,ug,A,A]))) (C/\C/\C/\W/\Y/\E/\E/\E/\Z/\u0/\(ur->Q (.g [B,B,uh,A,A]))/\(ur=false->Q (.g [H,B,uh,A,A]))) ((us->Q (.g [B,B,ui,A,A]))/\(us=false->Q (.g [H,B,ui,A,A]))) (E/\E/\E/\Z/\u0/\(ut->Q (.g [B,B,uj,A,A]))/\(ut=false->Q (.g [H,B,uj,A,A]))) ((uu->Q (.g [B,B,uk,A,A]))/\(uu=false->Q (.g [H,B,uk,A,A])))) (not u4) (not V) (not u5) (not ua) (aa (bI (aV ng false uf 0 0)) 0) (aa (bI (aV ng false ug 0 0)) 0) (aa (bI (aV ng false uh 0 0)) 0) (aa (bI (aV ng false ui 0 0)) 0) (aa (bI (aV ng false uj 0 0)) 0) (aa (bI (aV ng false uk 0 0)) 0) (aa (bI (aV ng false ul 0 0)) 0) (aa (bI (aV ng false um 0 0)) 0) (aa (bI (aV ng false un 0 0)) 0) (aa (bI (aV ng false uo 0 0)) 0) (u4=false) (u6=false) (V=false) (u7=false) (u5=false) (ub=false)) (aa 3 u2) (aa 2 u2) (aa 1 u2) (aa 2 u3) (aa 3 u3) (aa 0 u2) (aa 1 u3) [F,O,P,F] [F,O,F,T] [F,F,P,T] [U,F,P,F] [U,F,F,T] [U,O,F,F] [U,O,P,F] [U,O,F,T] [U,F,P,T] [F,O,P,T]) (.a .i64 0) false ng (ο z0 4) (ο z1 4) (ν 88) (d1 n) (d2 n) (d3 n) (d0 n)) (λ_=>by kernel_rfl) λQ' hQ=>?_;try dsimp only
     have e3:aa (f%6) 3=true:=ao.mpr (by omega);have e4:aa (f%6) 4=false:=aw.mpr (by omega);have e5:aa (f%6) 5=false:=aw.mpr (by omega);simp only[qV,sY,gw,kQ,dr,e3,e4,e5,zAj]at hQ;have ha:0<=z0%4/\z0%4<=3:=by omega
     have hb:0<=z1%4/\z1%4<=3:=by omega
     try dsimp only
     rw[tf,e3,tm (b:=4) h3.1,tm (b:=4) h4.1];generalize z0%4=a at *;generalize z1%4=b at *;have ca:a=0\/a=1\/a=2\/a=3:=by omega
     have cb:b=0\/b=1\/b=2\/b=3:=by omega
     rcases ca with rfl|rfl|rfl|rfl<;>rcases cb with rfl|rfl|rfl|rfl<;>simp only[Rh,TO,Ry,reduceCtorEq,Bool.or_true,Bool.true_or,Bool.or_false,zAj,Bool.not_true,Bool.not_false,zAh]at hQ ⊢<;>generalize aV _ _ _ _ _=o at *<;>cases o<;>cases ng<;>simp only[az,reduceCtorEq]<;>(repeat' first|exact trivial|refine⟨?_,?_⟩|intro)<;>first|contradiction|omega|assumption|exact hQ
   . refine nF yG ai (bE 100510005462252300022000) (R:=λQ=>(λ(A G:AV)(C E:Int)(F:List UInt8)=>(λ(B:Int)=>(λ(I:AV)(H:Bool)=>ab 0 n/\ab n 65535/\aa C 3=false/\aa C 4/\af .i64 E/\af .i64 B/\(H->Q (.g [A,A,F,G,I]))/\(H=false->Q (.g [ng,A,F,G,I]))) B (aa (bI (aV ng false F 0 B)) 0)) (ξ 1 E)) false (.a .i64 0) (ο f 6) (ο z0 4) [d0 n,d1 n,d2 n,d3 n]) (λ_=>by kernel_rfl) λQ' hQ=>?_;try dsimp only
     have e3:aa (f%6) 3=false:=aw.mpr (by omega);have e4:aa (f%6) 4=true:=ao.mpr (by omega);have e5:aa (f%6) 5=false:=aw.mpr (by omega);simp only[qV,sY,gw,kQ,dr,e3,e4,e5,zAj]at hQ;try dsimp only
     rw[tf,e3,e4,tm (b:=4) h3.1,TO];rw[show ξ 1 (z0%4)=1+z0%4 from rfl];generalize aV _ _ _ _ _=o at *;cases o<;>cases ng<;>simp only[az,reduceCtorEq]<;>(repeat' first|exact trivial|refine⟨?_,?_⟩|intro)<;>first|contradiction|omega|assumption|exact hQ
   . have e3:aa (f%6) 3=false:=aw.mpr (by omega);have e4:aa (f%6) 4=false:=aw.mpr (by omega);have e5:aa (f%6) 5=true:=ao.mpr (by omega);have s9:=LX (k:=z0%9) (by omega);have m16:0<=z0/16/\z0/16<=15:=by omega
     by_cases h0:z1%3<=0
     . refine nF yG ai (bE 130005213000524130005210051000540255440022530520227623300022000) (R:=λQ=>(λ(P T:AV)(A B C:Int)=>(λ(E:Int)(U:Nat)=>(λ(F:Nat)=>(λ(V:List UInt8)=>(λ(G:List UInt8)=>(λ(W:Nat)=>(λ(Y:Bool)(H:Int)=>(λ(Z:Bool)(I O:Int)(N:Prop)=>(λ(u0 u2:Bool)(u1:Int)=>(λ(u4:AV)(u3:Bool)=>ab 0 n/\ab n 65535/\aa A 3=false/\aa A 4=false/\aa A 5/\af .u8 E/\ab 0 E/\σ F 9/\ab 0 B/\σ U F/\σ (π V.length 4) 1000000/\not (ab (ο z1 3) 0)=false/\af .u8 C/\af .i64 C/\(Z->(u0->Y/\(u3->Q (.g [false,P,G,T,u4]))/\(u3=false->Q (.g [ng,P,G,T,u4])))/\(u0=false->not (aa (IntKind.wrap .i64 I) 0)/\N))/\(Z=false->(u2->not (aa O 0)/\N)/\(u2=false->not (aa (IntKind.wrap .i64 O) 0)/\N))) u1 (aa (bI (aV ng true G 0 u1)) 0)) (af .i64 I) (af .i64 O) (ο C I)) (af .i64 H) (ξ H 1) (ξ (IntKind.wrap .i64 H) 1) (Y=false/\False)) (σ W 1000) (ξ (ω W) 0)) G.length) (V++[d0 n,d1 n,d2 n,d3 n])) (Α U (χ F [ν 49,ν 50,ν 51,ν 52,ν 53,ν 54,ν 55,ν 56,ν 57]))) E.toNat) (ξ B 1) B.toNat) true (.a .i64 0) (ο f 6) (ο z0 9) (Β z0 16)) (λ_=>by kernel_rfl) λQ' hQ=>?_;try dsimp only
       have e0:ab (z1%3) 0=true:=aq.mpr h0;simp only[qV,sY,gw,kQ,dr,I3,e0,e3,e4,e5,zAj]at hQ;try dsimp only
       rw[tf,e3,e4,e5,tm (b:=9) h3.1,tm (b:=3) h4.1,td (b:=16) h3.1,s9,e0,tm m16.1,TO];simp only[zAd,List.length_nil,List.cons_append,List.nil_append]at hQ ⊢;have ez:∀x:Nat,ξ (ξ (ω x) 0) 1=ω x+0+1:=λ_=>rfl;rw[ez];generalize hg:z0/16%(ω _+0+1)=g at *;generalize aV _ _ _ _ _=o at *;generalize [Bc (z0%9+1),d0 n,d1 n,d2 n,d3 n]=L at *;cases o<;>cases ng<;>simp only[az,reduceCtorEq]<;>(repeat' first|exact trivial|refine⟨?_,?_⟩|intro)<;>first|contradiction|omega|assumption|exact hQ
     . refine nF yG ai (bE 1300052130005241300052100510005422000524400220522020570520520227623300022000) (R:=λQ=>(λ(V:AV)(C E F G U:Int)=>(λ(H Z:Int)(W Y:Nat)=>(λ(A:Int)(I:Nat)=>(λ(u2:AV)(u1:Bool)(u0:List UInt8)=>(λ(u3:List UInt8)=>(λ(N:List UInt8)=>(λ(u4:Nat)=>(λ(u5:Bool)(O:Int)=>(λ(u6:Bool)(B T:Int)(P:Prop)=>(λ(u7 ua:Bool)(u9:Int)=>(λ(uc:AV)(ub:Bool)=>ab 0 n/\ab n 65535/\aa C 3=false/\aa C 4=false/\aa C 5/\af .u8 H/\ab 0 H/\σ I 9/\ab 0 E/\σ W I/\σ (π u0.length 4) 1000000/\not (ab (ο z1 3) 0)/\af .u8 F/\ab 0 F/\σ Y u3.length/\af .u8 U/\af .i64 Z/\u1/\af .u8 G/\af .i64 G/\(u6->(u7->not (aa B 0)/\u5/\u1/\(ub->Q (.g [false,V,N,u2,uc]))/\(ub=false->Q (.g [ng,V,N,u2,uc])))/\(u7=false->not (aa (IntKind.wrap .i64 B) 0)/\P))/\(u6=false->(ua->not (aa T 0)/\P)/\(ua=false->not (aa (IntKind.wrap .i64 T) 0)/\P))) u9 (aa (bI (aV ng true N A u9)) 0)) (af .i64 B) (af .i64 T) (ο G B)) (af .i64 O) (ξ O 1) (ξ (IntKind.wrap .i64 O) 1) (u5=false/\False)) (σ u4 1000) (ξ (ω u4) A)) N.length) (Α 0 (χ Y u3))) (u0++[d0 n,d1 n,d2 n,d3 n])) A (af .i64 A) (Α W (χ I [ν 49,ν 50,ν 51,ν 52,ν 53,ν 54,ν 55,ν 56,ν 57]))) (ξ 1 Z) H.toNat) (ξ E 1) (ο U 11) E.toNat F.toNat) true (ο f 6) (ο z0 9) (ξ 1 (ο z1 5)) (Β z0 16) (Β z1 16)) (λ_=>by kernel_rfl) λQ' hQ=>?_;try dsimp only
       have e0:ab (z1%3) 0=false:=bF.mpr (by omega);simp only[qV,sY,gw,kQ,dr,I3,e0,e3,e4,e5,zAj]at hQ;have m5:0<=z1%5/\z1%5<=4:=by omega
       have m11:0<=z1/16%11/\z1/16%11<=10:=by omega
       try dsimp only
       rw[tf,e3,e4,e5,tm (b:=9) h3.1,tm (b:=3) h4.1,tm (b:=5) h4.1,td (b:=16) h3.1,td (b:=16) h4.1,s9,e0,tm m16.1,tm (a:=z1/16) (by omega),TO];rw[show ξ 1 (z1%5)=1+z1%5 from rfl,show ξ 1 (z1/16%11)=1+z1/16%11 from rfl];simp only[List.cons_append,List.nil_append,List.drop_zero]at hQ ⊢;have hl:(χ (1+z1%5).toNat [Bc (z0%9+1),d0 n,d1 n,d2 n,d3 n]).length<=5:=by
        rw[List.length_take];exact Nat.min_le_right _ _
       have h5:(1+z1%5).toNat<=[Bc (z0%9+1),d0 n,d1 n,d2 n,d3 n].length:=by
        simp only[zAd,List.length_nil];omega
       have ez:∀x y:Int,ξ (ξ x y) 1=x+y+1:=λ_ _=>rfl;rw[ez];generalize hg:z0/16%(ω _+_+1)=g at *;generalize aV _ _ _ _ _=o at *;generalize [Bc (z0%9+1),d0 n,d1 n,d2 n,d3 n]=L at *;generalize χ (1+z1%5).toNat L=T at *;cases o<;>cases ng<;>simp only[az,reduceCtorEq]<;>(repeat' first|exact trivial|refine⟨?_,?_⟩|intro)<;>first|contradiction|omega|assumption|exact hQ|simp
 . cases he
end Go.Ev
