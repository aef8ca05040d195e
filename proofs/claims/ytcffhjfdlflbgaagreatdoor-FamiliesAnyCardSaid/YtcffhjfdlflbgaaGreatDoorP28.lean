import Derived.Test.YtcffhjfdlflbgaaGreatDoorP27
set_option linter.all false
open UInt8 renaming ofNat->ν
open Int renaming ofNat->ξ,add->τ,sub->Ε
open Bool renaming and->ο,true->υ,not_false->χ,not_true->ω
open HAdd renaming hAdd->π
open HSub renaming hSub->ς
open List renaming getD->σ,take->Β,not_mem_nil->Γ
open Nat renaming le_refl->Α,beq->Δ
set_option linter.all false
set_option maxRecDepth 100000
set_option maxHeartbeats 4000000
namespace Go.Ev
open Go Go.Proofs
variable{a b c y z0 z1:Int}{S:aQ}{s:List UInt8}
def F1:aQ:=d5 (pX gZ 40 Pm) 97 Sf
def Vo(a b c d p:Int):Bool:=!(!(aa a 0)&&!(aa c 0))&&(aa (bA a b c d) 0&&((!(aa a 0) || (lT b p&&aa (CK b p) b))&&(!(aa c 0) || (lT d p&&aa (PU d p) d))))
def YH:dP:=λ
 | [.h [.a .i8 a,.a .i64 b,.a .i8 c,.a .i64 d],.a .u8 p]=>some (aH [af .i8 a,af .i64 b,af .i8 c,af .i64 d,ab 1 p,ab p 3] (.a0 (.b (Vo a b c d p))))
 | _=>none
theorem UK:ak Tryz.prog cfg F1:=RG (eG aW Es)
theorem I1{d p:Int}(ha : -128<=a/\a<=127)(hb : -9223372036854775808<=b/\b<=9223372036854775807)(hc : -128<=c/\c<=127)(hd : -9223372036854775808<=d/\d<=9223372036854775807)(hp:1<=p/\p<=3):bu Tryz.prog cfg 44 [kw a b c d,.a .u8 p] [] (.b (Vo a b c d p)) []:=by
 refine nF UK ai (bE 155115511400642200401400642200201455381023315511400642200203014322542202240) (R:=λQ=>(λ(E G N O P U:Bool)(A T:Prop)=>(λ(B H:Bool)(V W:Prop)=>(λ(F:Bool)(C:Prop)=>(λ(I:Prop)=>(B->B/\B/\B/\B/\(F->F/\F/\H=false/\(N->A)/\(V->G=false/\E/\W))/\(I->I/\I/\H/\A))/\(C->C/\C/\C/\C/\(N->A)/\(V->G/\af .i64 b/\O/\(lT b p->(U->A)/\(U=false->(E->W)/\(E=false->T)))/\(lT b p=false->A)))) (F=false)) (not H) (B=false)) (not G) (not E) (N=false) (af .i64 d/\O/\(lT d p->(P->A)/\(P=false->T))/\(lT d p=false->A))) (aa c 0) (aa a 0) (not (aa (bA a b c d) 0)) (and (ab 1 p) (ab p 3)) (not (and (aa 0 c) (and (aa (PU d p) d) true))) (not (and (aa 0 a) (and (aa (CK b p) b) true))) (Q (.b false)) (Q (.b true))) (λ_=>by kernel_rfl) λQ' hQ=>?_;try dsimp only
 unfold Vo at hQ;generalize bA a b c d=r at *;generalize lT b p=o1 at *;generalize lT d p=o2 at *;generalize CK b p=l1 at *;generalize PU d p=l2 at *;have iff:(!(!(aa a 0)&&!(aa c 0))&&(aa r 0&&((!(aa a 0) || (o1&&aa l1 b))&&(!(aa c 0) || (o2&&aa l2 d)))))=true↔(a=0\/c=0)/\r=0/\(a=0->o1/\l1=b)/\(c=0->o2/\l2=d):=by
  grind [aw]
 have yes:((a=0\/c=0)/\r=0/\(a=0->o1/\l1=b)/\(c=0->o2/\l2=d))->Q' (.b true):=λh=>by grind
 have no:¬((a=0\/c=0)/\r=0/\(a=0->o1/\l1=b)/\(c=0->o2/\l2=d))->Q' (.b false):=λh=>by rw[<-iff,Bool.not_eq_true]at h;grind
 simp_all [az]
theorem Vn(hS:ak Tryz.prog cfg S):ak Tryz.prog cfg (d5 S 44 YH):=au hS λargs t v he hv=>by
 unfold YH at he;split at he
 . cases he;obtain⟨⟨h1,h2,h3,h4,h5,h6,-⟩,hv⟩:=aF hv;rw[aE]at h1 h2 h3 h4;simp only[eH,eE]at h1 h2 h3 h4;rw[aq]at h5 h6;cases hv;grind [I1]
 grind
def dZ(ng lg:Bool)(s:List UInt8)(e g:Int)(mo da:List UInt8)(x y z:Int):Bool:=ο (ο (bQ ng Bool.false) (ο (bQ lg Bool.false) (ο (ae s List.nil) (ο (aa e 0) (ο (aa g 0) υ))))) (ο (ae mo List.nil) (ο (ae da List.nil) (ο (ο (aa x 0) (ο (aa y 0) (ο (aa z 0) υ))) υ)))
theorem X3{ng lg:Bool}{e g:Int}{mo da:List UInt8}{x z:Int}:0<=bW ng lg s e g mo da x y z:=by
 have h:0<=nH ng lg s e g mo da x y z:=by
  have:=@dE x y z (dq mo da);grind [nH]
 grind [bW]
theorem agN{ng lg:Bool}{e g:Int}{mo da:List UInt8}{x z:Int}(h:bW ng lg s e g mo da x y z=0):0<=g:=by
 have hd:nH ng lg s e g mo da x y z=0:=by
  unfold bW at h;cases hE:aa (nH ng lg s e g mo da x y z) 0 with
  | true=>exact ao.mp hE
  | false=>grind
 have:=(dC hd dE).1;grind [aV]
def Nx(R:List Rn):Prop:=∀i,i<R.length->IJ (R.getD i ek).b/\IJ (R.getD i ek).d
theorem kz:∀{R:List Rn},(bh R).length=R.length*4
 | []=>rfl
 | r::rs=>by simp only[bh,zAd,kz (R:=rs)];omega
theorem iJ:∀{R:List Rn},g8 (bh R)=R
 | []=>rfl
 | r::rs=>by simp only[bh,g8,iJ (R:=rs)]
theorem pD:∀{R:List Rn},Nx R->eJ (bh R)=true
 | [],_=>rfl
 | r::rs,h=>by
   have h0:=h 0 (Nat.succ_pos _);have h0:IJ r.b/\IJ r.d:=h0;unfold IJ at h0;simp only[bh,eJ,zAa,aE,eH,eE];exact⟨h0.1,h0.2,pD λi hi=>h (i+1) (by grind)⟩
theorem l_{R:List Rn}:b_ (bh R) 0 (R.length*4)=bh R:=by
 grind [b_,kz]
theorem zi{d p:Int}:Vo a b c d p=true↔(a=0\/c=0)/\bA a b c d=0/\(a=0->lT b p/\CK b p=b)/\(c=0->lT d p/\PU d p=d):=by
 grind [Vo,aw]
def M4:aQ:=eQ (d5 (d5 (d5 (pX gZ 40 Pm) 42 tx) 43 XZ) 44 YH) 41 (fl 14 [4] YK)
theorem jG:ak Tryz.prog cfg M4:=UQ (Vn (TX (G9 (eG aW Es))))
def M5:aQ:=eQ (d5 (d5 (d5 (pX gZ 48 Pm) 46 tw) 47 YD) 49 BG) 45 (fl 14 [4] Ff)
theorem abK:ak Tryz.prog cfg M5:=amI (W5 (Ue (aeN (eG aW RQ))))
def ko(a b:UInt8):Int:=10*(ξ a.toNat-48)+(ξ b.toNat-48)
def XR(l:List UInt8):Int:=match l with
 | [a,b]=>ko a b
 | _=>0
def H4(l:List UInt8):Bool:=match l with
 | []=>true
 | [a,b]=>dB a&&dB b
 | _=>false
def kV(i:Int):Int:=aG (dc i 12) (d8 i 12+1)
def YV:dW:=λvs o=>match vs,o with
 | [.a .i64 y,.g 14 0,.a .i64 f,.a .i64 n,.a .i64 lo,.a .i64 hi,.a .i64 k],⟨2,[.a w true none,.a [.a .i8 0,.a .i64 0,.a .i8 0,.a .i64 0] true none],[]⟩=>some (aH [eO y,aa k 0,aa hi (kV (12*y+f-1)-1),tL f,ab 3 n,ab n 6] (.a0 (.b 0,[.a .i64 y,.g 14 0,.a .i64 f,.a .i64 n,.a .i64 lo,.a .i64 (kV (12*y+f-1+n)-1),.a .i64 n],o)))
 | _,_=>none
def LF:cx:=iz jE 0 (d9 49 [0,4,5,6,7,8,9] YV)
def vR(lo hi:Int):AV:=.h [.a .i8 0,.a .i64 lo,.a .i8 0,.a .i64 hi]
def K0:dP:=λ
 | [.a .i64 y,.a .i64 c]=>some (aH [eO y,zI c,eO (fq y c)] (.a0 (vR (aG y (fR c)) (aG (fq y c) (kX y c+2)-1))))
 | _=>none
def iO(y m d:Int):Int:=bif aa m 0 then bf y else bif ab 13 m then aG y (fR m)else bif aa d 0 then aG y m else aG y m+d-1
def iD(y m d:Int):Int:=bif aa m 0 then bf (y+1)-1 else bif ab 13 m then aG (fq y m) (kX y m+2)-1 else bif aa d 0 then aG y (m+1)-1 else aG y m+d-1
def kY(y m d:Int):Bool:=eO y&&(ab 0 d&&ab d 31&&(aa m 0 || (tL m || zI m&&eO (fq y m))))
def s9:dP:=λ
 | [.a .i64 y,.a .i64 m,.a .i64 d]=>some (aH [kY y m d] (.a0 (vR (iO y m d) (iD y m d))))
 | _=>none
theorem Sj:ec tab 159=some (dH 159,aL 159):=by rfl
theorem Ox:(bz (aL 159)).map (·.1)=[0]:=by rfl
theorem VS(y:Int):aG y 13=aG (y+1) 1:=Go.Proofs.YtcffhjfdlflbgaaGreatDoor.mst_next y
theorem af1(i:Int):kV (i+1)=kV i+d6 (dc i 12) (d8 i 12+1)/\kV (i+1)=aG (dc i 12) (d8 i 12+2):=by
 have hm:0<=d8 i 12/\d8 i 12<=11:=by unfold d8;omega
 have hs:=@p9 (dc i 12) (d8 i 12+1) (by omega) (by omega);have e:kV (i+1)=aG (dc i 12) (d8 i 12+2):=by
  unfold kV;by_cases h:d8 i 12=11<;>grind [dc,d8,VS]
 refine⟨?_,e⟩;rw[e,show d8 i 12+2=d8 i 12+1+1 by omega,hs];rfl
theorem EX(i:Int)(k:Nat):kV i+28*k<=kV (i+k)/\kV (i+k)<=kV i+31*k:=by
 induction k with
 | zero=>simp
 | succ k ih=>
   have h:=(af1 (i+k)).1;have b:=jk (dc (i+k) 12) (d8 (i+k) 12+1);grind
theorem Yw:cu Tryz.prog (cH cfg R3) (Cw cfg []) (lb 159 0) 49 [0,4,5,6,7,8,9] YV:=by
 intro vs o t Q hv hq J;unfold YV at hv;split at hv
 . rename_i y f n lo hi k w;cases hv;replace hq:=cO hq;obtain⟨⟨h1,h2,h3,h4,h5,h6,-⟩,hq⟩:=hq;rw[ao]at h2 h3;rw[bX]at h1;rw[gX]at h4;rw[aq]at h5 h6;subst h2 h3;simp only[aH,Tr.wp]at hq;have e0:kV (12*y+f-1)=aG y f:=by
    unfold kV;rw[show dc (12*y+f-1) 12=y by unfold dc;omega,show d8 (12*y+f-1) 12+1=f by unfold d8;omega]
   have b0:=@mst_bd y f h1 h4.1 (by omega);refine ia vW rfl rfl ai (ι:={k:Nat // (k:Int)<=n}) (λx=>[.a .i64 y,.g 14 0,.a .i64 f,.a .i64 n,.a .i64 lo,.a .i64 (kV (12*y+f-1+x.1)-1),.a .i64 x.1]) (λ_=>⟨2,[.a w true none,.a [.a .i8 0,.a .i64 0,.a .i8 0,.a .i64 0] true none],[]⟩) (λx=>(n-x.1).toNat) 2 (λ_=>Α _) (λx J=>?_) (Α _) (λJ=>Wk.a0 ⟨⟨0,by omega⟩,J,by dsimp only;rw[show 12*y+f-1+((0:Nat):Int)=12*y+f-1 by omega];rfl⟩) J;obtain⟨k,hk⟩:=x;dsimp only;have hs:=(af1 (12*y+f-1+k)).1;have bk:=EX (12*y+f-1) k;have e1:f+k<=12->dc (12*y+f-1+k) 12=y/\d8 (12*y+f-1+k) 12+1=f+k:=λh=>by unfold dc d8;omega
   have e2:12<f+k->dc (12*y+f-1+k) 12=y+1/\d8 (12*y+f-1+k) 12+1=f+k-12:=λh=>by unfold dc d8;omega
   refine jJ (bE 117017022424) (R:=λQ=>(λ(B C E F G O P:AV)(H:Bool)(A I N:Int)=>(λ(Y:AV)(T V W:Bool)(U Z:Int)=>(λ(u0:Int)=>(H->af .i64 A/\(T->af .i64 U/\V/\V/\af .i64 u0/\W/\Q (.a,[B,C,E,F,G,.a .i64 u0,Y],⟨2,[.a w true none,.a [O,P,O,P] true none],[]⟩))/\(T=false->af .i64 y/\af .i64 Z/\W/\Q (.a,[B,C,E,F,G,.a .i64 Z,Y],⟨2,[.a w true none,.a [O,P,O,P] true none],[]⟩)))/\(H=false->Q (.b 0,[B,C,E,F,G,.a .i64 (kV (12*y+f-1+k)-1),.a .i64 k],⟨2,[.a w true none,.a [O,P,O,P] true none],[]⟩))) (τ (kV (12*y+f-1+k)-1) (d6 I U))) (.a .i64 N) (not (ab A 12)) (af .i64 I) (af .i64 N) (Ε A 12) (τ (kV (12*y+f-1+k)-1) (d6 y A))) (.a .i64 y) (.g 14 0) (.a .i64 f) (.a .i64 n) (.a .i64 lo) (.a .i8 0) (.a .i64 0) (not (ab n k)) (τ f k) (τ y 1) (τ k 1)) (λ_=>by kernel_rfl) λQ' hQ=>?_;try dsimp only
   have m1:=jk y (f+k);have m2:=jk (y+1) (f+k-12);have next:∀x:Int,k<n->x=kV (12*y+f-1+k+1)-1->∃z:{k:Nat // (k:Int)<=n},(n-z.1).toNat<(n-k).toNat/\VW cfg (Cw cfg []) 2 49 [0,4,5,6,7,8,9] [.a .i64 y,.g 14 0,.a .i64 f,.a .i64 n,.a .i64 lo,.a .i64 x,.a .i64 (k+1)] ⟨2,[.a w true none,.a [.a .i8 0,.a .i64 0,.a .i8 0,.a .i64 0] true none],[]⟩ [.a .i64 y,.g 14 0,.a .i64 f,.a .i64 n,.a .i64 lo,.a .i64 (kV (12*y+f-1+z.1)-1),.a .i64 z.1] ⟨2,[.a w true none,.a [.a .i8 0,.a .i64 0,.a .i8 0,.a .i64 0] true none],[]⟩:=λx hk h=>by
    subst h;exact⟨⟨k+1,by omega⟩,by dsimp only;omega,VW.b0 (by dsimp only;rw[show 12*y+f-1+((k+1:Nat):Int)=12*y+f-1+k+1 by omega];rfl) rfl⟩
   have fin:(k:Int)=n->Q (.b 0,[.a .i64 y,.g 14 0,.a .i64 f,.a .i64 n,.a .i64 lo,.a .i64 (kV (12*y+f-1+k)-1),.a .i64 k],⟨2,[.a w true none,.a [.a .i8 0,.a .i64 0,.a .i8 0,.a .i64 0] true none],[]⟩):=λh=>by rw[h];exact hq
   clear hq;rw[hs]at next;have next1:=λx (h:f+k<=12)=>by have:=next x;rw[(e1 h).1,(e1 h).2]at this;exact this
   have next2:=λx (h:12<f+k)=>by have:=next x;rw[(e2 h).1,(e2 h).2]at this;exact this
   clear next e1 e2 hs;generalize kV (12*y+f-1+k)=H at *;generalize d6 y (f+k)=l1 at *;generalize d6 (y+1) (f+k-12)=l2 at *;simp only[az,reduceCtorEq]
   (repeat' first|exact trivial|refine⟨?_,?_⟩|intro)<;>first|omega|refine hQ _ ?_
   . exact next2 _ (by omega) (by omega) (by omega)
   . exact next1 _ (by omega) (by omega) (by omega)
   . exact⟨_,_,VW.a0,fin (by omega)⟩
 . cases hv
theorem WS(h:21<=c/\c<=41):σ [AV.a .i64 3,AV.a .i64 6,AV.a .i64 9,AV.a .i64 12,AV.a .i64 3,AV.a .i64 6,AV.a .i64 9,AV.a .i64 12,AV.a .i64 9,AV.a .i64 12,AV.a .i64 3,AV.a .i64 6,AV.a .i64 1,AV.a .i64 4,AV.a .i64 7,AV.a .i64 10,AV.a .i64 1,AV.a .i64 5,AV.a .i64 9,AV.a .i64 1,AV.a .i64 7] (0+(Ε c 21).toNat*1) (AV.d [])=.a .i64 (fR c):=by
 rcases oJ h with rfl|rfl|rfl|rfl|rfl|rfl|rfl|rfl|rfl|rfl|rfl|rfl|rfl|rfl|rfl|rfl|rfl|rfl|rfl|rfl|rfl<;>rfl
theorem VY(h:21<=c/\c<=41):(39<c->mR c=6)/\(36<c/\c<=39->mR c=4)/\(c<=36->mR c=3):=by
 rcases oJ h with rfl|rfl|rfl|rfl|rfl|rfl|rfl|rfl|rfl|rfl|rfl|rfl|rfl|rfl|rfl|rfl|rfl|rfl|rfl|rfl|rfl<;>decide
theorem Wu(hS:ak Tryz.prog cfg S):ak Tryz.prog cfg (d5 S 159 K0):=by
 refine au hS λargs t v he hv=>?_;unfold K0 at he;split at he
 . rename_i y c;cases he;replace hv:=aF hv;obtain⟨⟨h1,h2,h3,-⟩,hv⟩:=hv;cases hv;have h1':=bX.1 h1;rw[mg]at h2;obtain⟨⟨f1,f2⟩,n1,n2⟩:=xH h2;refine kA vW (L:=LF) Sj (by simp) (dv Ox λi hi e he st Q hw=>?_) (jJ (bE 111111544021115440240044203111115440211154402400442011111544021115440240044204447) (R:=λQ=>(λ(B F U V W Y u7:AV)(A u8 u9:Bool)(T:Int)=>(λ(ua:Nat)(ub:Prop)=>(λ(uc:AV)=>(λ(ud:Bool)(C:Int)=>(λ(E G:Bool)(H ue:Int)=>(λ(u0:AV)(I:Bool)(Z uf:Int)(u1 u2:Prop)=>(λ(N O P:Bool)(u3:Prop)=>(λ(u4 u5 u6 ug uh ui:Prop)=>af .i64 T/\ab 0 T/\aS ua 21/\(ud->(u8->(u9->A/\(E->(G->(N->A/\(O->ug)/\u4)/\(u5->A/\(P->ug)/\u6))/\u1)/\u2)/\(ub->A/\(E->(G->(N->A/\(O->uh)/\u4)/\(u5->A/\(P->uh)/\u6))/\u1)/\u2))/\(u8=false->ub/\A/\(E->(G->(N->A/\(O->ui)/\u4)/\(u5->A/\(P->ui)/\u6))/\u1)/\u2))/\(ud=false->False)) (O=false->False) (N=false) (P=false->False) ((I->(∀J1:Nat->Value,Q (.h [B,u0,B,.a .i64 (ς (kV (π H 6)) 1)])))/\u3) ((I->(∀J1:Nat->Value,Q (.h [B,u0,B,.a .i64 (ς (kV (π H 4)) 1)])))/\u3) ((I->(∀J1:Nat->Value,Q (.h [B,u0,B,.a .i64 (ς (kV (π H 3)) 1)])))/\u3)) (af .i64 Z) (aa Z uf) (aa (IntKind.wrap .i64 Z) uf) (I=false->False)) (.a .i64 ue) (and E (ab C 12)) (Ε ue 1) (ς (kV H) 1) (G=false->False) (E=false->False)) (ab 1 C) (ab C 13) (ς (π (HMul.hMul 12 y) C) 1) (ς (π (aG y C) 1) 1)) (eB .i64 uc) (dx uc)) (σ [U,V,F,W,U,V,F,W,F,W,U,V,Y,.a .i64 4,u7,.a .i64 10,Y,.a .i64 5,F,Y,u7] (π 0 (HMul.hMul ua 1)) (.d []))) T.toNat (u9=false)) (.a .i8 0) (.a .i64 9) (.a .i64 3) (.a .i64 6) (.a .i64 12) (.a .i64 1) (.a .i64 7) (and (ab (Neg.neg 10000000000000000) y) (ab y 10000000000000000)) (not (ab c 36)) (not (ab c 39)) (Ε c 21)) (λ_=>by kernel_rfl) λQ' hQ=>?_) (by rfl)
   . have hi:i=0:=by grind
     subst hi;cases he;exact bR (cC.a0 vW) (by decide) rfl Yw hw
   . try dsimp only
     have hs:=(af1 (12*y+fR c-1+(mR c-1))).2;rw[show 12*y+fR c-1+(mR c-1)+1=12*y+fR c-1+mR c by omega,show 12*y+fR c-1+(mR c-1)=12*y+(fR c-1)+(mR c-1)by omega]at hs;have e0:kV (12*y+fR c-1)=aG y (fR c):=by
      unfold kV;rw[show dc (12*y+fR c-1) 12=y by unfold dc;omega,show d8 (12*y+fR c-1) 12+1=fR c by unfold d8;omega]
     have b0:=@mst_bd y (fR c) h1' f1 (by omega);have i0:∀n:Int,dx (.a .i64 n)=n:=λ_=>rfl;have ka:∀n:Int,eB .i64 (.a .i64 n)=true:=λn=>rfl;obtain⟨m1,m2,m3⟩:=VY h2;rw[WS h2];simp only[i0,ka];have fin:∀n:Int,n=mR c->Q' (vR (aG y (fR c)) (kV (12*y+fR c-1+n)-1)):=λn h=>by
      rw[h,hs];exact hQ _ rfl
     unfold vR at fin;clear hQ hs;rw[e0];simp only[az,reduceCtorEq];rw[show aG y (fR c)+1-1=aG y (fR c)by omega]
     (repeat' first|exact trivial|refine⟨?_,?_⟩|intro)<;>first|omega|exact fin _ (by omega)|(rename_i h;rw[bX.2 h1']at h;exact h)|(rename_i h;rw[gX.2 ⟨f1,f2⟩]at h;cases h)|(rename_i h;rw[bX.2 h1']at h;cases h)
 . cases he
theorem ju{m d:Int}:kY y m d=true↔(-10000000000000000<=y/\y<=10000000000000000)/\(0<=d/\d<=31)/\(m=0\/(1<=m/\m<=12)\/(21<=m/\m<=41)/\eO (fq y m)=true):=by
 grind [kY,bX,ao,gX,aq,mg]
theorem UJ(hS:ak Tryz.prog cfg S):ak Tryz.prog cfg (d5 S 87 s9):=by
 refine au hS λargs t v he hv=>?_;unfold s9 at he;split at he
 . rename_i y m d;cases he;obtain⟨h1,hv'⟩:=eL hv;clear hv;have hv:=hv';clear hv'
   cases hv;obtain⟨hy,hd,hm⟩:=ju.1 h1;have hm1:0<=m/\m<=41:=by omega
   have bl:0<=iE y/\iE y<=1:=Go.Proofs.YtcffhjfdlflbgaaGreatDoor.lp_01 y;have b1:=@rm y hy.1 (by omega);have b2:1<=m->m<=12->-3652425000000000001<=aG y m/\aG y m<=3652425000000000800:=λk1 k2=>mst_bd hy k1 (by omega);have hn:=jk y m;have ys:bf (y+1)=bf y+365+iE y:=Go.Proofs.YtcffhjfdlflbgaaGreatDoor.yst_succ y;have ms:1<=m->m<=12->aG y (m+1)=aG y m+d6 y m:=λk1 k2=>p9 k1 k2;have yb:=bX.2 hy;have cb:=@mg m;refine nF (Wu vW) ai (bE 100227022701007000700070410704100220220204) (R:=λQ=>(λ(A N:AV)(B C E F H:Bool)(G I:Int)=>(λ(O P:Int)=>(λ(T:Int)=>(λ(U:Prop->Prop)=>(aa m 0->F/\F/\af .i64 G/\af .i64 y/\af .i64 O/\Q (.h [A,.a .i64 (bf y),A,.a .i64 O]))/\(aa m 0=false->(H->B/\zI m/\eO (fq y m)/\Q (.h [A,.a .i64 (aG y (fR m)),A,.a .i64 (ς (aG (fq y m) (π (kX y m) 2)) 1)]))/\(H=false->(aa d 0->B/\C/\E/\B/\C/\E/\af .i64 y/\af .i64 P/\af .i64 T/\Q (.h [A,.a .i64 I,A,.a .i64 T]))/\(aa d 0=false->U (U (Q (.h [A,N,A,N]))))))) (λu0=>B/\C/\E/\ab 1 d/\ab d 31/\u0)) (Ε P 1)) (τ G (iE y)) (τ I (d6 y m))) (.a .i8 0) (.a .i64 (ς (π (aG y m) d) 1)) (eO y) (ab 1 m) (ab m 13) (and (ab (Neg.neg 10000000000000000) y) (ab y 10000000000000001)) (not (ab m 12)) (τ (bf y) 364) (ς (π (aG y m) 1) 1)) (λ_=>by rfl) (hi:=(by rfl)) λQ' hQ=>?_;try dsimp only
   unfold vR iO iD at hQ;rw[yb];generalize fq y m=sy at *;generalize kX y m=sm at *;generalize aG y (fR m)=k1 at *;generalize aG sy (sm+2)=k2 at *;cases hm0:aa m 0 with
   | true=>
     rw[hm0,cond_true,cond_true,ys]at hQ;rw[ao]at hm0;simp only[az,reduceCtorEq];grind
   | false=>
     rw[hm0,cond_false,cond_false]at hQ;rw[aw]at hm0;cases h13:ab 13 m with
     | true=>
       grind [aq]
     | false=>
       rw[h13,cond_false,cond_false]at hQ;rw[bF]at h13;have e:=ms (by omega) (by omega);have b2:=b2 (by omega) (by omega);cases hd0:aa d 0 with
       | true=>
         simp_all [az];omega
       | false=>
         simp_all [az];omega
 grind
def yq:aQ:=d5 R7 229 Nz
theorem amZ(ng lg:Bool)(s:List UInt8)(e g:Int)(mo da:List UInt8)(a b c y m d:Int){Q:AV->Prop}:gG Q (pT yq jE 147 [.h [.b ng,.b lg,.e s,.a .i64 e,.a .i64 g,.e mo,.e da,.a .u8 a,.a .u8 b,.a .u8 c],.h [.a .i64 y,.a .i64 m,.a .i64 d]]) (bE 1052020020)=((λ(A:AV)=>ae mo []/\eO y/\eO y/\Q (.d [.h [A,.a .i64 (bf y),A,.a .i64 (ς (bf (π y 1)) 1)],.a .i64 0])) (.a .i8 0)):=by rfl
theorem anE(ng lg:Bool)(s:List UInt8)(e g:Int)(mo da:List UInt8)(a b c y m d:Int){Q:AV->Prop}:gG Q (pT yq jE 147 [.h [.b ng,.b lg,.e s,.a .i64 e,.a .i64 g,.e mo,.e da,.a .u8 a,.a .u8 b,.a .u8 c],.h [.a .i64 y,.a .i64 m,.a .i64 d]]) (bE 1000220220220220201000220220204010104220004030)=((λ(A B:AV)(G H I:Bool)(N:Int)=>(λ(O:Bool)(P:Int)=>(λ(T:Bool)(E:Int)=>(λ(C:Bool)(F:Int)=>(λ(U:Int)=>(λ(V:Int)=>(λ(W:Bool)(Y:Int)=>(λ(u0:AV)(Z:Bool)=>ae mo []=false/\(G->eO y/\zI m/\(H->Q (.d [.h [A,.a .i64 (aG y (fR m)),A,.a .i64 (ς (aG (fq y m) (π (kX y m) 2)) 1)],B]))/\(H=false->Q (.d [.h [A,B,A,B],.a .i64 6])))/\(G=false->(I->O/\T/\C/\C/\eO F/\Q (.d [.h [A,.a .i64 U,A,.a .i64 (ς (aG F (π (j8 E) 2)) 1)],B]))/\(I=false->O/\T/\C/\C/\eO F/\W/\Z/\W/\Z/\Q (.d [.h [A,u0,A,u0],B])))) (.a .i64 Y) (af .i64 Y)) (af .i64 V) (Ε V 1)) (τ U d)) (aG F (π (j8 E) 1))) (af .i64 E) (dc E 12)) (af .i64 P) (Ε P 1)) (af .i64 N) (τ N m)) (.a .i8 0) (.a .i64 0) (not (ab m 12)) (eO (fq y m)) (ae da []) (Int.mul 12 y)):=by rfl
theorem afC:ec tab 147=some (dH 147,aL 147):=by rfl
theorem J6:ak Tryz.prog cfg yq:=MA yF
theorem Dj(s t:List UInt8)(a b:Int):eC (s++t) a b=eC s a b+eC t a b:=by
 grind [eC]
theorem Oo(h:eC s 88 88=0):∀c∈s,c.toNat≠88:=λc hc h88=>by
 grind [eC,List.filter_eq_nil_iff]
theorem Yz{mo t:List UInt8}{r:Int}(h1:H4 t/\XR t=c)(h2:r=0\/(H4 mo/\XR mo=r)):(bif ae mo t then c else r)=0\/(H4 mo/\XR mo=bif ae mo t then c else r):=by
 cases hb:ae mo t<;>grind [bV]
theorem L6(mo:List UInt8):aR mo=0\/(H4 mo/\XR mo=aR mo):=by
 unfold aR
 (repeat' refine Yz ⟨by decide,by decide⟩ ?_)
 simp
theorem N_(hc:21<=c/\c<=41)(hy : -10000000000000000<=y/\y<=10000000000000000)(h:(c≠24/\c≠28/\c≠30)\/y≠10000000000000000):eO (fq y c)=true:=by
 obtain⟨h1,h2,h3⟩:=KJ hc;grind [bX,fq,dc]
theorem Gx{m d:Int}(h:kY y m d) : -3652425000000000002<=iO y m d/\iO y m d<=iD y m d/\iD y m d<=3652425000000002000:=by
 obtain⟨hy,hd,hm⟩:=ju.1 h;unfold iO iD;cases hm0:aa m 0 with
 | true=>
   have b1:=@rm y hy.1 (by omega);have ys:bf (y+1)=bf y+365+iE y:=Go.Proofs.YtcffhjfdlflbgaaGreatDoor.yst_succ y;have bl:0<=iE y/\iE y<=1:=Go.Proofs.YtcffhjfdlflbgaaGreatDoor.lp_01 y;grind
 | false=>
   rw[aw]at hm0;simp only[cond_false];cases h13:ab 13 m with
   | true=>
     rw[aq]at h13;simp only[cond_true];have hc:21<=m/\m<=41:=by omega
     obtain⟨⟨f1,f2⟩,n1,n2⟩:=xH hc;have b0:=@mst_bd y (fR m) hy f1 (by omega);have hs:=(af1 (12*y+fR m-1+(mR m-1))).2;rw[show 12*y+fR m-1+(mR m-1)+1=12*y+fR m-1+mR m by omega,show 12*y+fR m-1+(mR m-1)=12*y+(fR m-1)+(mR m-1)by omega]at hs;have e0:kV (12*y+fR m-1)=aG y (fR m):=by
      grind [kV,dc,d8]
     have bk:=EX (12*y+fR m-1) (mR m).toNat;grind [fq,kX]
   | false=>
     rw[bF]at h13;simp only[cond_false];have b2:=@mst_bd y m hy (by omega) (by omega);have e:=@p9 y m (by omega) (by omega);have hn:=jk y m;grind
theorem yR:aN (bf y)=y/\aN (bf (y+1)-1)=y:=by
 have ys:bf (y+1)=bf y+365+iE y:=Go.Proofs.YtcffhjfdlflbgaaGreatDoor.yst_succ y;have bl:0<=iE y/\iE y<=1:=Go.Proofs.YtcffhjfdlflbgaaGreatDoor.lp_01 y;refine⟨Go.Proofs.YtcffhjfdlflbgaaGreatDoor.yOf_unique (Int.le_refl _) ?_,Go.Proofs.YtcffhjfdlflbgaaGreatDoor.yOf_unique ?_ ?_⟩<;>grind [bf]
theorem eF(h:a<=b):bf a<=bf b:=Go.Proofs.YtcffhjfdlflbgaaGreatDoor.yst_le h
theorem n9:bf (-10000000000000000) = -3652425000000000000/\bf 10000000000000000=3652425000000000000:=by decide
abbrev Um:List UInt8:=[ν 48,ν 49,ν 50,ν 51,ν 52,ν 53,ν 54,ν 55,ν 56,ν 57]
def Bc(k:Int):UInt8:=Um.getD k.toNat 0
def d0(n:Int):UInt8:=Bc (n%10000/1000)
def d1(n:Int):UInt8:=Bc (n%10000/100%10)
def d2(n:Int):UInt8:=Bc (n%10000/10%10)
def d3(n:Int):UInt8:=Bc (n%10000%10)
theorem tY{k:Int}(h:0<=k/\k<=9):k=0\/k=1\/k=2\/k=3\/k=4\/k=5\/k=6\/k=7\/k=8\/k=9:=by omega
theorem oZ{k:Int}(h:0<=k/\k<=9):((Bc k).toNat:Int)=48+k:=by
 rcases tY h with rfl|rfl|rfl|rfl|rfl|rfl|rfl|rfl|rfl|rfl<;>rfl
def Rh(a b n:Int):List UInt8:=[bif aa 0 a || aa 0 b then ν 88 else d0 n,bif aa 1 a || aa 1 b then ν 88 else d1 n,bif aa 2 a || aa 2 b then ν 88 else d2 n,bif aa 3 a || aa 3 b then ν 88 else d3 n]
def I3(n z0:Int):List UInt8:=[Bc (z0%9+1),d0 n,d1 n,d2 n,d3 n]
def gw(f n z0 z1:Int):List UInt8:=bif aa (f%6) 3 then Rh (z0%4) (z1%4) n else bif aa (f%6) 5 then(bif ab (z1%3) 0 then I3 n z0 else Β (1+z1%5).toNat (I3 n z0))else[d0 n,d1 n,d2 n,d3 n]
def kQ(f z1:Int):Int:=bif aa (f%6) 5 then(bif ab (z1%3) 0 then 0 else 1+z1/16%11)else 0
def dr(f n z0 z1:Int):Int:=bif aa (f%6) 4 then 1+z0%4 else bif aa (f%6) 5 then z0/16%(ξ (gw f n z0 z1).length+kQ f z1+1)else 0
def sY(f:Int):Bool:=aa (f%6) 5
def qV(f:Int)(ng:Bool)(n z0 z1:Int):Bool:=ng&&aV ng (sY f) (gw f n z0 z1) (kQ f z1) (dr f n z0 z1)
def XN:List (List UInt8):=[[ν 48,ν 88],[ν 49,ν 88],[ν 88,ν 50],[ν 88,ν 88],[ν 88,ν 48],[ν 88,ν 57]]
def XO:List (List UInt8):=[[ν 48,ν 88],[ν 49,ν 88],[ν 50,ν 88],[ν 51,ν 88],[ν 88,ν 48],[ν 88,ν 49],[ν 88,ν 88],[ν 88,ν 56]]
def Av(k:Int):List UInt8:=bif aa k 0 then[]else bif ab k 12 then pZ k else bif ab k 33 then pZ (k+8)else XN.getD (k-34).toNat []
def WP(mo:List UInt8):Bool:=ae mo [ν 48,ν 52] || (ae mo [ν 48,ν 54] || (ae mo [ν 48,ν 57] || (ae mo [ν 49,ν 49] || ae mo [ν 88,ν 57])))
def JS(mo:List UInt8):Int:=bif ae mo [ν 48,ν 50]then 28 else bif WP mo then 30 else 31
def Gt(k:Int)(mo:List UInt8):List UInt8:=bif aa k 0 then[]else bif ab k 31 then pZ (gY k (JS mo))else XO.getD (bif ae mo [ν 48,ν 50]&&aa k 35 then 2 else(k-32).toNat) []
def jZ(f n z0 z1 m:Int):List UInt8:=bif aa (dr f n z0 z1) 0 then Av (m%40)else[]
def nY(f n z0 z1 m d:Int):List UInt8:=bif !(ae (jZ f n z0 z1 m) [])&&aa (aR (jZ f n z0 z1 m)) 0 then Gt (d%40) (jZ f n z0 z1 m)else[]
def Em(c:Int)(i x:Int):Int:=bif ab c i then 0 else x%4
def acx(r s:Rn):Bool:=ο (ο (aa r.a s.a) (ο (aa r.b s.b) υ)) (ο (ο (aa r.c s.c) (ο (aa r.d s.d) υ)) υ)
def mh:List Rn->List Rn->Bool
 | [],[]=>true
 | r::rs,s::ss=>acx r s&&mh rs ss
 | _,_=>false
def CT(R1 R2:List Rn):dW:=λ
 | [.c 14 0 n k,.c 15 0 n' k',.a .i64 z,.a .i64 i],⟨0,[],[]⟩=>some (aH [Nat.ble n 1000,Δ R1.length n,Δ R2.length n,Δ n' n,aa i 0,aa z 0] (.d0 (mh R1 R2) λb=>bif b then .a0 (.b 0,[.c 14 0 n k,.c 15 0 n' k',.a .i64 0,.a .i64 (ξ n)],dO)else .f0 λJ=>.a0 (.c,[.c 14 0 n k,.c 15 0 n' k',.a .i64 0,.j (J 0)],dO)))
 | _,_=>none
def LN(R1 R2:List Rn):cx:=iz jE 0 (d9 26 [0,1,4,5] (CT R1 R2))
theorem ao7{Q:AV->Prop}:gG Q (pW gZ jE [] 38 [.f,.f]) (.e (.e .z))=(Q (.a .i64 1)):=by rfl
theorem ahG:ec tab 38=some (dH 38,aL 38):=by rfl
theorem ajj:(bz (aL 38)).map (·.1)=[0]:=by rfl
theorem aif{r s:Rn}:acx r s=true↔r=s:=by
 obtain⟨a,b,c,d⟩:=r;obtain⟨a',b',c',d'⟩:=s;grind [acx,ao]
theorem ae5:∀{R S:List Rn},R.length=S.length->(mh R S=true↔∀j,j<R.length->acx (R.getD j ek) (S.getD j ek)=true)
 | [],[],_=>⟨λ_ j hj=>absurd hj (Nat.not_lt_zero j),λ_=>rfl⟩
 | r::rs,s::ss,h=>by
   have ih:=ae5 (R:=rs) (S:=ss) (by grind);rw[mh,zAa,ih];constructor
   . grind
   . intro h0;exact⟨h0 0 (Nat.succ_pos _),λj hj=>h0 (j+1) (by grind)⟩
theorem af2:∀{R S:List Rn},R.length≠S.length->mh R S=false
 | [],[],h=>absurd rfl h
 | [],_::_,_=>rfl
 | _::_,[],_=>rfl
 | r::rs,s::ss,h=>by rw[mh,af2 (R:=rs) (S:=ss) (by grind),Bool.and_false]
theorem aeo:∀{R:List Rn},mh R R=true
 | []=>rfl
 | r::rs=>by rw[mh,aif.2 rfl,aeo (R:=rs)];rfl
theorem acl{R1 R2:List Rn}:∀x∈[cD.a (bh R1) false none,cD.a (bh R2) false none],cR 14 x:=λx hx=>by
 grind [aO,sR]
theorem apI{R1 R2:List Rn}:cu Tryz.prog (cH cfg gZ) (Cw cfg [.a (bh R1) false none,.a (bh R2) false none]) (lb 38 0) 26 [0,1,4,5] (CT R1 R2):=by
 have hw:=@acl R1 R2;intro vs o t Q hv hq J;unfold CT at hv;split at hv
 . rename_i n k n' k' z i;cases hv;replace hq:=cO hq;obtain⟨⟨h1,h2,h3,h4,h5,h6,-⟩,hq⟩:=hq;rw[al]at h1;rw[aJ]at h2 h3 h4;rw[ao]at h5 h6;subst h2 h4 h5 h6;simp only[aH,Tr.wp]at hq;refine ia aW rfl rfl ai (ι:={i:Nat // i<=R1.length/\∀j,j<i->acx (R1.getD j ek) (R2.getD j ek)}) (λx=>[.c 14 0 R1.length k,.c 15 0 R1.length k',.a .i64 0,.a .i64 (ξ x.1)]) (λ_=>dO) (λx=>R1.length-x.1) 0 (λ_=>Α _) (λx J=>?_) (Α _) (λJ=>Wk.a0 ⟨⟨0,Nat.zero_le _,λj hj=>absurd hj (Nat.not_lt_zero j)⟩,J,rfl⟩) J;obtain⟨i,hi,hz⟩:=x;dsimp only;refine jJ (bE 11214227022704) (R:=λQ=>(λ(A G H I:AV)(B:Int)(C:Nat)=>(λ(O P:AV)(N:Bool)(T:Int)(E:Nat)=>(λ(U V:AV)(F:Nat)=>(λ(W Z:AV)(Y:Nat)=>(λ(u0 u1:AV)=>(λ(u2:Bool)=>(N->aS i R1.length/\eB .i8 O/\eB .i64 U/\eB .i8 W/\eB .i64 u0/\aS i R1.length/\eB .i8 P/\eB .i64 V/\eB .i8 Z/\eB .i64 u1/\(u2->Q (.c,[G,H,I,.a .i64 B],⟨0,[],[]⟩))/\(u2=false->af .i64 T/\Q (.a,[G,H,I,.a .i64 T],⟨0,[],[]⟩)))/\(N=false->Q (.b 0,[G,H,I,.a .i64 B],⟨0,[],[]⟩))) (not (and (and (aa (dx O) (dx P)) (and (aa (dx U) (dx V)) true)) (and (and (aa (dx W) (dx Z)) (and (aa (dx u0) (dx u1)) true)) true)))) (σ (bh R1) Y A) (σ (bh R2) Y A)) (σ (bh R1) F A) (σ (bh R2) F A) (π F 1)) (σ (bh R1) E A) (σ (bh R2) E A) (π E 1)) (σ (bh R1) C A) (σ (bh R2) C A) (not (ab (ξ R1.length) B)) (τ B 1) (π C 1)) (.d []) (.c 14 0 R1.length k) (.c 15 0 R1.length k') (.a .i64 0) (ξ i) (π 0 (HMul.hMul i 4))) (λ_=>by rfl) λQ' hQ=>?_;try dsimp only
   try dsimp only
   have yes:i<R1.length->acx (R1.getD i ek) (R2.getD i ek)=false->∀J:Nat->Value,Q (.c,[.c 14 0 R1.length k,.c 15 0 R1.length k',.a .i64 0,.j (J 0)],dO):=λhlt he J2=>by
    have hc:mh R1 R2=false:=by
     grind [ae5]
    rw[hc]at hq;exact hq J2
   have no:i=R1.length->Q (.b 0,[.c 14 0 R1.length k,.c 15 0 R1.length k',.a .i64 0,.a .i64 (ξ R1.length)],dO):=λhe=>by
    subst he;have hc:mh R1 R2=true:=(ae5 h3.symm).2 hz;rw[hc]at hq;exact hq
   have next:acx (R1.getD i ek) (R2.getD i ek)->∀j,j<i+1->acx (R1.getD j ek) (R2.getD j ek)=true:=λh j hj=>by
    grind
   clear hq;by_cases hlt:i<R1.length
   . obtain⟨f1,f2,f3,f4⟩:=wH hlt;obtain⟨g1,g2,g3,g4⟩:=wH (R:=R2) (i:=i) (by omega);have ret:acx (R1.getD i ek) (R2.getD i ek)=false->∃vs2 o2,VW cfg (Cw cfg [.a (bh R1) false none,.a (bh R2) false none]) 0 26 [0,1,4,5] [.c 14 0 R1.length k,.c 15 0 R1.length k',.a .i64 0,.a .i64 (ξ i)] dO vs2 o2/\Q (.c,vs2,o2):=λhe=>⟨_,_,VW.c0 (.a0 (.a0 (.a0 (.b0 .c0)))) rfl,yes hlt he (jv [_])⟩;have go:acx (R1.getD i ek) (R2.getD i ek)->∃y:{i:Nat // i<=R1.length/\∀j,j<i->acx (R1.getD j ek) (R2.getD j ek)},R1.length-y.1<R1.length-i/\VW cfg (Cw cfg [.a (bh R1) false none,.a (bh R2) false none]) 0 26 [0,1,4,5] [.c 14 0 R1.length k,.c 15 0 R1.length k',.a .i64 0,.a .i64 (τ (ξ i) 1)] dO [.c 14 0 R1.length k,.c 15 0 R1.length k',.a .i64 0,.a .i64 (ξ y.1)] dO:=λh0=>⟨⟨i+1,by omega,next h0⟩,by grind,VW.a0⟩;clear yes no next hz;simp only[Nat.add_assoc,Nat.reduceAdd,Nat.zero_add,Nat.add_zero,f1,f2,f3,f4,g1,g2,g3,g4,eB,dx,zb,abw]at *;generalize R1.getD i ek=r at *;generalize R2.getD i ek=s at *;have l1:ab (ξ R1.length) (ξ i)=false:=by grind [bF]
     have l2:aS i R1.length=true:=aU.2 hlt;have l3:af .i64 (τ (ξ i) 1)=true:=by rw[aE];simp only[eH,eE];show _<=(i:Int)+1/\(i:Int)+1<=_;omega
     have e:acx r s=ο (ο (aa r.a s.a) (ο (aa r.b s.b) υ)) (ο (ο (aa r.c s.c) (ο (aa r.d s.d) υ)) υ):=rfl;rw[l1,l2,l3,<-e];cases he:acx r s with
     | false=>simp only[az,reduceCtorEq,ω,χ];(repeat' first|exact trivial|refine⟨?_,?_⟩|intro)<;>first|contradiction|omega|(refine hQ _ ?_;exact ret he)
     | true=>simp only[az,reduceCtorEq,ω,χ];(repeat' first|exact trivial|refine⟨?_,?_⟩|intro)<;>first|contradiction|omega|(refine hQ _ ?_;exact go he)
   . obtain rfl:i=R1.length:=by omega
     have no:=no rfl;have l1:ab (ξ R1.length) (ξ R1.length)=true:=by rw[aq];exact Int.le_refl _
     rw[l1];simp only[reduceCtorEq,zAh,ω,χ];exact hQ _ ⟨_,_,VW.a0,no⟩
 . cases hv
theorem anU{R1 R2:List Rn}{k k':fg}(h1:R1.length<=1000):bu Tryz.prog cfg 38 [.c 14 0 R1.length k,.c 15 0 R2.length k'] [.a (bh R1) false none,.a (bh R2) false none] (.a .i64 (bI (mh R1 R2))) []:=by
 refine P0 aW (L:=LN R1 R2) acl ahG (by simp) (dv ajj λi hi e he st Q hw=>?_) (jJ (bE 114002714) (R:=λQ=>(λ(A:Bool)(B:Prop)=>(A->B)/\(A=false->Nat.ble R1.length 1000/\Δ R1.length R1.length/\Δ R2.length R1.length/\Δ R2.length R1.length/\(mh R1 R2->(∀J1:Nat->Value,Q (.a .i64 1)))/\(mh R1 R2=false->(∀J1 J2:Nat->Value,B)))) (not (aa (ξ R1.length) (ξ R2.length))) (Q (.a .i64 0))) (λ_=>by rfl) λQ' hQ=>?_) (by rfl)
 . have hi:i=0:=by grind
   subst hi;cases he;exact bR (cC.a0 aW) (by decide) rfl apI hw
 . have hQ:=hQ _ rfl;try dsimp only
   by_cases hl:R1.length=R2.length
   . have e1:aa (ξ R1.length) (ξ R2.length)=true:=ao.mpr (by rw[hl]);have e2:Nat.ble R1.length 1000=true:=by simp_all
     have e3:Δ R1.length R1.length=true:=gm rfl;have e4:Δ R2.length R1.length=true:=gm hl.symm;have e5:aa (ξ R1.length) (ξ R1.length)=true:=ao.mpr rfl;simp only[e1,e2,e3,e4,e5];cases he:mh R1 R2<;>rw[he]at hQ<;>simp only[reduceCtorEq,zAh,ω,χ]<;>(intros;exact hQ)
   . have e1:aa (ξ R1.length) (ξ R2.length)=false:=aw.mpr λh=>hl (Int.ofNat.inj h);rw[af2 hl]at hQ;simp only[e1,reduceCtorEq,zAh,ω,χ];exact hQ
theorem mN{c:UInt8}:eC (c::s) a b=(if a<=(c.toNat:Int)/\(c.toNat:Int)<=b then 1 else 0)+eC s a b:=by
 grind [eC]
theorem rg:eC [] a b=0:=rfl
theorem G8{n:Int}:(48<=(d0 n).toNat/\(d0 n).toNat<=57)/\(48<=(d1 n).toNat/\(d1 n).toNat<=57)/\(48<=(d2 n).toNat/\(d2 n).toNat<=57)/\(48<=(d3 n).toNat/\(d3 n).toNat<=57):=by
 grind [oZ,d0,d1,d2,d3]
theorem numL_lt:∀(s:List UInt8) (n:Nat),dV s->s.foldl (λn b=>n*10+(b.toNat-48)) n<(n+1)*10^s.length
 | [],n,_=>by simp
 | b::r,n,h=>by
   have hb:=@pz (b::r) h 0 (by simp);have hb:48<=b.toNat/\b.toNat<=57:=hb;have hr:dV r=true:=by
    grind [dV]
   have ih:=numL_lt r (n*10+(b.toNat-48)) hr;have:(n*10+(b.toNat-48)+1)*10^r.length<=(n+1)*10^(r.length+1):=by
    rw[Nat.pow_succ,<-Nat.mul_assoc,Nat.mul_right_comm];exact Nat.mul_le_mul_right _ (by omega)
   grind
theorem N3{n z0:Int}{k:Nat}(hk:1<=k)(hz:0<=z0):∃t:List UInt8,Β k (I3 n z0)=Bc (z0%9+1)::t/\(∀c∈Β k (I3 n z0),48<=c.toNat/\c.toNat<=57)/\(Β k (I3 n z0)).length<=5/\(k<=5->(Β k (I3 n z0)).length=k):=by
 obtain⟨h0,h1,h2,h3⟩:=@G8 n;have h9:=oZ (k:=z0%9+1) (by omega);unfold I3
 match k,hk with
 | k+1,_=>
   refine⟨Β k [d0 n,d1 n,d2 n,d3 n],rfl,λc hc=>?_,?_,λh=>?_⟩<;>grind
theorem zq(h:∀c∈s,48<=c.toNat/\c.toNat<=57):eC s 48 57=s.length/\eC s 88 88=0:=by
 grind [eC,List.length_filter_eq_length_iff,List.filter_eq_nil_iff]
theorem Ke(h:∀c∈s,48<=c.toNat/\c.toNat<=57):dV s=true:=oV (zq h).1
theorem n7{f n z0 z1:Int}(hz0:0<=z0/\z0<=255)(hz1:0<=z1/\z1<=255) :
 (sY f=false/\kQ f z1=0/\(gw f n z0 z1).length=4/\(∀c∈gw f n z0 z1,(48<=c.toNat/\c.toNat<=57)\/c.toNat=88)/\0<=dr f n z0 z1/\dr f n z0 z1<=4/\(0<dr f n z0 z1->∀c∈gw f n z0 z1,48<=c.toNat/\c.toNat<=57))\/
 (sY f/\(∀c∈gw f n z0 z1,48<=c.toNat/\c.toNat<=57)/\1<=(gw f n z0 z1).length/\(gw f n z0 z1).length<=5/\((gw f n z0 z1).getD 0 0).toNat≠48/\0<=kQ f z1/\kQ f z1<=11/\(kQ f z1=0->(gw f n z0 z1).length=5)/\0<=dr f n z0 z1/\dr f n z0 z1<=(gw f n z0 z1).length+kQ f z1):=by
 obtain⟨h0,h1,h2,h3⟩:=@G8 n;have h9:=oZ (k:=z0%9+1) (by omega);by_cases c5:f%6=5
 . right
   have e5:aa (f%6) 5=true:=ao.mpr c5;have e4:aa (f%6) 4=false:=aw.mpr (by omega);have e3:aa (f%6) 3=false:=aw.mpr (by omega);have key:∀(S:List UInt8) (E:Int),gw f n z0 z1=S->kQ f z1=E->(∃t,S=Bc (z0%9+1)::t)->(∀c∈S,48<=c.toNat/\c.toNat<=57)->S.length<=5->0<=E->E<=11->(E=0->S.length=5)->sY f/\(∀c∈gw f n z0 z1,48<=c.toNat/\c.toNat<=57)/\1<=(gw f n z0 z1).length/\(gw f n z0 z1).length<=5/\((gw f n z0 z1).getD 0 0).toNat≠48/\0<=kQ f z1/\kQ f z1<=11/\(kQ f z1=0->(gw f n z0 z1).length=5)/\0<=dr f n z0 z1/\dr f n z0 z1<=(gw f n z0 z1).length+kQ f z1:=by
    intro S E hS hE ⟨t,ht⟩ hd hl e0 e11 he;have hg:dr f n z0 z1=z0/16%(ξ S.length+E+1):=by grind [dr]
    rw[hS,hE,hg];have hl1:1<=S.length:=by grind
    have hm:0<ξ S.length+E+1:=by grind
    have m0:=Int.emod_nonneg (z0/16) (show ξ S.length+E+1≠0 by omega);have m1:=Int.emod_lt_of_pos (z0/16) hm;grind [sY]
   by_cases c3:z1%3<=0
   . have e0:ab (z1%3) 0=true:=aq.mpr c3;refine key (I3 n z0) 0 (by unfold gw;rw[e3,e5,e0];rfl) (by unfold kQ;rw[e5,e0];rfl) ⟨_,rfl⟩ (λc hc=>?_) (Α _) (by omega) (by omega) (λ_=>rfl);unfold I3 at hc;simp only[List.mem_cons,Γ,or_false]at hc;rcases hc with rfl|rfl|rfl|rfl|rfl<;>first|assumption|omega
   . have e0:ab (z1%3) 0=false:=bF.mpr (by omega);obtain⟨t,t1,t2,t3,t4⟩:=@N3 n z0 (1+z1%5).toNat (by omega) hz0.1;exact key _ (1+z1/16%11) (by unfold gw;rw[e3,e5,e0];rfl) (by unfold kQ;rw[e5,e0];rfl) ⟨t,t1⟩ t2 t3 (by omega) (by omega) (λh=>by omega)
 . left
   have e5:aa (f%6) 5=false:=aw.mpr c5;have hL:sY f=false:=e5;have hE:kQ f z1=0:=by unfold kQ;rw[e5];rfl
   by_cases c3:f%6=3
   . have e3:aa (f%6) 3=true:=ao.mpr c3;have e4:aa (f%6) 4=false:=aw.mpr (by omega);have hS:gw f n z0 z1=Rh (z0%4) (z1%4) n:=by unfold gw;rw[e3];rfl
     have hG:dr f n z0 z1=0:=by unfold dr;rw[e4,e5];rfl
     rw[hS,hG];refine⟨hL,hE,rfl,λc hc=>?_,by omega,by omega,λh=>by omega⟩;unfold Rh at hc;have sp:∀(b:Bool) (d:UInt8),(48<=d.toNat/\d.toNat<=57)->(48<=(bif b then ν 88 else d).toNat/\(bif b then ν 88 else d).toNat<=57)\/(bif b then ν 88 else d).toNat=88:=λb d hd=>by cases b;exact .inl hd;exact .inr rfl
     simp only[List.mem_cons,Γ,or_false]at hc;rcases hc with rfl|rfl|rfl|rfl<;>exact sp _ _ (by assumption)
   . have e3:aa (f%6) 3=false:=aw.mpr c3;have hS:gw f n z0 z1=[d0 n,d1 n,d2 n,d3 n]:=by unfold gw;rw[e3,e5];rfl
     have hd:∀c∈[d0 n,d1 n,d2 n,d3 n],48<=c.toNat/\c.toNat<=57:=λc hc=>by
      simp only[List.mem_cons,Γ,or_false]at hc;rcases hc with rfl|rfl|rfl|rfl<;>assumption
     rw[hS];have hG:0<=dr f n z0 z1/\dr f n z0 z1<=4:=by
      unfold dr;rw[e5];cases aa (f%6) 4<;>simp only[zAj]<;>omega
     exact⟨hL,hE,rfl,λc hc=>.inl (hd c hc),hG.1,hG.2,λ_=>hd⟩
theorem DO:∀{s:List UInt8},(∀c∈s,(48<=c.toNat/\c.toNat<=57)\/c.toNat=88)->eC s 48 57+eC s 88 88=s.length
 | [],_=>rfl
 | c::r,h=>by
   have ih:=DO (s:=r) λd hd=>h d (by grind);grind [mN]
theorem B9(h:∀c∈s,48<=c.toNat/\c.toNat<=57):eC s 88 88=0:=(zq h).2
theorem ER{e:Int}(h:∀c∈s,48<=c.toNat/\c.toNat<=57)(hl:s.length<=5)(he:0<=e/\e<=11):cF s e.toNat<10000000000000000:=by
 have h1:=numL_lt s 0 (Ke h);have h1:numL s<(0+1)*10^s.length:=h1;have h2:(10:Nat)^s.length<=10^5:=Nat.pow_le_pow_right (by decide) hl;have h3:(10:Nat)^e.toNat<=10^11:=Nat.pow_le_pow_right (by decide) (by omega);have h4:(1:Nat)<=10^e.toNat:=Nat.pos_of_ne_zero (by simp);have h5:numL s<10^5:=by omega
 unfold cF;have:numL s*10^e.toNat<10^5*10^e.toNat:=Nat.mul_lt_mul_of_pos_right h5 h4;omega
theorem Tc{f n:Int}(hz0:0<=z0/\z0<=255)(hz1:0<=z1/\z1<=255):aV false (sY f) (gw f n z0 z1) (kQ f z1) (dr f n z0 z1)=true:=by
 grind [aV,n7,DO,zq,magOk,al,ER]
theorem Po{f:Int}{ng:Bool}{n z0 z1:Int}(hz0:0<=z0/\z0<=255)(hz1:0<=z1/\z1<=255):aV (qV f ng n z0 z1) (sY f) (gw f n z0 z1) (kQ f z1) (dr f n z0 z1)=true:=by
 grind [qV,Tc]
theorem Tw{f n:Int}(hz0:0<=z0/\z0<=255)(hz1:0<=z1/\z1<=255)(hx:eC (gw f n z0 z1) 88 88=0):cF (gw f n z0 z1) (kQ f z1).toNat≠10000000000000000:=by
 have hd:∀c∈gw f n z0 z1,c.toNat≠88:=Oo hx;rcases @n7 f n z0 z1 hz0 hz1 with⟨a1,a2,a3,a4,a5,a6,a7⟩|⟨a1,a2,a3,a4,a5,a6,a7,a8,a9,a10⟩<;>grind [ER]
end Go.Ev
